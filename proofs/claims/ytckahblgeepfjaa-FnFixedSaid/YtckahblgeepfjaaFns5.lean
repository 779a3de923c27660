/- What the functions that the laws call come to: a contract each; no condition. -/
import Derived.Test.YtckahblgeepfjaaFns4
namespace Go.Proofs.Ytckahblgeepfjaa
open Go Go.Proofs.Ytckahblgeepfjaa.X Go.Proofs
set_option maxHeartbeats 4000000 in
set_option maxRecDepth 20000 in
theorem l_FnFixed (vcode : Value) (code : List Byt) (w : World) (hcode : RdS w vcode code) (kcode : ∀ y ∈ code, True) : Ct Try.prog 4 [vcode] w (fun v _ => v = .bool true) := by
 refine ct_of Try.func4 rfl Try.ntmps4 rfl ?_
 refine S_sub [(0, vcode)] ⟨rfl, trivial⟩ ?_
 have E : Ext w w := Ext.refl w
 refine S_seq ?_
 refine S_reg [true] rfl rfl ?_
 refine J_st (R_assign rfl) rfl (J_done ?_)
 refine S_seq ?_
 refine S_seq ?_
 refine S_reg [true, false] rfl rfl ?_
 refine J_st (R_move rfl) rfl ?_
 refine J_call Try.call5 rfl (l_big vcode code _ (hcode.ext E)) rfl (fun _ w1 e1 hv => ?_)
 subst hv
 replace E := E.trans e1
 have z1 := e1.size
 refine J_done ?_
 refine S_cond rfl (fun hc1 => ?_) (fun hc1 => ?_)
 ·refine S_seq ?_
  refine S_reg [true] rfl rfl ?_
  refine J_st (R_assign rfl) rfl (J_done ?_)
  refine S_ret (E_done1 rfl rfl E ?_)
  rfl
 ·refine S_skip ?_
  refine S_seq ?_
  refine S_reg [true, false, true, true, true, true, false, false, true, true] rfl rfl ?_
  refine J_st (R_move rfl) rfl ?_
  refine J_call Try.call17 rfl (s_DrawFixpoint vcode code _ (hcode.ext E)) rfl (fun _ w2 e2 ho1 => ?_)
  obtain ⟨dx1, dx2, dx3, q1, q2, ho1⟩ := ho1
  obtain ⟨_, v1, rfl, ho2, ho3⟩ := ho1
  have g_ho1 : w.heap.size ≤ w1.heap.size := E.size
  replace E := E.trans e2
  have z2 := e2.size
  obtain ⟨o1, rfl, hd1⟩ := Graph.op ho2
  refine J_st (R_move rfl) rfl (J_st (R_extract rfl rfl) rfl (J_st (R_extract rfl rfl) rfl (J_st (R_extract rfl rfl) rfl ?_)))
  refine J_alloc st26 rfl (fun b1 w3 e3 s1 h1 => ?_)
  have g_b1 : w.heap.size ≤ b1 := by have := E.size; omega
  have y_b1 := h1.lt
  replace E := E.trans e3; replace hd1 := hd1.ext e3; replace ho3 := ho3.ext e3
  have z3 := e3.size
  refine J_storeS' (cs' := [o1, .int .i64 dx1.workers, .int .i64 dx1.cap]) st26 rfl rfl rfl (all_cons (RdD.one hd1) (all_cons rfl (all_cons rfl rfl))) h1 (Nat.le_of_ble_eq_true rfl) rfl (fun w4 m1 h1' => ?_)
  replace h1 := h1'
  replace E := E.step m1 (fun g hg => by cases hg; omega); replace hd1 := hd1.mod m1 (fun g hg => by cases hg; omega); replace ho3 := ho3.mod m1 (fun g hg => by cases hg; omega)
  have z4 := m1.size
  refine J_st (R_assign rfl) rfl (J_st (R_assign rfl) rfl (J_done ?_))
  refine S_seq ?_
  refine S_reg [true, true, true, false, true] rfl rfl ?_
  refine J_st (R_loadS st26 rfl h1.at rfl) rfl (J_st (R_move rfl) rfl (J_st (R_move rfl) rfl ?_))
  refine J_call Try.call18 rfl (c_Fixpoint [o1, .int .i64 dx1.workers, .int .i64 dx1.cap] dx1 dx2 v1 dx3 _ (Graph.mkR dx1 (RdD.any hd1)) (Own.rd (by decide) ho3) (by omega)) rfl (fun v2 w5 e4 ho4 => ?_)
  have g_ho4 : w.heap.size ≤ w4.heap.size := E.size
  replace E := E.trans e4; replace hd1 := hd1.ext e4; replace ho3 := ho3.ext e4; replace h1 := h1.ext e4
  have z5 := e4.size
  refine J_st (R_assign rfl) rfl (J_done ?_)
  refine S_seq ?_
  refine S_seq ?_
  refine S_regD mixed [(0, true), (1, true), (2, true), (3, true), (4, false), (5, false), (6, true), (7, true), (8, true), (9, true), (10, true), (12, true), (13, true), (14, true), (11, false), (15, false), (16, false), (17, true), (18, true)] (by decide +kernel) rfl (fun w6 e5 => ?_)
  replace E := E.trans e5; replace hd1 := hd1.ext e5; replace ho3 := ho3.ext e5; replace h1 := h1.ext e5; replace ho4 := ho4.ext e5
  have z6 := e5.size
  refine J_st (R_move rfl) rfl (J_st (R_loadS st26 rfl h1.at rfl) rfl (J_st (R_move rfl) rfl (J_st (R_move rfl) rfl ?_)))
  refine J_call Try.call19 rfl (s_Fixpoint [o1, .int .i64 dx1.workers, .int .i64 dx1.cap] dx1 dx2 v1 dx3 _ (Graph.mkR dx1 (RdD.any hd1)) (Own.rd (by decide) ho3) (by omega) (smG_cnt (by assumption))) rfl (fun v3 w7 e6 ho5 => ?_)
  have g_ho5 : w.heap.size ≤ w6.heap.size := E.size
  replace E := E.trans e6; replace hd1 := hd1.ext e6; replace ho3 := ho3.ext e6; replace h1 := h1.ext e6; replace ho4 := ho4.ext e6
  have z7 := e6.size
  refine J_call Try.call9 rfl (l_sameCells v2 (fixM dx1 dx2 dx3) v3 (fixM dx1 dx2 dx3) _ (Own.rd (by decide) ho4) (Own.rd (by decide) ho5)) rfl (fun _ w8 e7 hv => ?_)
  subst hv
  replace E := E.trans e7; replace hd1 := hd1.ext e7; replace ho3 := ho3.ext e7; replace h1 := h1.ext e7; replace ho4 := ho4.ext e7; replace ho5 := ho5.ext e7
  have z8 := e7.size
  refine J_st (R_not rfl) rfl (J_st (R_move rfl) rfl ?_)
  refine J_cut 11 [(0, vcode), (2, .bool false), (3, .pointer (some ⟨b1, 0, none⟩)), (4, .int .i64 dx2), (5, v1), (6, v2), (21, vcode), (22, .bool (decide (((code.length : Nat) : Int) > 1048576))), (23, .tuple [.agg [o1, .int .i64 dx1.workers, .int .i64 dx1.cap].toArray, .int .i64 dx2, v1].toArray), (24, vcode), (25, .tuple [.agg [o1, .int .i64 dx1.workers, .int .i64 dx1.cap].toArray, .int .i64 dx2, v1].toArray), (26, .agg [o1, .int .i64 dx1.workers, .int .i64 dx1.cap].toArray), (27, .int .i64 dx2), (28, v1), (29, .agg [o1, .int .i64 dx1.workers, .int .i64 dx1.cap].toArray), (30, .int .i64 dx2), (31, v1), (32, v2), (51, .bool ((!(decide ((fixM dx1 dx2 dx3) = (fixM dx1 dx2 dx3)))) || (!(decide (((fixM dx1 dx2 dx3).filter (outOf dx1)) = ((fixM dx1 dx2 dx3).filter (outOf dx1)))))))] (fun w' => Ext w w' ∧ w8.heap.size ≤ w'.heap.size ∧ RdD w' w1.heap.size w2.heap.size o1 dx1.nodes ∧ Own w' w1.heap.size w2.heap.size 5 v1 (List.flatMap (Enc.enc (α := Record)) dx3) ∧ Blk w' b1 [o1, .int .i64 dx1.workers, .int .i64 dx1.cap] ∧ Own w' w4.heap.size w5.heap.size 4 v2 (List.flatMap (Enc.enc (α := Cell)) (fixM dx1 dx2 dx3)) ∧ Own w' w6.heap.size w7.heap.size 4 v3 (List.flatMap (Enc.enc (α := Cell)) (fixM dx1 dx2 dx3))) ?_ ?_
  ·refine J_if (gd := 40) rfl rfl (fun hg1 => ?_) (fun hg1 => ?_)
   ·exact absurd hg1 (by first | (simp; done) | (simp only [nat_nlt] <;> simp) | (simp only [mkL_length, nat_nlt] <;> simp) | (simp only [mkL_length] <;> simp))
   ·refine J_gd rfl rfl (R_loadS st26 rfl h1.at rfl) rfl (J_gd rfl rfl (R_move rfl) rfl (J_gd rfl rfl (R_move rfl) rfl (J_gd rfl rfl (R_loadS st26 rfl h1.at rfl) rfl (J_gd rfl rfl (R_move rfl) rfl (J_gd rfl rfl (R_move rfl) rfl ?_)))))
    refine J_ung rfl rfl ?_
    refine J_call Try.call20 rfl (c_ResultOf [o1, .int .i64 dx1.workers, .int .i64 dx1.cap] dx1 dx2 v1 dx3 _ (Graph.mkR dx1 (RdD.any hd1)) (Own.rd (by decide) ho3) (by first | omega | (simp; done))) rfl (fun v4 w10 e8 ho6 => ?_)
    have g_ho6 : w.heap.size ≤ w8.heap.size := E.size
    replace E := E.trans e8; replace hd1 := hd1.ext e8; replace ho3 := ho3.ext e8; replace h1 := h1.ext e8; replace ho4 := ho4.ext e8; replace ho5 := ho5.ext e8
    have z9 := e8.size
    refine J_ung rfl rfl ?_
    refine J_call Try.call21 rfl (s_ResultOf [o1, .int .i64 dx1.workers, .int .i64 dx1.cap] dx1 dx2 v1 dx3 _ (Graph.mkR dx1 (RdD.any hd1)) (Own.rd (by decide) ho3) (by omega) (smG_cnt (by assumption))) rfl (fun v5 w11 e9 ho7 => ?_)
    have g_ho7 : w.heap.size ≤ w10.heap.size := E.size
    replace E := E.trans e9; replace hd1 := hd1.ext e9; replace ho3 := ho3.ext e9; replace h1 := h1.ext e9; replace ho4 := ho4.ext e9; replace ho5 := ho5.ext e9; replace ho6 := ho6.ext e9
    have z10 := e9.size
    refine J_ung rfl rfl ?_
    refine J_call Try.call9 rfl (l_sameCells v4 ((fixM dx1 dx2 dx3).filter (outOf dx1)) v5 ((fixM dx1 dx2 dx3).filter (outOf dx1)) _ (Own.rd (by decide) ho6) (Own.rd (by decide) ho7)) rfl (fun _ w12 e10 hv => ?_)
    subst hv
    replace E := E.trans e10; replace hd1 := hd1.ext e10; replace ho3 := ho3.ext e10; replace h1 := h1.ext e10; replace ho4 := ho4.ext e10; replace ho5 := ho5.ext e10; replace ho6 := ho6.ext e10; replace ho7 := ho7.ext e10
    have z11 := e10.size
    refine J_gd rfl rfl (R_not rfl) rfl (J_st (R_pickF rfl rfl) rfl (J_cutEnd ⟨rfl, rfl, rfl, rfl, rfl, rfl, rfl, rfl, rfl, rfl, rfl, rfl, rfl, rfl, rfl, rfl, rfl, rfl, congrArg (fun b => some (Value.bool b)) (show (!(decide (((fixM dx1 dx2 dx3).filter (outOf dx1)) = ((fixM dx1 dx2 dx3).filter (outOf dx1))))) = ((!(decide ((fixM dx1 dx2 dx3) = (fixM dx1 dx2 dx3)))) || (!(decide (((fixM dx1 dx2 dx3).filter (outOf dx1)) = ((fixM dx1 dx2 dx3).filter (outOf dx1)))))) by first | (rw [hg1] <;> rfl) | (simp [hg1]; done) | (simp only [nat_nlt] <;> simp)), trivial⟩ ⟨E, (by omega), hd1, ho3, h1, ho4, ho5⟩))
  clear E hd1 ho3 h1 ho4 ho5
  rintro w9 ⟨E, z12, hd1, ho3, h1, ho4, ho5⟩
  refine J_done ?_
  refine S_condFe rfl (by first | (simp; done) | (simp only [nat_nlt] <;> simp) | (simp only [mkL_length, nat_nlt] <;> simp) | (simp only [mkL_length] <;> simp)) ?_
  refine S_skip ?_
  refine S_seq ?_
  refine S_reg [true, false, true, true, true, false, false, true] rfl rfl ?_
  refine J_st (R_move rfl) rfl ?_
  refine J_call Try.call22 rfl (s_DrawIsClosed vcode code _ (hcode.ext E)) rfl (fun _ w13 e11 ho8 => ?_)
  obtain ⟨dx4, dx5, q3, q4, ho8⟩ := ho8
  obtain ⟨_, v6, rfl, ho9, ho10⟩ := ho8
  have g_ho8 : w.heap.size ≤ w9.heap.size := E.size
  replace E := E.trans e11; replace hd1 := hd1.ext e11; replace ho3 := ho3.ext e11; replace h1 := h1.ext e11; replace ho4 := ho4.ext e11; replace ho5 := ho5.ext e11
  have z13 := e11.size
  obtain ⟨o2, rfl, hd2⟩ := Graph.op ho9
  refine J_st (R_move rfl) rfl (J_st (R_extract rfl rfl) rfl (J_st (R_extract rfl rfl) rfl ?_))
  refine J_alloc st26 rfl (fun b2 w14 e12 s2 h2 => ?_)
  have g_b2 : w.heap.size ≤ b2 := by have := E.size; omega
  have y_b2 := h2.lt
  replace E := E.trans e12; replace hd1 := hd1.ext e12; replace ho3 := ho3.ext e12; replace h1 := h1.ext e12; replace ho4 := ho4.ext e12; replace ho5 := ho5.ext e12; replace hd2 := hd2.ext e12; replace ho10 := ho10.ext e12
  have z14 := e12.size
  refine J_storeS' (cs' := [o2, .int .i64 dx4.workers, .int .i64 dx4.cap]) st26 rfl rfl rfl (all_cons (RdD.one hd2) (all_cons rfl (all_cons rfl rfl))) h2 (Nat.le_of_ble_eq_true rfl) rfl (fun w15 m2 h2' => ?_)
  replace h2 := h2'
  replace E := E.step m2 (fun g hg => by cases hg; omega); replace hd1 := hd1.mod m2 (fun g hg => by cases hg; omega); replace ho3 := ho3.mod m2 (fun g hg => by cases hg; omega); replace h1 := h1.mod m2 (fun g hg => by cases hg; omega); replace ho4 := ho4.mod m2 (fun g hg => by cases hg; omega); replace ho5 := ho5.mod m2 (fun g hg => by cases hg; omega); replace hd2 := hd2.mod m2 (fun g hg => by cases hg; omega); replace ho10 := ho10.mod m2 (fun g hg => by cases hg; omega)
  have z15 := m2.size
  refine J_st (R_assign rfl) rfl (J_done ?_)
  refine S_seq ?_
  refine S_reg [true, false, true, true, true, true, true] rfl rfl ?_
  refine J_st (R_move rfl) rfl ?_
  refine J_call Try.call23 rfl (s_DrawNoWorse vcode code _ (hcode.ext E)) rfl (fun _ w16 e13 ho11 => ?_)
  obtain ⟨dx6, dx7, q5, q6, ho11⟩ := ho11
  obtain ⟨v7, v8, rfl, ho12, ho13, sp1⟩ := ho11
  have g_ho11 : w.heap.size ≤ w15.heap.size := E.size
  replace E := E.trans e13; replace hd1 := hd1.ext e13; replace ho3 := ho3.ext e13; replace h1 := h1.ext e13; replace ho4 := ho4.ext e13; replace ho5 := ho5.ext e13; replace hd2 := hd2.ext e13; replace ho10 := ho10.ext e13; replace h2 := h2.ext e13
  have z16 := e13.size
  refine J_st (R_move rfl) rfl (J_st (R_extract rfl rfl) rfl (J_st (R_extract rfl rfl) rfl (J_st (R_assign rfl) rfl (J_st (R_assign rfl) rfl (J_done ?_)))))
  refine S_seq ?_
  refine S_reg [true, false, true, true, true, true, false, false, false, true, false] rfl rfl ?_
  refine J_st (R_move rfl) rfl ?_
  refine J_call Try.call24 rfl (s_DrawImprove vcode code _ (hcode.ext E)) rfl (fun _ w17 e14 ho14 => ?_)
  obtain ⟨dx8, dx9, dx10, q7, q8, q9, q10, q11, ho14⟩ := ho14
  obtain ⟨_, v9, rfl, ho15, ho16⟩ := ho14
  have g_ho14 : w.heap.size ≤ w16.heap.size := E.size
  replace E := E.trans e14; replace hd1 := hd1.ext e14; replace ho3 := ho3.ext e14; replace h1 := h1.ext e14; replace ho4 := ho4.ext e14; replace ho5 := ho5.ext e14; replace hd2 := hd2.ext e14; replace ho10 := ho10.ext e14; replace h2 := h2.ext e14; replace ho12 := ho12.ext e14; replace ho13 := ho13.ext e14
  have z17 := e14.size
  obtain ⟨o3, rfl, hd3⟩ := Graph.op ho15
  refine J_st (R_move rfl) rfl (J_st (R_extract rfl rfl) rfl (J_st (R_extract rfl rfl) rfl (J_st (R_extract rfl rfl) rfl ?_)))
  refine J_alloc st26 rfl (fun b3 w18 e15 s3 h3 => ?_)
  have g_b3 : w.heap.size ≤ b3 := by have := E.size; omega
  have y_b3 := h3.lt
  replace E := E.trans e15; replace hd1 := hd1.ext e15; replace ho3 := ho3.ext e15; replace h1 := h1.ext e15; replace ho4 := ho4.ext e15; replace ho5 := ho5.ext e15; replace hd2 := hd2.ext e15; replace ho10 := ho10.ext e15; replace h2 := h2.ext e15; replace ho12 := ho12.ext e15; replace ho13 := ho13.ext e15; replace hd3 := hd3.ext e15; replace ho16 := ho16.ext e15
  have z18 := e15.size
  refine J_alloc st56 rfl (fun b4 w19 e16 s4 h4 => ?_)
  have g_b4 : w.heap.size ≤ b4 := by have := E.size; omega
  have y_b4 := h4.lt
  replace E := E.trans e16; replace hd1 := hd1.ext e16; replace ho3 := ho3.ext e16; replace h1 := h1.ext e16; replace ho4 := ho4.ext e16; replace ho5 := ho5.ext e16; replace hd2 := hd2.ext e16; replace ho10 := ho10.ext e16; replace h2 := h2.ext e16; replace ho12 := ho12.ext e16; replace ho13 := ho13.ext e16; replace hd3 := hd3.ext e16; replace ho16 := ho16.ext e16; replace h3 := h3.ext e16
  have z19 := e16.size
  refine J_storeS' (cs' := [o3, .int .i64 dx8.workers, .int .i64 dx8.cap]) st26 rfl rfl rfl (all_cons (RdD.one hd3) (all_cons rfl (all_cons rfl rfl))) h3 (Nat.le_of_ble_eq_true rfl) rfl (fun w20 m3 h3' => ?_)
  replace h3 := h3'
  replace E := E.step m3 (fun g hg => by cases hg; omega); replace hd1 := hd1.mod m3 (fun g hg => by cases hg; omega); replace ho3 := ho3.mod m3 (fun g hg => by cases hg; omega); replace h1 := h1.mod m3 (fun g hg => by cases hg; omega); replace ho4 := ho4.mod m3 (fun g hg => by cases hg; omega); replace ho5 := ho5.mod m3 (fun g hg => by cases hg; omega); replace hd2 := hd2.mod m3 (fun g hg => by cases hg; omega); replace ho10 := ho10.mod m3 (fun g hg => by cases hg; omega); replace h2 := h2.mod m3 (fun g hg => by cases hg; omega); replace ho12 := ho12.mod m3 (fun g hg => by cases hg; omega); replace ho13 := ho13.mod m3 (fun g hg => by cases hg; omega); replace hd3 := hd3.mod m3 (fun g hg => by cases hg; omega); replace ho16 := ho16.mod m3 (fun g hg => by cases hg; omega); replace h4 := h4.mod m3 (fun g hg => by cases hg; omega)
  have z20 := m3.size
  refine J_st (R_assign rfl) rfl ?_
  refine J_storeS' (cs' := [.int .i64 dx10.op, .int .i64 dx10.epoch, .int .i64 dx10.key, .int .i64 dx10.val]) st56 rfl rfl rfl rfl h4 (Nat.le_of_ble_eq_true rfl) rfl (fun w21 m4 h4' => ?_)
  replace h4 := h4'
  replace E := E.step m4 (fun g hg => by cases hg; omega); replace hd1 := hd1.mod m4 (fun g hg => by cases hg; omega); replace ho3 := ho3.mod m4 (fun g hg => by cases hg; omega); replace h1 := h1.mod m4 (fun g hg => by cases hg; omega); replace ho4 := ho4.mod m4 (fun g hg => by cases hg; omega); replace ho5 := ho5.mod m4 (fun g hg => by cases hg; omega); replace hd2 := hd2.mod m4 (fun g hg => by cases hg; omega); replace ho10 := ho10.mod m4 (fun g hg => by cases hg; omega); replace h2 := h2.mod m4 (fun g hg => by cases hg; omega); replace ho12 := ho12.mod m4 (fun g hg => by cases hg; omega); replace ho13 := ho13.mod m4 (fun g hg => by cases hg; omega); replace hd3 := hd3.mod m4 (fun g hg => by cases hg; omega); replace ho16 := ho16.mod m4 (fun g hg => by cases hg; omega); replace h3 := h3.mod m4 (fun g hg => by cases hg; omega)
  have z21 := m4.size
  refine J_done ?_
  refine S_seq ?_
  refine S_reg [true, true, true, false, true, true, true, true, true] rfl rfl ?_
  refine J_st (R_loadS st26 rfl h3.at rfl) rfl (J_st (R_move rfl) rfl (J_st (R_loadS st56 rfl h4.at rfl) rfl ?_))
  refine J_call Try.call25 rfl (c_Improve [o3, .int .i64 dx8.workers, .int .i64 dx8.cap] dx8 v9 dx9 dx10 _ (Graph.mkR dx8 (RdD.any hd3)) (Own.rd (by decide) ho16) (by omega)) rfl (fun _ w22 e17 ho17 => ?_)
  obtain ⟨v10, v11, rfl, ho18, ho19, sp2⟩ := ho17
  have g_ho17 : w.heap.size ≤ w21.heap.size := E.size
  replace E := E.trans e17; replace hd1 := hd1.ext e17; replace ho3 := ho3.ext e17; replace h1 := h1.ext e17; replace ho4 := ho4.ext e17; replace ho5 := ho5.ext e17; replace hd2 := hd2.ext e17; replace ho10 := ho10.ext e17; replace h2 := h2.ext e17; replace ho12 := ho12.ext e17; replace ho13 := ho13.ext e17; replace hd3 := hd3.ext e17; replace ho16 := ho16.ext e17; replace h3 := h3.ext e17; replace h4 := h4.ext e17
  have z22 := e17.size
  refine J_st (R_move rfl) rfl (J_st (R_extract rfl rfl) rfl (J_st (R_extract rfl rfl) rfl (J_st (R_assign rfl) rfl (J_st (R_assign rfl) rfl (J_done ?_)))))
  refine S_seq ?_
  refine S_reg [true, true, true, false, true, true, true, true, true] rfl rfl ?_
  refine J_st (R_loadS st26 rfl h3.at rfl) rfl (J_st (R_move rfl) rfl (J_st (R_loadS st56 rfl h4.at rfl) rfl ?_))
  refine J_call Try.call26 rfl (s_Improve [o3, .int .i64 dx8.workers, .int .i64 dx8.cap] dx8 v9 dx9 dx10 _ (Graph.mkR dx8 (RdD.any hd3)) (Own.rd (by decide) ho16) (by omega) (smG_cnt (by assumption))) rfl (fun _ w23 e18 ho20 => ?_)
  obtain ⟨v12, v13, rfl, ho21, ho22, sp3⟩ := ho20
  have g_ho20 : w.heap.size ≤ w22.heap.size := E.size
  replace E := E.trans e18; replace hd1 := hd1.ext e18; replace ho3 := ho3.ext e18; replace h1 := h1.ext e18; replace ho4 := ho4.ext e18; replace ho5 := ho5.ext e18; replace hd2 := hd2.ext e18; replace ho10 := ho10.ext e18; replace h2 := h2.ext e18; replace ho12 := ho12.ext e18; replace ho13 := ho13.ext e18; replace hd3 := hd3.ext e18; replace ho16 := ho16.ext e18; replace h3 := h3.ext e18; replace h4 := h4.ext e18; replace ho18 := ho18.ext e18; replace ho19 := ho19.ext e18
  have z23 := e18.size
  refine J_st (R_move rfl) rfl (J_st (R_extract rfl rfl) rfl (J_st (R_extract rfl rfl) rfl (J_st (R_assign rfl) rfl (J_st (R_assign rfl) rfl (J_done ?_)))))
  refine S_seq ?_
  refine S_seq ?_
  refine S_regD mixed [(0, true), (1, true), (3, true), (4, true), (2, false), (5, false), (6, true), (7, true), (8, true), (9, true), (11, true), (12, true), (10, false), (13, false), (14, true), (15, true), (16, true), (17, true), (18, true), (19, false), (20, true), (21, true), (22, true), (23, true), (24, true), (25, false), (26, true), (27, true), (28, true), (29, true), (30, true), (32, true), (33, true), (31, false), (34, false), (35, false), (36, true), (37, true)] (by decide +kernel) rfl (fun w24 e19 => ?_)
  replace E := E.trans e19; replace hd1 := hd1.ext e19; replace ho3 := ho3.ext e19; replace h1 := h1.ext e19; replace ho4 := ho4.ext e19; replace ho5 := ho5.ext e19; replace hd2 := hd2.ext e19; replace ho10 := ho10.ext e19; replace h2 := h2.ext e19; replace ho12 := ho12.ext e19; replace ho13 := ho13.ext e19; replace hd3 := hd3.ext e19; replace ho16 := ho16.ext e19; replace h3 := h3.ext e19; replace h4 := h4.ext e19; replace ho18 := ho18.ext e19; replace ho19 := ho19.ext e19; replace ho21 := ho21.ext e19; replace ho22 := ho22.ext e19
  have z24 := e19.size
  refine J_st (R_loadS st26 rfl h2.at rfl) rfl (J_st (R_move rfl) rfl (J_st (R_loadS st26 rfl h2.at rfl) rfl (J_st (R_move rfl) rfl ?_)))
  refine J_call Try.call27 rfl (c_IsClosed [o2, .int .i64 dx4.workers, .int .i64 dx4.cap] dx4 v6 dx5 _ (Graph.mkR dx4 (RdD.any hd2)) (Own.rd (by decide) ho10) (by have := fix_len dx1 dx2 dx3; omega)) rfl (fun _ w25 e20 hv => ?_)
  subst hv
  replace E := E.trans e20; replace hd1 := hd1.ext e20; replace ho3 := ho3.ext e20; replace h1 := h1.ext e20; replace ho4 := ho4.ext e20; replace ho5 := ho5.ext e20; replace hd2 := hd2.ext e20; replace ho10 := ho10.ext e20; replace h2 := h2.ext e20; replace ho12 := ho12.ext e20; replace ho13 := ho13.ext e20; replace hd3 := hd3.ext e20; replace ho16 := ho16.ext e20; replace h3 := h3.ext e20; replace h4 := h4.ext e20; replace ho18 := ho18.ext e20; replace ho19 := ho19.ext e20; replace ho21 := ho21.ext e20; replace ho22 := ho22.ext e20
  have z25 := e20.size
  refine J_call Try.call28 rfl (s_IsClosed [o2, .int .i64 dx4.workers, .int .i64 dx4.cap] dx4 v6 dx5 _ (Graph.mkR dx4 (RdD.any hd2)) (Own.rd (by decide) ho10) (by omega) (smG_cnt (by assumption))) rfl (fun _ w26 e21 hv => ?_)
  subst hv
  replace E := E.trans e21; replace hd1 := hd1.ext e21; replace ho3 := ho3.ext e21; replace h1 := h1.ext e21; replace ho4 := ho4.ext e21; replace ho5 := ho5.ext e21; replace hd2 := hd2.ext e21; replace ho10 := ho10.ext e21; replace h2 := h2.ext e21; replace ho12 := ho12.ext e21; replace ho13 := ho13.ext e21; replace hd3 := hd3.ext e21; replace ho16 := ho16.ext e21; replace h3 := h3.ext e21; replace h4 := h4.ext e21; replace ho18 := ho18.ext e21; replace ho19 := ho19.ext e21; replace ho21 := ho21.ext e21; replace ho22 := ho22.ext e21
  have z26 := e21.size
  refine J_st (R_neqB (Try.underlying4) rfl rfl) rfl (J_st (R_move rfl) rfl ?_)
  refine J_cut 30 [(0, vcode), (2, .bool false), (3, .pointer (some ⟨b1, 0, none⟩)), (4, .int .i64 dx2), (5, v1), (6, v2), (7, .pointer (some ⟨b2, 0, none⟩)), (8, v6), (9, v7), (10, v8), (11, .pointer (some ⟨b3, 0, none⟩)), (12, v9), (13, .pointer (some ⟨b4, 0, none⟩)), (14, v10), (15, v11), (16, v12), (17, v13), (21, vcode), (22, .bool (decide (((code.length : Nat) : Int) > 1048576))), (23, .tuple [.agg [o1, .int .i64 dx1.workers, .int .i64 dx1.cap].toArray, .int .i64 dx2, v1].toArray), (24, vcode), (25, .tuple [.agg [o1, .int .i64 dx1.workers, .int .i64 dx1.cap].toArray, .int .i64 dx2, v1].toArray), (26, .agg [o1, .int .i64 dx1.workers, .int .i64 dx1.cap].toArray), (27, .int .i64 dx2), (28, v1), (29, .agg [o1, .int .i64 dx1.workers, .int .i64 dx1.cap].toArray), (30, .int .i64 dx2), (31, v1), (32, v2), (51, .bool ((!(decide ((fixM dx1 dx2 dx3) = (fixM dx1 dx2 dx3)))) || (!(decide (((fixM dx1 dx2 dx3).filter (outOf dx1)) = ((fixM dx1 dx2 dx3).filter (outOf dx1))))))), (52, .tuple [.agg [o2, .int .i64 dx4.workers, .int .i64 dx4.cap].toArray, v6].toArray), (53, vcode), (54, .tuple [.agg [o2, .int .i64 dx4.workers, .int .i64 dx4.cap].toArray, v6].toArray), (55, .agg [o2, .int .i64 dx4.workers, .int .i64 dx4.cap].toArray), (56, v6), (57, .tuple [v7, v8].toArray), (58, vcode), (59, .tuple [v7, v8].toArray), (60, v7), (61, v8), (62, .tuple [.agg [o3, .int .i64 dx8.workers, .int .i64 dx8.cap].toArray, v9, .agg (Enc.enc dx10).toArray].toArray), (63, vcode), (64, .tuple [.agg [o3, .int .i64 dx8.workers, .int .i64 dx8.cap].toArray, v9, .agg (Enc.enc dx10).toArray].toArray), (65, .agg [o3, .int .i64 dx8.workers, .int .i64 dx8.cap].toArray), (66, v9), (67, .agg (Enc.enc dx10).toArray), (68, .tuple [v10, v11].toArray), (69, .agg [o3, .int .i64 dx8.workers, .int .i64 dx8.cap].toArray), (70, v9), (71, .agg (Enc.enc dx10).toArray), (72, .tuple [v10, v11].toArray), (73, v10), (74, v11), (75, .tuple [v12, v13].toArray), (76, .agg [o3, .int .i64 dx8.workers, .int .i64 dx8.cap].toArray), (77, v9), (78, .agg (Enc.enc dx10).toArray), (79, .tuple [v12, v13].toArray), (80, v12), (81, v13), (119, .bool (((((!((isClosedM dx4 dx5) == (isClosedM dx4 dx5))) || (!((dx7.all (nwP dx6)) == (dx7.all (nwP dx6))))) || (!(decide (((improveM dx8 dx9 dx10).1) = ((improveM dx8 dx9 dx10).1))))) || (!(decide (((improveM dx8 dx9 dx10).2) = ((improveM dx8 dx9 dx10).2))))) || (!(decide ((dx5.filter (outOf dx4)) = (dx5.filter (outOf dx4)))))))] (fun w' => Ext w w' ∧ w26.heap.size ≤ w'.heap.size ∧ RdD w' w1.heap.size w2.heap.size o1 dx1.nodes ∧ Own w' w1.heap.size w2.heap.size 5 v1 (List.flatMap (Enc.enc (α := Record)) dx3) ∧ Blk w' b1 [o1, .int .i64 dx1.workers, .int .i64 dx1.cap] ∧ Own w' w4.heap.size w5.heap.size 4 v2 (List.flatMap (Enc.enc (α := Cell)) (fixM dx1 dx2 dx3)) ∧ Own w' w6.heap.size w7.heap.size 4 v3 (List.flatMap (Enc.enc (α := Cell)) (fixM dx1 dx2 dx3)) ∧ RdD w' w9.heap.size w13.heap.size o2 dx4.nodes ∧ Own w' w9.heap.size w13.heap.size 4 v6 (List.flatMap (Enc.enc (α := Cell)) dx5) ∧ Blk w' b2 [o2, .int .i64 dx4.workers, .int .i64 dx4.cap] ∧ Own w' w15.heap.size w16.heap.size 4 v7 (List.flatMap (Enc.enc (α := Cell)) dx6) ∧ Own w' w15.heap.size w16.heap.size 4 v8 (List.flatMap (Enc.enc (α := Cell)) dx7) ∧ RdD w' w16.heap.size w17.heap.size o3 dx8.nodes ∧ Own w' w16.heap.size w17.heap.size 4 v9 (List.flatMap (Enc.enc (α := Cell)) dx9) ∧ Blk w' b3 [o3, .int .i64 dx8.workers, .int .i64 dx8.cap] ∧ Blk w' b4 [.int .i64 dx10.op, .int .i64 dx10.epoch, .int .i64 dx10.key, .int .i64 dx10.val] ∧ Own w' w21.heap.size w22.heap.size 4 v10 (List.flatMap (Enc.enc (α := Cell)) ((improveM dx8 dx9 dx10).1)) ∧ Own w' w21.heap.size w22.heap.size 4 v11 (List.flatMap (Enc.enc (α := Cell)) ((improveM dx8 dx9 dx10).2)) ∧ Own w' w22.heap.size w23.heap.size 4 v12 (List.flatMap (Enc.enc (α := Cell)) ((improveM dx8 dx9 dx10).1)) ∧ Own w' w22.heap.size w23.heap.size 4 v13 (List.flatMap (Enc.enc (α := Cell)) ((improveM dx8 dx9 dx10).2))) ?_ ?_
  ·refine J_if (gd := 89) rfl rfl (fun hg2 => ?_) (fun hg2 => ?_)
   ·exact absurd hg2 (by first | (simp; done) | (simp only [nat_nlt] <;> simp) | (simp only [mkL_length, nat_nlt] <;> simp) | (simp only [mkL_length] <;> simp))
   ·refine J_gd rfl rfl (R_move rfl) rfl (J_gd rfl rfl (R_move rfl) rfl (J_gd rfl rfl (R_move rfl) rfl (J_gd rfl rfl (R_move rfl) rfl ?_)))
    refine J_ung rfl rfl ?_
    refine J_call Try.call29 rfl (c_NoWorse v7 dx6 v8 dx7 _ (Own.rd (by decide) ho12) (Own.rd (by decide) ho13)) rfl (fun _ w28 e22 hv => ?_)
    subst hv
    replace E := E.trans e22; replace hd1 := hd1.ext e22; replace ho3 := ho3.ext e22; replace h1 := h1.ext e22; replace ho4 := ho4.ext e22; replace ho5 := ho5.ext e22; replace hd2 := hd2.ext e22; replace ho10 := ho10.ext e22; replace h2 := h2.ext e22; replace ho12 := ho12.ext e22; replace ho13 := ho13.ext e22; replace hd3 := hd3.ext e22; replace ho16 := ho16.ext e22; replace h3 := h3.ext e22; replace h4 := h4.ext e22; replace ho18 := ho18.ext e22; replace ho19 := ho19.ext e22; replace ho21 := ho21.ext e22; replace ho22 := ho22.ext e22
    have z27 := e22.size
    refine J_ung rfl rfl ?_
    refine J_call Try.call30 rfl (s_NoWorse v7 dx6 v8 dx7 _ (Own.rd (by decide) ho12) (Own.rd (by decide) ho13)) rfl (fun _ w29 e23 hv => ?_)
    subst hv
    replace E := E.trans e23; replace hd1 := hd1.ext e23; replace ho3 := ho3.ext e23; replace h1 := h1.ext e23; replace ho4 := ho4.ext e23; replace ho5 := ho5.ext e23; replace hd2 := hd2.ext e23; replace ho10 := ho10.ext e23; replace h2 := h2.ext e23; replace ho12 := ho12.ext e23; replace ho13 := ho13.ext e23; replace hd3 := hd3.ext e23; replace ho16 := ho16.ext e23; replace h3 := h3.ext e23; replace h4 := h4.ext e23; replace ho18 := ho18.ext e23; replace ho19 := ho19.ext e23; replace ho21 := ho21.ext e23; replace ho22 := ho22.ext e23
    have z28 := e23.size
    refine J_gd rfl rfl (R_neqB (Try.underlying4) rfl rfl) rfl (J_st (R_pickF rfl rfl) rfl (J_st (R_move rfl) rfl ?_))
    refine J_if (gd := 98) rfl rfl (fun hg3 => ?_) (fun hg3 => ?_)
    ·exact absurd hg3 (by first | (simp; done) | (simp only [nat_nlt] <;> simp) | (simp only [mkL_length, nat_nlt] <;> simp) | (simp only [mkL_length] <;> simp))
    ·refine J_gd rfl rfl (R_move rfl) rfl (J_gd rfl rfl (R_move rfl) rfl ?_)
     refine J_ung rfl rfl ?_
     refine J_call Try.call9 rfl (l_sameCells v10 ((improveM dx8 dx9 dx10).1) v12 ((improveM dx8 dx9 dx10).1) _ (Own.rd (by decide) ho18) (Own.rd (by decide) ho21)) rfl (fun _ w30 e24 hv => ?_)
     subst hv
     replace E := E.trans e24; replace hd1 := hd1.ext e24; replace ho3 := ho3.ext e24; replace h1 := h1.ext e24; replace ho4 := ho4.ext e24; replace ho5 := ho5.ext e24; replace hd2 := hd2.ext e24; replace ho10 := ho10.ext e24; replace h2 := h2.ext e24; replace ho12 := ho12.ext e24; replace ho13 := ho13.ext e24; replace hd3 := hd3.ext e24; replace ho16 := ho16.ext e24; replace h3 := h3.ext e24; replace h4 := h4.ext e24; replace ho18 := ho18.ext e24; replace ho19 := ho19.ext e24; replace ho21 := ho21.ext e24; replace ho22 := ho22.ext e24
     have z29 := e24.size
     refine J_gd rfl rfl (R_not rfl) rfl (J_st (R_pickF rfl rfl) rfl (J_st (R_move rfl) rfl ?_))
     refine J_if (gd := 104) rfl rfl (fun hg4 => ?_) (fun hg4 => ?_)
     ·exact absurd hg4 (by first | (simp; done) | (simp only [nat_nlt] <;> simp) | (simp only [mkL_length, nat_nlt] <;> simp) | (simp only [mkL_length] <;> simp))
     ·refine J_gd rfl rfl (R_move rfl) rfl (J_gd rfl rfl (R_move rfl) rfl ?_)
      refine J_ung rfl rfl ?_
      refine J_call Try.call9 rfl (l_sameCells v11 ((improveM dx8 dx9 dx10).2) v13 ((improveM dx8 dx9 dx10).2) _ (Own.rd (by decide) ho19) (Own.rd (by decide) ho22)) rfl (fun _ w31 e25 hv => ?_)
      subst hv
      replace E := E.trans e25; replace hd1 := hd1.ext e25; replace ho3 := ho3.ext e25; replace h1 := h1.ext e25; replace ho4 := ho4.ext e25; replace ho5 := ho5.ext e25; replace hd2 := hd2.ext e25; replace ho10 := ho10.ext e25; replace h2 := h2.ext e25; replace ho12 := ho12.ext e25; replace ho13 := ho13.ext e25; replace hd3 := hd3.ext e25; replace ho16 := ho16.ext e25; replace h3 := h3.ext e25; replace h4 := h4.ext e25; replace ho18 := ho18.ext e25; replace ho19 := ho19.ext e25; replace ho21 := ho21.ext e25; replace ho22 := ho22.ext e25
      have z30 := e25.size
      refine J_gd rfl rfl (R_not rfl) rfl (J_st (R_pickF rfl rfl) rfl (J_st (R_move rfl) rfl ?_))
      refine J_if (gd := 110) rfl rfl (fun hg5 => ?_) (fun hg5 => ?_)
      ·exact absurd hg5 (by first | (simp; done) | (simp only [nat_nlt] <;> simp) | (simp only [mkL_length, nat_nlt] <;> simp) | (simp only [mkL_length] <;> simp))
      ·refine J_gd rfl rfl (R_loadS st26 rfl h2.at rfl) rfl (J_gd rfl rfl (R_move rfl) rfl (J_gd rfl rfl (R_loadS st26 rfl h2.at rfl) rfl (J_gd rfl rfl (R_move rfl) rfl ?_)))
       refine J_ung rfl rfl ?_
       refine J_call Try.call31 rfl (c_OutsOnly [o2, .int .i64 dx4.workers, .int .i64 dx4.cap] dx4 v6 dx5 _ (Graph.mkR dx4 (RdD.any hd2)) (Own.rd (by decide) ho10) (by omega)) rfl (fun v14 w32 e26 ho23 => ?_)
       have g_ho23 : w.heap.size ≤ w31.heap.size := E.size
       replace E := E.trans e26; replace hd1 := hd1.ext e26; replace ho3 := ho3.ext e26; replace h1 := h1.ext e26; replace ho4 := ho4.ext e26; replace ho5 := ho5.ext e26; replace hd2 := hd2.ext e26; replace ho10 := ho10.ext e26; replace h2 := h2.ext e26; replace ho12 := ho12.ext e26; replace ho13 := ho13.ext e26; replace hd3 := hd3.ext e26; replace ho16 := ho16.ext e26; replace h3 := h3.ext e26; replace h4 := h4.ext e26; replace ho18 := ho18.ext e26; replace ho19 := ho19.ext e26; replace ho21 := ho21.ext e26; replace ho22 := ho22.ext e26
       have z31 := e26.size
       refine J_ung rfl rfl ?_
       refine J_call Try.call32 rfl (s_OutsOnly [o2, .int .i64 dx4.workers, .int .i64 dx4.cap] dx4 v6 dx5 _ (Graph.mkR dx4 (RdD.any hd2)) (Own.rd (by decide) ho10) (by omega) (smG_cnt (by assumption))) rfl (fun v15 w33 e27 ho24 => ?_)
       have g_ho24 : w.heap.size ≤ w32.heap.size := E.size
       replace E := E.trans e27; replace hd1 := hd1.ext e27; replace ho3 := ho3.ext e27; replace h1 := h1.ext e27; replace ho4 := ho4.ext e27; replace ho5 := ho5.ext e27; replace hd2 := hd2.ext e27; replace ho10 := ho10.ext e27; replace h2 := h2.ext e27; replace ho12 := ho12.ext e27; replace ho13 := ho13.ext e27; replace hd3 := hd3.ext e27; replace ho16 := ho16.ext e27; replace h3 := h3.ext e27; replace h4 := h4.ext e27; replace ho18 := ho18.ext e27; replace ho19 := ho19.ext e27; replace ho21 := ho21.ext e27; replace ho22 := ho22.ext e27; replace ho23 := ho23.ext e27
       have z32 := e27.size
       refine J_ung rfl rfl ?_
       refine J_call Try.call9 rfl (l_sameCells v14 (dx5.filter (outOf dx4)) v15 (dx5.filter (outOf dx4)) _ (Own.rd (by decide) ho23) (Own.rd (by decide) ho24)) rfl (fun _ w34 e28 hv => ?_)
       subst hv
       replace E := E.trans e28; replace hd1 := hd1.ext e28; replace ho3 := ho3.ext e28; replace h1 := h1.ext e28; replace ho4 := ho4.ext e28; replace ho5 := ho5.ext e28; replace hd2 := hd2.ext e28; replace ho10 := ho10.ext e28; replace h2 := h2.ext e28; replace ho12 := ho12.ext e28; replace ho13 := ho13.ext e28; replace hd3 := hd3.ext e28; replace ho16 := ho16.ext e28; replace h3 := h3.ext e28; replace h4 := h4.ext e28; replace ho18 := ho18.ext e28; replace ho19 := ho19.ext e28; replace ho21 := ho21.ext e28; replace ho22 := ho22.ext e28; replace ho23 := ho23.ext e28; replace ho24 := ho24.ext e28
       have z33 := e28.size
       refine J_gd rfl rfl (R_not rfl) rfl (J_st (R_pickF rfl rfl) rfl (J_cutEnd ⟨rfl, rfl, rfl, rfl, rfl, rfl, rfl, rfl, rfl, rfl, rfl, rfl, rfl, rfl, rfl, rfl, rfl, rfl, rfl, rfl, rfl, rfl, rfl, rfl, rfl, rfl, rfl, rfl, rfl, rfl, rfl, rfl, rfl, rfl, rfl, rfl, rfl, rfl, rfl, rfl, rfl, rfl, rfl, rfl, rfl, rfl, rfl, rfl, rfl, rfl, rfl, rfl, rfl, rfl, rfl, rfl, rfl, rfl, rfl, rfl, congrArg (fun b => some (Value.bool b)) (show (!(decide ((dx5.filter (outOf dx4)) = (dx5.filter (outOf dx4))))) = (((((!((isClosedM dx4 dx5) == (isClosedM dx4 dx5))) || (!((dx7.all (nwP dx6)) == (dx7.all (nwP dx6))))) || (!(decide (((improveM dx8 dx9 dx10).1) = ((improveM dx8 dx9 dx10).1))))) || (!(decide (((improveM dx8 dx9 dx10).2) = ((improveM dx8 dx9 dx10).2))))) || (!(decide ((dx5.filter (outOf dx4)) = (dx5.filter (outOf dx4)))))) by first | (rw [hg2, hg3, hg4, hg5] <;> rfl) | (simp [hg2, hg3, hg4, hg5]; done) | (simp only [nat_nlt] <;> simp)), trivial⟩ ⟨E, (by omega), hd1, ho3, h1, ho4, ho5, hd2, ho10, h2, ho12, ho13, hd3, ho16, h3, h4, ho18, ho19, ho21, ho22⟩))
  clear E hd1 ho3 h1 ho4 ho5 hd2 ho10 h2 ho12 ho13 hd3 ho16 h3 h4 ho18 ho19 ho21 ho22
  rintro w27 ⟨E, z34, hd1, ho3, h1, ho4, ho5, hd2, ho10, h2, ho12, ho13, hd3, ho16, h3, h4, ho18, ho19, ho21, ho22⟩
  refine J_done ?_
  refine S_condFe rfl (by first | (simp; done) | (simp only [nat_nlt] <;> simp) | (simp only [mkL_length, nat_nlt] <;> simp) | (simp only [mkL_length] <;> simp)) ?_
  refine S_skip ?_
  refine S_seq ?_
  refine S_reg [false, true, true, false, true, false, false] rfl rfl ?_
  refine J_buildSlice (vs := [.int .i64 1]) (css := [[.int .i64 1]]) sl40 rfl rfl ⟨⟨rfl, rfl⟩, trivial⟩ rfl rfl (fun b5 w35 e29 s5 h5 => ?_)
  replace h5 : Blk w35 b5 [.int .i64 1] := h5
  have g_b5 : w.heap.size ≤ b5 := by have := E.size; omega
  have y_b5 := h5.lt
  replace E := E.trans e29; replace hd1 := hd1.ext e29; replace ho3 := ho3.ext e29; replace h1 := h1.ext e29; replace ho4 := ho4.ext e29; replace ho5 := ho5.ext e29; replace hd2 := hd2.ext e29; replace ho10 := ho10.ext e29; replace h2 := h2.ext e29; replace ho12 := ho12.ext e29; replace ho13 := ho13.ext e29; replace hd3 := hd3.ext e29; replace ho16 := ho16.ext e29; replace h3 := h3.ext e29; replace h4 := h4.ext e29; replace ho18 := ho18.ext e29; replace ho19 := ho19.ext e29; replace ho21 := ho21.ext e29; replace ho22 := ho22.ext e29
  have z35 := e29.size
  have hbl1 : ∀ w, (Instr.build 42 ([(0, .int .i64 1), (3, .slice (some ⟨b5, 0, none⟩) 1 1)]).toArray).run Try.prog w = .ok (.agg [.int .i64 1, .int .i64 0, .int .i64 0, .slice (some ⟨b5, 0, none⟩) 1 1].toArray) w := by clear E; intro w; kernel_rfl
  refine J_st (R_buildC [.int .i64 1, .int .i64 0, .int .i64 0, .slice (some ⟨b5, 0, none⟩) 1 1] rfl hbl1) rfl ?_
  have hbl2 : ∀ w, (Instr.build 42 ([(0, .int .i64 8)]).toArray).run Try.prog w = .ok (.agg [.int .i64 8, .int .i64 0, .int .i64 0, .slice none 0 0].toArray) w := by clear E; intro w; kernel_rfl
  refine J_st (R_buildC [.int .i64 8, .int .i64 0, .int .i64 0, .slice none 0 0] rfl hbl2) rfl ?_
  refine J_buildSlice (vs := [.agg [.int .i64 1, .int .i64 0, .int .i64 0, .slice (some ⟨b5, 0, none⟩) 1 1].toArray, .agg [.int .i64 8, .int .i64 0, .int .i64 0, .slice none 0 0].toArray]) (css := [[.int .i64 1, .int .i64 0, .int .i64 0, .slice (some ⟨b5, 0, none⟩) 1 1], [.int .i64 8, .int .i64 0, .int .i64 0, .slice none 0 0]]) sl24 rfl rfl ⟨⟨rfl, rfl⟩, ⟨rfl, rfl⟩, trivial⟩ rfl rfl (fun b6 w36 e30 s6 h6 => ?_)
  replace h6 : Blk w36 b6 [.int .i64 1, .int .i64 0, .int .i64 0, .slice (some ⟨b5, 0, none⟩) 1 1, .int .i64 8, .int .i64 0, .int .i64 0, .slice none 0 0] := h6
  have g_b6 : w.heap.size ≤ b6 := by have := E.size; omega
  have y_b6 := h6.lt
  replace E := E.trans e30; replace hd1 := hd1.ext e30; replace ho3 := ho3.ext e30; replace h1 := h1.ext e30; replace ho4 := ho4.ext e30; replace ho5 := ho5.ext e30; replace hd2 := hd2.ext e30; replace ho10 := ho10.ext e30; replace h2 := h2.ext e30; replace ho12 := ho12.ext e30; replace ho13 := ho13.ext e30; replace hd3 := hd3.ext e30; replace ho16 := ho16.ext e30; replace h3 := h3.ext e30; replace h4 := h4.ext e30; replace ho18 := ho18.ext e30; replace ho19 := ho19.ext e30; replace ho21 := ho21.ext e30; replace ho22 := ho22.ext e30; replace h5 := h5.ext e30
  have z36 := e30.size
  have hbl3 : ∀ w, (Instr.build 26 ([(0, .slice (some ⟨b6, 0, none⟩) 2 2), (1, .int .i64 1), (2, .int .i64 1)]).toArray).run Try.prog w = .ok (.agg [.slice (some ⟨b6, 0, none⟩) 2 2, .int .i64 1, .int .i64 1].toArray) w := by clear E; intro w; kernel_rfl
  refine J_st (R_buildC [.slice (some ⟨b6, 0, none⟩) 2 2, .int .i64 1, .int .i64 1] rfl hbl3) rfl ?_
  refine J_alloc st26 rfl (fun b7 w37 e31 s7 h7 => ?_)
  have g_b7 : w.heap.size ≤ b7 := by have := E.size; omega
  have y_b7 := h7.lt
  replace E := E.trans e31; replace hd1 := hd1.ext e31; replace ho3 := ho3.ext e31; replace h1 := h1.ext e31; replace ho4 := ho4.ext e31; replace ho5 := ho5.ext e31; replace hd2 := hd2.ext e31; replace ho10 := ho10.ext e31; replace h2 := h2.ext e31; replace ho12 := ho12.ext e31; replace ho13 := ho13.ext e31; replace hd3 := hd3.ext e31; replace ho16 := ho16.ext e31; replace h3 := h3.ext e31; replace h4 := h4.ext e31; replace ho18 := ho18.ext e31; replace ho19 := ho19.ext e31; replace ho21 := ho21.ext e31; replace ho22 := ho22.ext e31; replace h5 := h5.ext e31; replace h6 := h6.ext e31
  have z37 := e31.size
  refine J_storeS' (cs' := [.slice (some ⟨b6, 0, none⟩) 2 2, .int .i64 1, .int .i64 1]) st26 rfl rfl rfl (all_cons rfl (all_cons rfl (all_cons rfl rfl))) h7 (Nat.le_of_ble_eq_true rfl) rfl (fun w38 m5 h7' => ?_)
  replace h7 := h7'
  replace E := E.step m5 (fun g hg => by cases hg; omega); replace hd1 := hd1.mod m5 (fun g hg => by cases hg; omega); replace ho3 := ho3.mod m5 (fun g hg => by cases hg; omega); replace h1 := h1.mod m5 (fun g hg => by cases hg; omega); replace ho4 := ho4.mod m5 (fun g hg => by cases hg; omega); replace ho5 := ho5.mod m5 (fun g hg => by cases hg; omega); replace hd2 := hd2.mod m5 (fun g hg => by cases hg; omega); replace ho10 := ho10.mod m5 (fun g hg => by cases hg; omega); replace h2 := h2.mod m5 (fun g hg => by cases hg; omega); replace ho12 := ho12.mod m5 (fun g hg => by cases hg; omega); replace ho13 := ho13.mod m5 (fun g hg => by cases hg; omega); replace hd3 := hd3.mod m5 (fun g hg => by cases hg; omega); replace ho16 := ho16.mod m5 (fun g hg => by cases hg; omega); replace h3 := h3.mod m5 (fun g hg => by cases hg; omega); replace h4 := h4.mod m5 (fun g hg => by cases hg; omega); replace ho18 := ho18.mod m5 (fun g hg => by cases hg; omega); replace ho19 := ho19.mod m5 (fun g hg => by cases hg; omega); replace ho21 := ho21.mod m5 (fun g hg => by cases hg; omega); replace ho22 := ho22.mod m5 (fun g hg => by cases hg; omega); replace h5 := h5.mod m5 (fun g hg => by cases hg; omega); replace h6 := h6.mod m5 (fun g hg => by cases hg; omega)
  have z38 := m5.size
  refine J_done ?_
  refine S_seq ?_
  refine S_seq ?_
  refine S_reg [true, false, true] rfl rfl ?_
  refine J_st (R_loadS st26 rfl h1.at rfl) rfl ?_
  refine J_call Try.call33 rfl (s_GraphOk [o1, .int .i64 dx1.workers, .int .i64 dx1.cap] dx1 _ (Graph.mkR dx1 (RdD.any hd1))) rfl (fun _ w39 e32 hv => ?_)
  subst hv
  replace E := E.trans e32; replace hd1 := hd1.ext e32; replace ho3 := ho3.ext e32; replace h1 := h1.ext e32; replace ho4 := ho4.ext e32; replace ho5 := ho5.ext e32; replace hd2 := hd2.ext e32; replace ho10 := ho10.ext e32; replace h2 := h2.ext e32; replace ho12 := ho12.ext e32; replace ho13 := ho13.ext e32; replace hd3 := hd3.ext e32; replace ho16 := ho16.ext e32; replace h3 := h3.ext e32; replace h4 := h4.ext e32; replace ho18 := ho18.ext e32; replace ho19 := ho19.ext e32; replace ho21 := ho21.ext e32; replace ho22 := ho22.ext e32; replace h5 := h5.ext e32; replace h6 := h6.ext e32; replace h7 := h7.ext e32
  have z39 := e32.size
  refine J_st (R_not rfl) rfl (J_done ?_)
  refine S_cond rfl (fun hc2 => ?_) (fun hc2 => ?_)
  ·refine S_seq ?_
   refine S_reg [true, true, true, true, true, true, false, false, true, true, true, true] rfl rfl ?_
   refine J_st (R_move rfl) rfl (J_st (R_len Try.underlying27 rfl (Own.len (by decide) ho4)) rfl (J_st (R_eql rfl rfl) rfl (J_st (R_move rfl) rfl ?_)))
   refine J_cut 7 [(0, vcode), (2, .bool false), (3, .pointer (some ⟨b1, 0, none⟩)), (4, .int .i64 dx2), (5, v1), (6, v2), (7, .pointer (some ⟨b2, 0, none⟩)), (8, v6), (9, v7), (10, v8), (11, .pointer (some ⟨b3, 0, none⟩)), (12, v9), (13, .pointer (some ⟨b4, 0, none⟩)), (14, v10), (15, v11), (16, v12), (17, v13), (18, .pointer (some ⟨b7, 0, none⟩)), (21, vcode), (22, .bool (decide (((code.length : Nat) : Int) > 1048576))), (23, .tuple [.agg [o1, .int .i64 dx1.workers, .int .i64 dx1.cap].toArray, .int .i64 dx2, v1].toArray), (24, vcode), (25, .tuple [.agg [o1, .int .i64 dx1.workers, .int .i64 dx1.cap].toArray, .int .i64 dx2, v1].toArray), (26, .agg [o1, .int .i64 dx1.workers, .int .i64 dx1.cap].toArray), (27, .int .i64 dx2), (28, v1), (29, .agg [o1, .int .i64 dx1.workers, .int .i64 dx1.cap].toArray), (30, .int .i64 dx2), (31, v1), (32, v2), (51, .bool ((!(decide ((fixM dx1 dx2 dx3) = (fixM dx1 dx2 dx3)))) || (!(decide (((fixM dx1 dx2 dx3).filter (outOf dx1)) = ((fixM dx1 dx2 dx3).filter (outOf dx1))))))), (52, .tuple [.agg [o2, .int .i64 dx4.workers, .int .i64 dx4.cap].toArray, v6].toArray), (53, vcode), (54, .tuple [.agg [o2, .int .i64 dx4.workers, .int .i64 dx4.cap].toArray, v6].toArray), (55, .agg [o2, .int .i64 dx4.workers, .int .i64 dx4.cap].toArray), (56, v6), (57, .tuple [v7, v8].toArray), (58, vcode), (59, .tuple [v7, v8].toArray), (60, v7), (61, v8), (62, .tuple [.agg [o3, .int .i64 dx8.workers, .int .i64 dx8.cap].toArray, v9, .agg (Enc.enc dx10).toArray].toArray), (63, vcode), (64, .tuple [.agg [o3, .int .i64 dx8.workers, .int .i64 dx8.cap].toArray, v9, .agg (Enc.enc dx10).toArray].toArray), (65, .agg [o3, .int .i64 dx8.workers, .int .i64 dx8.cap].toArray), (66, v9), (67, .agg (Enc.enc dx10).toArray), (68, .tuple [v10, v11].toArray), (69, .agg [o3, .int .i64 dx8.workers, .int .i64 dx8.cap].toArray), (70, v9), (71, .agg (Enc.enc dx10).toArray), (72, .tuple [v10, v11].toArray), (73, v10), (74, v11), (75, .tuple [v12, v13].toArray), (76, .agg [o3, .int .i64 dx8.workers, .int .i64 dx8.cap].toArray), (77, v9), (78, .agg (Enc.enc dx10).toArray), (79, .tuple [v12, v13].toArray), (80, v12), (81, v13), (119, .bool (((((!((isClosedM dx4 dx5) == (isClosedM dx4 dx5))) || (!((dx7.all (nwP dx6)) == (dx7.all (nwP dx6))))) || (!(decide (((improveM dx8 dx9 dx10).1) = ((improveM dx8 dx9 dx10).1))))) || (!(decide (((improveM dx8 dx9 dx10).2) = ((improveM dx8 dx9 dx10).2))))) || (!(decide ((dx5.filter (outOf dx4)) = (dx5.filter (outOf dx4))))))), (120, .slice (some ⟨b5, 0, none⟩) 1 1), (121, .agg [.int .i64 1, .int .i64 0, .int .i64 0, .slice (some ⟨b5, 0, none⟩) 1 1].toArray), (122, .agg [.int .i64 8, .int .i64 0, .int .i64 0, .slice none 0 0].toArray), (123, .slice (some ⟨b6, 0, none⟩) 2 2), (124, .agg [.slice (some ⟨b6, 0, none⟩) 2 2, .int .i64 1, .int .i64 1].toArray), (125, .agg [o1, .int .i64 dx1.workers, .int .i64 dx1.cap].toArray), (126, .bool (graphOk dx1)), (127, .bool (!(graphOk dx1))), (138, .bool (((((fixM dx1 dx2 dx3).length : Nat) : Int) == 0) && (((((fixM (⟨[(⟨1, 0, 0, [1]⟩ : Node), (⟨8, 0, 0, []⟩ : Node)], 1, 1⟩ : Graph) 0 [(⟨0, (⟨0, 0⟩ : Stamp), 5, 0⟩ : Record)]).filter (outOf (⟨[(⟨1, 0, 0, [1]⟩ : Node), (⟨8, 0, 0, []⟩ : Node)], 1, 1⟩ : Graph))).length : Nat) : Int) == 1)))] (fun w' => Ext w w' ∧ w39.heap.size ≤ w'.heap.size ∧ RdD w' w1.heap.size w2.heap.size o1 dx1.nodes ∧ Own w' w1.heap.size w2.heap.size 5 v1 (List.flatMap (Enc.enc (α := Record)) dx3) ∧ Blk w' b1 [o1, .int .i64 dx1.workers, .int .i64 dx1.cap] ∧ Own w' w4.heap.size w5.heap.size 4 v2 (List.flatMap (Enc.enc (α := Cell)) (fixM dx1 dx2 dx3)) ∧ Own w' w6.heap.size w7.heap.size 4 v3 (List.flatMap (Enc.enc (α := Cell)) (fixM dx1 dx2 dx3)) ∧ RdD w' w9.heap.size w13.heap.size o2 dx4.nodes ∧ Own w' w9.heap.size w13.heap.size 4 v6 (List.flatMap (Enc.enc (α := Cell)) dx5) ∧ Blk w' b2 [o2, .int .i64 dx4.workers, .int .i64 dx4.cap] ∧ Own w' w15.heap.size w16.heap.size 4 v7 (List.flatMap (Enc.enc (α := Cell)) dx6) ∧ Own w' w15.heap.size w16.heap.size 4 v8 (List.flatMap (Enc.enc (α := Cell)) dx7) ∧ RdD w' w16.heap.size w17.heap.size o3 dx8.nodes ∧ Own w' w16.heap.size w17.heap.size 4 v9 (List.flatMap (Enc.enc (α := Cell)) dx9) ∧ Blk w' b3 [o3, .int .i64 dx8.workers, .int .i64 dx8.cap] ∧ Blk w' b4 [.int .i64 dx10.op, .int .i64 dx10.epoch, .int .i64 dx10.key, .int .i64 dx10.val] ∧ Own w' w21.heap.size w22.heap.size 4 v10 (List.flatMap (Enc.enc (α := Cell)) ((improveM dx8 dx9 dx10).1)) ∧ Own w' w21.heap.size w22.heap.size 4 v11 (List.flatMap (Enc.enc (α := Cell)) ((improveM dx8 dx9 dx10).2)) ∧ Own w' w22.heap.size w23.heap.size 4 v12 (List.flatMap (Enc.enc (α := Cell)) ((improveM dx8 dx9 dx10).1)) ∧ Own w' w22.heap.size w23.heap.size 4 v13 (List.flatMap (Enc.enc (α := Cell)) ((improveM dx8 dx9 dx10).2)) ∧ Blk w' b5 [.int .i64 1] ∧ Blk w' b6 [.int .i64 1, .int .i64 0, .int .i64 0, .slice (some ⟨b5, 0, none⟩) 1 1, .int .i64 8, .int .i64 0, .int .i64 0, .slice none 0 0] ∧ Blk w' b7 [.slice (some ⟨b6, 0, none⟩) 2 2, .int .i64 1, .int .i64 1]) ?_ ?_
   ·refine J_if (gd := 131) rfl rfl (fun hg6 => ?_) (fun hg6 => ?_)
    ·have hg6n : (fixM dx1 dx2 dx3).length = 0 := by first | (have h := of_decide_eq_true hg6; omega) | (have h := hg6; simp at h; omega)
     refine J_gd rfl rfl (R_loadS st26 rfl h7.at rfl) rfl (J_gd rfl rfl (R_build (⟨0, (⟨0, 0⟩ : Stamp), 5, 0⟩ : Record) rfl (fun _ => by kernel_rfl)) rfl ?_)
     refine J_ung rfl rfl ?_
     refine J_buildSlice (vs := [.agg (Enc.enc (⟨0, (⟨0, 0⟩ : Stamp), 5, 0⟩ : Record)).toArray]) (css := [[.int .i64 ((⟨0, (⟨0, 0⟩ : Stamp), 5, 0⟩ : Record).op), .int .i64 (((⟨0, (⟨0, 0⟩ : Stamp), 5, 0⟩ : Record).stamp).epoch), .int .i64 (((⟨0, (⟨0, 0⟩ : Stamp), 5, 0⟩ : Record).stamp).turn), .int .i64 ((⟨0, (⟨0, 0⟩ : Stamp), 5, 0⟩ : Record).key), .int .i64 ((⟨0, (⟨0, 0⟩ : Stamp), 5, 0⟩ : Record).val)]]) sl34 rfl rfl ⟨⟨rfl, rfl⟩, trivial⟩ rfl rfl (fun b8 w41 e33 s8 h8 => ?_)
     replace h8 : Blk w41 b8 [.int .i64 ((⟨0, (⟨0, 0⟩ : Stamp), 5, 0⟩ : Record).op), .int .i64 (((⟨0, (⟨0, 0⟩ : Stamp), 5, 0⟩ : Record).stamp).epoch), .int .i64 (((⟨0, (⟨0, 0⟩ : Stamp), 5, 0⟩ : Record).stamp).turn), .int .i64 ((⟨0, (⟨0, 0⟩ : Stamp), 5, 0⟩ : Record).key), .int .i64 ((⟨0, (⟨0, 0⟩ : Stamp), 5, 0⟩ : Record).val)] := h8
     have g_b8 : w.heap.size ≤ b8 := by have := E.size; omega
     have y_b8 := h8.lt
     replace E := E.trans e33; replace hd1 := hd1.ext e33; replace ho3 := ho3.ext e33; replace h1 := h1.ext e33; replace ho4 := ho4.ext e33; replace ho5 := ho5.ext e33; replace hd2 := hd2.ext e33; replace ho10 := ho10.ext e33; replace h2 := h2.ext e33; replace ho12 := ho12.ext e33; replace ho13 := ho13.ext e33; replace hd3 := hd3.ext e33; replace ho16 := ho16.ext e33; replace h3 := h3.ext e33; replace h4 := h4.ext e33; replace ho18 := ho18.ext e33; replace ho19 := ho19.ext e33; replace ho21 := ho21.ext e33; replace ho22 := ho22.ext e33; replace h5 := h5.ext e33; replace h6 := h6.ext e33; replace h7 := h7.ext e33
     have z40 := e33.size
     refine J_ung rfl rfl ?_
     have hF1 : OwF w41 b5 w41.heap.size (.slice (some ⟨b6, 0, none⟩) 2 2) [(⟨1, 0, 0, [1]⟩ : Node), (⟨8, 0, 0, []⟩ : Node)] [b6, b5] := OwF.lit (css := [[.int .i64 1, .int .i64 0, .int .i64 0, .slice (some ⟨b5, 0, none⟩) 1 1], [.int .i64 8, .int .i64 0, .int .i64 0, .slice none 0 0]]) h6 ⟨(Node.mkO (⟨1, 0, 0, [1]⟩ : Node) ⟨trivial, trivial⟩ (Own.widen (Own.ofBlk (lo := b5) (hi := b5 + 1) (sz := 1) h5 (Nat.le_refl _) (Nat.lt_succ_self _) (by rfl) (by unfold maxLen; omega)) (by omega) (by omega))), (Node.mkO (⟨8, 0, 0, []⟩ : Node) ⟨trivial, trivial⟩ (Own.nil _ _ _ _)), trivial⟩ (by omega) (by omega) (show List.Nodup [b6, b5] from by simp; omega) rfl (by simp [maxLen])
     refine J_call Try.call20 rfl (c_ResultOf [.slice (some ⟨b6, 0, none⟩) 2 2, .int .i64 1, .int .i64 1] (⟨[(⟨1, 0, 0, [1]⟩ : Node), (⟨8, 0, 0, []⟩ : Node)], 1, 1⟩ : Graph) 0 (.slice (some ⟨b8, 0, none⟩) 1 1) [(⟨0, (⟨0, 0⟩ : Stamp), 5, 0⟩ : Record)] _ (Graph.mkR (⟨[(⟨1, 0, 0, [1]⟩ : Node), (⟨8, 0, 0, []⟩ : Node)], 1, 1⟩ : Graph) (RdD.any (OwF.rd hF1))) (Blk.rd (α := Record) (xs := [(⟨0, (⟨0, 0⟩ : Stamp), 5, 0⟩ : Record)]) (by decide) h8 rfl (by simp [maxLen])) (by first | omega | (simp; done))) rfl (fun v16 w42 e34 ho25 => ?_)
     have g_ho25 : w.heap.size ≤ w41.heap.size := E.size
     replace E := E.trans e34; replace hd1 := hd1.ext e34; replace ho3 := ho3.ext e34; replace h1 := h1.ext e34; replace ho4 := ho4.ext e34; replace ho5 := ho5.ext e34; replace hd2 := hd2.ext e34; replace ho10 := ho10.ext e34; replace h2 := h2.ext e34; replace ho12 := ho12.ext e34; replace ho13 := ho13.ext e34; replace hd3 := hd3.ext e34; replace ho16 := ho16.ext e34; replace h3 := h3.ext e34; replace h4 := h4.ext e34; replace ho18 := ho18.ext e34; replace ho19 := ho19.ext e34; replace ho21 := ho21.ext e34; replace ho22 := ho22.ext e34; replace h5 := h5.ext e34; replace h6 := h6.ext e34; replace h7 := h7.ext e34; replace h8 := h8.ext e34
     have z41 := e34.size
     refine J_gd rfl rfl (R_len Try.underlying27 rfl (Own.len (by decide) ho25)) rfl (J_gd rfl rfl (R_eql rfl rfl) rfl (J_st (R_pickT rfl rfl) rfl (J_cutEnd ⟨rfl, rfl, rfl, rfl, rfl, rfl, rfl, rfl, rfl, rfl, rfl, rfl, rfl, rfl, rfl, rfl, rfl, rfl, rfl, rfl, rfl, rfl, rfl, rfl, rfl, rfl, rfl, rfl, rfl, rfl, rfl, rfl, rfl, rfl, rfl, rfl, rfl, rfl, rfl, rfl, rfl, rfl, rfl, rfl, rfl, rfl, rfl, rfl, rfl, rfl, rfl, rfl, rfl, rfl, rfl, rfl, rfl, rfl, rfl, rfl, rfl, rfl, rfl, rfl, rfl, rfl, rfl, rfl, rfl, rfl, congrArg (fun b => some (Value.bool b)) (show (((((fixM (⟨[(⟨1, 0, 0, [1]⟩ : Node), (⟨8, 0, 0, []⟩ : Node)], 1, 1⟩ : Graph) 0 [(⟨0, (⟨0, 0⟩ : Stamp), 5, 0⟩ : Record)]).filter (outOf (⟨[(⟨1, 0, 0, [1]⟩ : Node), (⟨8, 0, 0, []⟩ : Node)], 1, 1⟩ : Graph))).length : Nat) : Int) == 1) = (((((fixM dx1 dx2 dx3).length : Nat) : Int) == 0) && (((((fixM (⟨[(⟨1, 0, 0, [1]⟩ : Node), (⟨8, 0, 0, []⟩ : Node)], 1, 1⟩ : Graph) 0 [(⟨0, (⟨0, 0⟩ : Stamp), 5, 0⟩ : Record)]).filter (outOf (⟨[(⟨1, 0, 0, [1]⟩ : Node), (⟨8, 0, 0, []⟩ : Node)], 1, 1⟩ : Graph))).length : Nat) : Int) == 1)) by first | (rw [hg6] <;> rfl) | (simp [hg6]; done) | (simp only [nat_nlt] <;> simp)), trivial⟩ ⟨E, (by omega), hd1, ho3, h1, ho4, ho5, hd2, ho10, h2, ho12, ho13, hd3, ho16, h3, h4, ho18, ho19, ho21, ho22, h5, h6, h7⟩)))
    ·have hg6n : ¬ (fixM dx1 dx2 dx3).length = 0 := by first | (have h := of_decide_eq_false hg6; omega) | (have h := hg6; simp at h; omega)
     refine J_gdno rfl rfl rfl rfl (J_gdno rfl rfl rfl rfl ?_)
     refine J_ungno rfl rfl rfl rfl ?_
     refine J_ungno rfl rfl rfl rfl ?_
     refine J_gdno rfl rfl rfl rfl (J_gdno rfl rfl rfl rfl (J_st (R_pickF rfl rfl) rfl (J_cutEnd ⟨rfl, rfl, rfl, rfl, rfl, rfl, rfl, rfl, rfl, rfl, rfl, rfl, rfl, rfl, rfl, rfl, rfl, rfl, rfl, rfl, rfl, rfl, rfl, rfl, rfl, rfl, rfl, rfl, rfl, rfl, rfl, rfl, rfl, rfl, rfl, rfl, rfl, rfl, rfl, rfl, rfl, rfl, rfl, rfl, rfl, rfl, rfl, rfl, rfl, rfl, rfl, rfl, rfl, rfl, rfl, rfl, rfl, rfl, rfl, rfl, rfl, rfl, rfl, rfl, rfl, rfl, rfl, rfl, rfl, rfl, congrArg (fun b => some (Value.bool b)) (show false = (((((fixM dx1 dx2 dx3).length : Nat) : Int) == 0) && (((((fixM (⟨[(⟨1, 0, 0, [1]⟩ : Node), (⟨8, 0, 0, []⟩ : Node)], 1, 1⟩ : Graph) 0 [(⟨0, (⟨0, 0⟩ : Stamp), 5, 0⟩ : Record)]).filter (outOf (⟨[(⟨1, 0, 0, [1]⟩ : Node), (⟨8, 0, 0, []⟩ : Node)], 1, 1⟩ : Graph))).length : Nat) : Int) == 1)) by first | (rw [hg6] <;> rfl) | (simp [hg6]; done) | (simp only [nat_nlt] <;> simp)), trivial⟩ ⟨E, (by omega), hd1, ho3, h1, ho4, ho5, hd2, ho10, h2, ho12, ho13, hd3, ho16, h3, h4, ho18, ho19, ho21, ho22, h5, h6, h7⟩)))
   clear E hd1 ho3 h1 ho4 ho5 hd2 ho10 h2 ho12 ho13 hd3 ho16 h3 h4 ho18 ho19 ho21 ho22 h5 h6 h7
   rintro w40 ⟨E, z42, hd1, ho3, h1, ho4, ho5, hd2, ho10, h2, ho12, ho13, hd3, ho16, h3, h4, ho18, ho19, ho21, ho22, h5, h6, h7⟩
   refine J_st (R_assign rfl) rfl (J_done ?_)
   refine S_ret (E_done1 rfl rfl E ?_)
   exact congrArg Value.bool (fixed_no hc2)
  ·refine S_skip ?_
   refine S_seq ?_
   refine S_reg [false, true] rfl rfl ?_
   refine J_buildSlice (vs := []) (css := []) sl27 rfl rfl trivial rfl rfl (fun b9 w43 e35 s9 h9 => ?_)
   replace h9 : Blk w43 b9 [] := h9
   have g_b9 : w.heap.size ≤ b9 := by have := E.size; omega
   have y_b9 := h9.lt
   replace E := E.trans e35; replace hd1 := hd1.ext e35; replace ho3 := ho3.ext e35; replace h1 := h1.ext e35; replace ho4 := ho4.ext e35; replace ho5 := ho5.ext e35; replace hd2 := hd2.ext e35; replace ho10 := ho10.ext e35; replace h2 := h2.ext e35; replace ho12 := ho12.ext e35; replace ho13 := ho13.ext e35; replace hd3 := hd3.ext e35; replace ho16 := ho16.ext e35; replace h3 := h3.ext e35; replace h4 := h4.ext e35; replace ho18 := ho18.ext e35; replace ho19 := ho19.ext e35; replace ho21 := ho21.ext e35; replace ho22 := ho22.ext e35; replace h5 := h5.ext e35; replace h6 := h6.ext e35; replace h7 := h7.ext e35
   have z43 := e35.size
   refine J_st (R_assign rfl) rfl (J_done ?_)
   refine S_seq ?_
   refine S_seq ?_
   refine S_reg [true] rfl rfl ?_
   refine J_st (R_assign rfl) rfl (J_done ?_)
   refine S_block ?_
   refine S_loop (fun (xq : Nat × Value) => let ⟨k, vo⟩ := xq; [(2, .bool false), (3, .pointer (some ⟨b1, 0, none⟩)), (4, .int .i64 dx2), (5, v1), (6, v2), (18, .pointer (some ⟨b7, 0, none⟩)), (19, vo), (20, .int .i64 ((k : Nat) : Int))]) (fun (xq : Nat × Value) w' => let ⟨k, vo⟩ := xq; Ext w w' ∧ w43.heap.size ≤ w'.heap.size ∧ RdD w' w1.heap.size w2.heap.size o1 dx1.nodes ∧ Own w' w1.heap.size w2.heap.size 5 v1 (List.flatMap (Enc.enc (α := Record)) dx3) ∧ Blk w' b1 [o1, .int .i64 dx1.workers, .int .i64 dx1.cap] ∧ Own w' w4.heap.size w5.heap.size 4 v2 (List.flatMap (Enc.enc (α := Cell)) (fixM dx1 dx2 dx3)) ∧ Own w' w6.heap.size w7.heap.size 4 v3 (List.flatMap (Enc.enc (α := Cell)) (fixM dx1 dx2 dx3)) ∧ RdD w' w9.heap.size w13.heap.size o2 dx4.nodes ∧ Own w' w9.heap.size w13.heap.size 4 v6 (List.flatMap (Enc.enc (α := Cell)) dx5) ∧ Blk w' b2 [o2, .int .i64 dx4.workers, .int .i64 dx4.cap] ∧ Own w' w15.heap.size w16.heap.size 4 v7 (List.flatMap (Enc.enc (α := Cell)) dx6) ∧ Own w' w15.heap.size w16.heap.size 4 v8 (List.flatMap (Enc.enc (α := Cell)) dx7) ∧ RdD w' w16.heap.size w17.heap.size o3 dx8.nodes ∧ Own w' w16.heap.size w17.heap.size 4 v9 (List.flatMap (Enc.enc (α := Cell)) dx9) ∧ Blk w' b3 [o3, .int .i64 dx8.workers, .int .i64 dx8.cap] ∧ Blk w' b4 [.int .i64 dx10.op, .int .i64 dx10.epoch, .int .i64 dx10.key, .int .i64 dx10.val] ∧ Own w' w21.heap.size w22.heap.size 4 v10 (List.flatMap (Enc.enc (α := Cell)) ((improveM dx8 dx9 dx10).1)) ∧ Own w' w21.heap.size w22.heap.size 4 v11 (List.flatMap (Enc.enc (α := Cell)) ((improveM dx8 dx9 dx10).2)) ∧ Own w' w22.heap.size w23.heap.size 4 v12 (List.flatMap (Enc.enc (α := Cell)) ((improveM dx8 dx9 dx10).1)) ∧ Own w' w22.heap.size w23.heap.size 4 v13 (List.flatMap (Enc.enc (α := Cell)) ((improveM dx8 dx9 dx10).2)) ∧ Blk w' b5 [.int .i64 1] ∧ Blk w' b6 [.int .i64 1, .int .i64 0, .int .i64 0, .slice (some ⟨b5, 0, none⟩) 1 1, .int .i64 8, .int .i64 0, .int .i64 0, .slice none 0 0] ∧ Blk w' b7 [.slice (some ⟨b6, 0, none⟩) 2 2, .int .i64 1, .int .i64 1] ∧ k ≤ dx3.length ∧ Own w' b9 w'.heap.size 4 vo (List.flatMap (Enc.enc (α := Cell)) (fixT dx2 (fixQ dx2) dx3 k))) (fun (xq : Nat × Value) => let ⟨k, vo⟩ := xq; dx3.length - k) (0, .slice (some ⟨b9, 0, none⟩) 0 0) ⟨rfl, rfl, rfl, rfl, rfl, rfl, rfl, rfl, trivial⟩ ⟨E, Nat.le_refl _, hd1, ho3, h1, ho4, ho5, hd2, ho10, h2, ho12, ho13, hd3, ho16, h3, h4, ho18, ho19, ho21, ho22, h5, h6, h7, Nat.zero_le _, Own.fin (Own.ofBlk (lo := b9) (hi := b9 + 1) (sz := 4) h9 (Nat.le_refl _) (Nat.lt_succ_self _) (by simp) (by simp [maxLen])) (by omega) (by omega) fixT_0.symm⟩ ?_
   clear E hd1 ho3 h1 ho4 ho5 hd2 ho10 h2 ho12 ho13 hd3 ho16 h3 h4 ho18 ho19 ho21 ho22 h5 h6 h7 h9
   rintro ⟨k, vo⟩ w44 ⟨E, z44, hd1, ho3, h1, ho4, ho5, hd2, ho10, h2, ho12, ho13, hd3, ho16, h3, h4, ho18, ho19, ho21, ho22, h5, h6, h7, hk, ho⟩
   refine S_sub [(2, .bool false), (3, .pointer (some ⟨b1, 0, none⟩)), (4, .int .i64 dx2), (5, v1), (6, v2), (18, .pointer (some ⟨b7, 0, none⟩)), (19, vo), (20, .int .i64 ((k : Nat) : Int))] ⟨rfl, rfl, rfl, rfl, rfl, rfl, rfl, rfl, trivial⟩ ?_
   refine S_seq ?_
   refine S_seq ?_
   refine S_reg [true, true, true, true] rfl rfl ?_
   refine J_st (R_move rfl) rfl (J_st (R_move rfl) rfl (J_st (R_len Try.underlying34 rfl (Own.len (by decide) ho3)) rfl (J_st (R_lss rfl rfl) rfl (J_done ?_))))
   refine S_cond rfl (fun hc3 => ?_) (fun hc3 => ?_)
   ·have hc3n : k < dx3.length := by first | (have h := of_decide_eq_true hc3; omega) | (have h := hc3; simp at h; omega)
    refine S_skip ?_
    refine S_seq ?_
    refine S_block ?_
    refine S_seq ?_
    refine S_reg [true, true, true, true, true, true, true, true, true, true, true, true, true, false, true, true, true, true, true] rfl rfl ?_
    refine J_st (R_move rfl) rfl (J_st (R_move rfl) rfl ?_)
    have hi1 : k < dx3.length := (by first | assumption | omega | (simp only [List.length_set]; first | assumption | omega) | (simp only [List.getElem_set_self, List.length_set]; first | assumption | omega) | (simp only [setW, setLk, List.length_set]; first | assumption | omega) | (simp; done))
    refine J_st (R_index (i := k) sl34 rfl rfl (Own.rd (by decide) ho3) hi1) rfl (J_st (R_fieldAddr fl31_1 rfl) rfl (J_st (R_fieldAddr fl29_0 rfl) rfl (J_st (R_load sc3 rfl (((Own.rd (by decide) ho3).get hi1).one 1 rfl)) rfl (J_st (R_move rfl) rfl (J_st (R_eql rfl rfl) rfl (J_st (R_move rfl) rfl ?_))))))
    refine J_cut 10 [(2, .bool false), (3, .pointer (some ⟨b1, 0, none⟩)), (4, .int .i64 dx2), (5, v1), (6, v2), (18, .pointer (some ⟨b7, 0, none⟩)), (19, vo), (20, .int .i64 ((k : Nat) : Int)), (140, .int .i64 ((k : Nat) : Int)), (141, v1), (142, .int .i64 ((dx3.length : Nat) : Int)), (143, .bool (decide (((k : Nat) : Int) < ((dx3.length : Nat) : Int)))), (164, .bool ((((((dx3[k]'hi1).stamp).epoch) == dx2) && (recordOk (List.getD dx3 k default))) && (decide (0 ≤ dx2))))] (fun w' => Ext w w' ∧ w44.heap.size ≤ w'.heap.size ∧ RdD w' w1.heap.size w2.heap.size o1 dx1.nodes ∧ Own w' w1.heap.size w2.heap.size 5 v1 (List.flatMap (Enc.enc (α := Record)) dx3) ∧ Blk w' b1 [o1, .int .i64 dx1.workers, .int .i64 dx1.cap] ∧ Own w' w4.heap.size w5.heap.size 4 v2 (List.flatMap (Enc.enc (α := Cell)) (fixM dx1 dx2 dx3)) ∧ Own w' w6.heap.size w7.heap.size 4 v3 (List.flatMap (Enc.enc (α := Cell)) (fixM dx1 dx2 dx3)) ∧ RdD w' w9.heap.size w13.heap.size o2 dx4.nodes ∧ Own w' w9.heap.size w13.heap.size 4 v6 (List.flatMap (Enc.enc (α := Cell)) dx5) ∧ Blk w' b2 [o2, .int .i64 dx4.workers, .int .i64 dx4.cap] ∧ Own w' w15.heap.size w16.heap.size 4 v7 (List.flatMap (Enc.enc (α := Cell)) dx6) ∧ Own w' w15.heap.size w16.heap.size 4 v8 (List.flatMap (Enc.enc (α := Cell)) dx7) ∧ RdD w' w16.heap.size w17.heap.size o3 dx8.nodes ∧ Own w' w16.heap.size w17.heap.size 4 v9 (List.flatMap (Enc.enc (α := Cell)) dx9) ∧ Blk w' b3 [o3, .int .i64 dx8.workers, .int .i64 dx8.cap] ∧ Blk w' b4 [.int .i64 dx10.op, .int .i64 dx10.epoch, .int .i64 dx10.key, .int .i64 dx10.val] ∧ Own w' w21.heap.size w22.heap.size 4 v10 (List.flatMap (Enc.enc (α := Cell)) ((improveM dx8 dx9 dx10).1)) ∧ Own w' w21.heap.size w22.heap.size 4 v11 (List.flatMap (Enc.enc (α := Cell)) ((improveM dx8 dx9 dx10).2)) ∧ Own w' w22.heap.size w23.heap.size 4 v12 (List.flatMap (Enc.enc (α := Cell)) ((improveM dx8 dx9 dx10).1)) ∧ Own w' w22.heap.size w23.heap.size 4 v13 (List.flatMap (Enc.enc (α := Cell)) ((improveM dx8 dx9 dx10).2)) ∧ Blk w' b5 [.int .i64 1] ∧ Blk w' b6 [.int .i64 1, .int .i64 0, .int .i64 0, .slice (some ⟨b5, 0, none⟩) 1 1, .int .i64 8, .int .i64 0, .int .i64 0, .slice none 0 0] ∧ Blk w' b7 [.slice (some ⟨b6, 0, none⟩) 2 2, .int .i64 1, .int .i64 1] ∧ Own w' b9 w44.heap.size 4 vo (List.flatMap (Enc.enc (α := Cell)) (fixT dx2 (fixQ dx2) dx3 k))) ?_ ?_
    ·refine J_if (gd := 154) rfl rfl (fun hg7 => ?_) (fun hg7 => ?_)
     ·refine J_gd rfl rfl (R_move rfl) rfl (J_gd rfl rfl (R_move rfl) rfl ?_)
      have hi2 : k < dx3.length := (by first | assumption | omega | (simp only [List.length_set]; first | assumption | omega) | (simp only [List.getElem_set_self, List.length_set]; first | assumption | omega) | (simp only [setW, setLk, List.length_set]; first | assumption | omega) | (simp; done))
      refine J_gd rfl rfl (R_index (i := k) sl34 rfl rfl (Own.rd (by decide) ho3) hi2) rfl (J_gd rfl rfl (R_loadS st31 rfl (RdS.getD (Own.rd (by decide) ho3) (i := k) hi2) rfl) rfl ?_)
      refine J_ung rfl rfl ?_
      refine J_call Try.call13 rfl (s_RecordOk (List.getD dx3 k default) _ ) rfl (fun _ w46 e36 hv => ?_)
      subst hv
      replace E := E.trans e36; replace hd1 := hd1.ext e36; replace ho3 := ho3.ext e36; replace h1 := h1.ext e36; replace ho4 := ho4.ext e36; replace ho5 := ho5.ext e36; replace hd2 := hd2.ext e36; replace ho10 := ho10.ext e36; replace h2 := h2.ext e36; replace ho12 := ho12.ext e36; replace ho13 := ho13.ext e36; replace hd3 := hd3.ext e36; replace ho16 := ho16.ext e36; replace h3 := h3.ext e36; replace h4 := h4.ext e36; replace ho18 := ho18.ext e36; replace ho19 := ho19.ext e36; replace ho21 := ho21.ext e36; replace ho22 := ho22.ext e36; replace h5 := h5.ext e36; replace h6 := h6.ext e36; replace h7 := h7.ext e36; replace ho := ho.ext e36
      have z45 := e36.size
      refine J_st (R_pickT rfl rfl) rfl (J_st (R_move rfl) rfl ?_)
      refine J_if (gd := 161) rfl rfl (fun hg8 => ?_) (fun hg8 => ?_)
      ·refine J_gd rfl rfl (R_move rfl) rfl (J_gd rfl rfl (R_geq rfl rfl) rfl (J_st (R_pickT rfl rfl) rfl (J_cutEnd ⟨rfl, rfl, rfl, rfl, rfl, rfl, rfl, rfl, rfl, rfl, rfl, rfl, congrArg (fun b => some (Value.bool b)) (show (decide (0 ≤ dx2)) = ((((((dx3[k]'hi1).stamp).epoch) == dx2) && (recordOk (List.getD dx3 k default))) && (decide (0 ≤ dx2))) by first | (rw [hg7, hg8] <;> rfl) | (simp [hg7, hg8]; done) | (simp only [nat_nlt] <;> simp)), trivial⟩ ⟨E, (by omega), hd1, ho3, h1, ho4, ho5, hd2, ho10, h2, ho12, ho13, hd3, ho16, h3, h4, ho18, ho19, ho21, ho22, h5, h6, h7, ho⟩)))
      ·refine J_gdno rfl rfl rfl rfl (J_gdno rfl rfl rfl rfl (J_st (R_pickF rfl rfl) rfl (J_cutEnd ⟨rfl, rfl, rfl, rfl, rfl, rfl, rfl, rfl, rfl, rfl, rfl, rfl, congrArg (fun b => some (Value.bool b)) (show false = ((((((dx3[k]'hi1).stamp).epoch) == dx2) && (recordOk (List.getD dx3 k default))) && (decide (0 ≤ dx2))) by first | (rw [hg7, hg8] <;> rfl) | (simp [hg7, hg8]; done) | (simp only [nat_nlt] <;> simp)), trivial⟩ ⟨E, (by omega), hd1, ho3, h1, ho4, ho5, hd2, ho10, h2, ho12, ho13, hd3, ho16, h3, h4, ho18, ho19, ho21, ho22, h5, h6, h7, ho⟩)))
     ·refine J_gdno rfl rfl rfl rfl (J_gdno rfl rfl rfl rfl (J_gdno rfl rfl rfl rfl (J_gdno rfl rfl rfl rfl ?_)))
      refine J_ungno rfl rfl rfl rfl ?_
      refine J_st (R_pickF rfl rfl) rfl (J_st (R_move rfl) rfl (J_gdno rfl rfl rfl rfl (J_gdno rfl rfl rfl rfl (J_st (R_pickF rfl rfl) rfl (J_cutEnd ⟨rfl, rfl, rfl, rfl, rfl, rfl, rfl, rfl, rfl, rfl, rfl, rfl, congrArg (fun b => some (Value.bool b)) (show false = ((((((dx3[k]'hi1).stamp).epoch) == dx2) && (recordOk (List.getD dx3 k default))) && (decide (0 ≤ dx2))) by first | (rw [hg7] <;> rfl) | (simp [hg7]; done) | (simp only [nat_nlt] <;> simp)), trivial⟩ ⟨E, (by omega), hd1, ho3, h1, ho4, ho5, hd2, ho10, h2, ho12, ho13, hd3, ho16, h3, h4, ho18, ho19, ho21, ho22, h5, h6, h7, ho⟩)))))
    clear E hd1 ho3 h1 ho4 ho5 hd2 ho10 h2 ho12 ho13 hd3 ho16 h3 h4 ho18 ho19 ho21 ho22 h5 h6 h7 ho
    rintro w45 ⟨E, z46, hd1, ho3, h1, ho4, ho5, hd2, ho10, h2, ho12, ho13, hd3, ho16, h3, h4, ho18, ho19, ho21, ho22, h5, h6, h7, ho⟩
    refine J_done ?_
    refine S_cond rfl (fun hc4 => ?_) (fun hc4 => ?_)
    ·refine S_regX mixed [14] [(0, true), (1, true), (2, true), (3, true), (4, true), (5, true), (6, true), (7, true), (8, true), (9, true), (10, true), (11, true), (12, true), (13, false)] [(14, false), (15, true)] (by decide +kernel) rfl rfl (fun w47 e37 => ?_)
     replace E := E.trans e37; replace hd1 := hd1.ext e37; replace ho3 := ho3.ext e37; replace h1 := h1.ext e37; replace ho4 := ho4.ext e37; replace ho5 := ho5.ext e37; replace hd2 := hd2.ext e37; replace ho10 := ho10.ext e37; replace h2 := h2.ext e37; replace ho12 := ho12.ext e37; replace ho13 := ho13.ext e37; replace hd3 := hd3.ext e37; replace ho16 := ho16.ext e37; replace h3 := h3.ext e37; replace h4 := h4.ext e37; replace ho18 := ho18.ext e37; replace ho19 := ho19.ext e37; replace ho21 := ho21.ext e37; replace ho22 := ho22.ext e37; replace h5 := h5.ext e37; replace h6 := h6.ext e37; replace h7 := h7.ext e37; replace ho := ho.ext e37
     have z47 := e37.size
     refine J_st (R_move rfl) rfl (J_st (R_move rfl) rfl (J_st (R_move rfl) rfl (J_st (R_move rfl) rfl ?_)))
     have hi3 : k < dx3.length := (by first | assumption | omega | (simp only [List.length_set]; first | assumption | omega) | (simp only [List.getElem_set_self, List.length_set]; first | assumption | omega) | (simp only [setW, setLk, List.length_set]; first | assumption | omega) | (simp; done))
     refine J_st (R_index (i := k) sl34 rfl rfl (Own.rd (by decide) ho3) hi3) rfl (J_st (R_fieldAddr fl31_2 rfl) rfl (J_st (R_load sc3 rfl (((Own.rd (by decide) ho3).get hi3).one 3 rfl)) rfl (J_st (R_move rfl) rfl (J_st (R_move rfl) rfl ?_))))
     have hi4 : k < dx3.length := (by first | assumption | omega | (simp only [List.length_set]; first | assumption | omega) | (simp only [List.getElem_set_self, List.length_set]; first | assumption | omega) | (simp only [setW, setLk, List.length_set]; first | assumption | omega) | (simp; done))
     refine J_st (R_index (i := k) sl34 rfl rfl (Own.rd (by decide) ho3) hi4) rfl (J_st (R_fieldAddr fl31_3 rfl) rfl (J_st (R_load sc3 rfl (((Own.rd (by decide) ho3).get hi4).one 4 rfl)) rfl (J_st (R_build (⟨0, dx2, (dx3[k]'hi3).key, (dx3[k]'hi4).val⟩ : Cell) rfl (fun _ => by kernel_rfl)) rfl ?_)))
     refine J_buildSlice (vs := [.agg (Enc.enc (⟨0, dx2, (dx3[k]'hi3).key, (dx3[k]'hi4).val⟩ : Cell)).toArray]) (css := [[.int .i64 ((⟨0, dx2, (dx3[k]'hi3).key, (dx3[k]'hi4).val⟩ : Cell).op), .int .i64 ((⟨0, dx2, (dx3[k]'hi3).key, (dx3[k]'hi4).val⟩ : Cell).epoch), .int .i64 ((⟨0, dx2, (dx3[k]'hi3).key, (dx3[k]'hi4).val⟩ : Cell).key), .int .i64 ((⟨0, dx2, (dx3[k]'hi3).key, (dx3[k]'hi4).val⟩ : Cell).val)]]) sl27 rfl rfl ⟨⟨rfl, rfl⟩, trivial⟩ rfl rfl (fun b10 w48 e38 s10 h10 => ?_)
     replace h10 : Blk w48 b10 [.int .i64 ((⟨0, dx2, (dx3[k]'hi3).key, (dx3[k]'hi4).val⟩ : Cell).op), .int .i64 ((⟨0, dx2, (dx3[k]'hi3).key, (dx3[k]'hi4).val⟩ : Cell).epoch), .int .i64 ((⟨0, dx2, (dx3[k]'hi3).key, (dx3[k]'hi4).val⟩ : Cell).key), .int .i64 ((⟨0, dx2, (dx3[k]'hi3).key, (dx3[k]'hi4).val⟩ : Cell).val)] := h10
     have g_b10 : w.heap.size ≤ b10 := by have := E.size; omega
     have y_b10 := h10.lt
     replace E := E.trans e38; replace hd1 := hd1.ext e38; replace ho3 := ho3.ext e38; replace h1 := h1.ext e38; replace ho4 := ho4.ext e38; replace ho5 := ho5.ext e38; replace hd2 := hd2.ext e38; replace ho10 := ho10.ext e38; replace h2 := h2.ext e38; replace ho12 := ho12.ext e38; replace ho13 := ho13.ext e38; replace hd3 := hd3.ext e38; replace ho16 := ho16.ext e38; replace h3 := h3.ext e38; replace h4 := h4.ext e38; replace ho18 := ho18.ext e38; replace ho19 := ho19.ext e38; replace ho21 := ho21.ext e38; replace ho22 := ho22.ext e38; replace h5 := h5.ext e38; replace h6 := h6.ext e38; replace h7 := h7.ext e38; replace ho := ho.ext e38
     have z48 := e38.size
     refine JX_tail ?_
     refine J2_X rfl ?_
     refine J_append sl27 rfl rfl ho (Src.ofBlk h10 rfl) rfl (by have h := fixT_len dx2 (fixQ dx2) dx3 k; simp only [sum_flat, List.length_cons, List.length_nil]; simp only [Enc.sz]; omega) (by decide) (by omega) (by omega) rfl rfl (fun v17 w49 m6 ho26 => ?_)
     replace E := E.step m6 (fun g hg => by have := Own.blk ho g hg; omega); replace hd1 := hd1.mod m6 (fun g hg => by have := Own.blk ho g hg; omega); replace ho3 := ho3.mod m6 (fun g hg => by have := Own.blk ho g hg; omega); replace h1 := h1.mod m6 (fun g hg => by have := Own.blk ho g hg; omega); replace ho4 := ho4.mod m6 (fun g hg => by have := Own.blk ho g hg; omega); replace ho5 := ho5.mod m6 (fun g hg => by have := Own.blk ho g hg; omega); replace hd2 := hd2.mod m6 (fun g hg => by have := Own.blk ho g hg; omega); replace ho10 := ho10.mod m6 (fun g hg => by have := Own.blk ho g hg; omega); replace h2 := h2.mod m6 (fun g hg => by have := Own.blk ho g hg; omega); replace ho12 := ho12.mod m6 (fun g hg => by have := Own.blk ho g hg; omega); replace ho13 := ho13.mod m6 (fun g hg => by have := Own.blk ho g hg; omega); replace hd3 := hd3.mod m6 (fun g hg => by have := Own.blk ho g hg; omega); replace ho16 := ho16.mod m6 (fun g hg => by have := Own.blk ho g hg; omega); replace h3 := h3.mod m6 (fun g hg => by have := Own.blk ho g hg; omega); replace h4 := h4.mod m6 (fun g hg => by have := Own.blk ho g hg; omega); replace ho18 := ho18.mod m6 (fun g hg => by have := Own.blk ho g hg; omega); replace ho19 := ho19.mod m6 (fun g hg => by have := Own.blk ho g hg; omega); replace ho21 := ho21.mod m6 (fun g hg => by have := Own.blk ho g hg; omega); replace ho22 := ho22.mod m6 (fun g hg => by have := Own.blk ho g hg; omega); replace h5 := h5.mod m6 (fun g hg => by have := Own.blk ho g hg; omega); replace h6 := h6.mod m6 (fun g hg => by have := Own.blk ho g hg; omega); replace h7 := h7.mod m6 (fun g hg => by have := Own.blk ho g hg; omega)
     have z49 := m6.size
     refine JX_go ?_
     refine J_st (R_assign rfl) rfl (J_done ?_)
     refine S_nil (E_inB ?_)
     refine S_reg [true, true, true] rfl rfl ?_
     refine J_st (R_move rfl) rfl (J_st (R_add rfl rfl (add_nat (by unfold maxLen; omega))) rfl (J_st (R_assign rfl) rfl (J_done ?_)))
     refine S_nil (E_again (k + 1, v17) (by dsimp only; omega) ⟨rfl, rfl, rfl, rfl, rfl, rfl, rfl, rfl, trivial⟩ ⟨E, (by omega), hd1, ho3, h1, ho4, ho5, hd2, ho10, h2, ho12, ho13, hd3, ho16, h3, h4, ho18, ho19, ho21, ho22, h5, h6, h7, (by omega), Own.fin ho26 (Nat.le_refl _) (by omega) (fixT_yes (by assumption) (by have h := hc4; rw [getD_at (by assumption)] at h; simpa [fixQ] using h))⟩)
    ·refine S_skip ?_
     refine S_nil (E_inB ?_)
     refine S_reg [true, true, true] rfl rfl ?_
     refine J_st (R_move rfl) rfl (J_st (R_add rfl rfl (add_nat (by unfold maxLen; omega))) rfl (J_st (R_assign rfl) rfl (J_done ?_)))
     refine S_nil (E_again (k + 1, vo) (by dsimp only; omega) ⟨rfl, rfl, rfl, rfl, rfl, rfl, rfl, rfl, trivial⟩ ⟨E, (by omega), hd1, ho3, h1, ho4, ho5, hd2, ho10, h2, ho12, ho13, hd3, ho16, h3, h4, ho18, ho19, ho21, ho22, h5, h6, h7, (by omega), Own.fin ho (Nat.le_refl _) (by omega) (fixT_no (by assumption) (by have h := hc4; rw [getD_at (by assumption)] at h; simpa [fixQ] using h))⟩)
   ·have hc3n : ¬ k < dx3.length := by first | (have h := of_decide_eq_false hc3; omega) | (have h := hc3; simp at h; omega)
    refine S_exit (E_lp_exit (E_inB_exit ?_))
    refine S_seq ?_
    refine S_reg [true, true, false, true, true, true, false, true, true, true, true, false, false, true, true, true, true] rfl rfl ?_
    refine J_st (R_loadS st26 rfl h1.at rfl) rfl (J_st (R_move rfl) rfl ?_)
    refine J_call Try.call27 rfl (c_IsClosed [o1, .int .i64 dx1.workers, .int .i64 dx1.cap] dx1 v2 (fixM dx1 dx2 dx3) _ (Graph.mkR dx1 (RdD.any hd1)) (Own.rd (by decide) ho4) (by have := fix_len dx1 dx2 dx3; omega)) rfl (fun _ w50 e39 hv => ?_)
    subst hv
    replace E := E.trans e39; replace hd1 := hd1.ext e39; replace ho3 := ho3.ext e39; replace h1 := h1.ext e39; replace ho4 := ho4.ext e39; replace ho5 := ho5.ext e39; replace hd2 := hd2.ext e39; replace ho10 := ho10.ext e39; replace h2 := h2.ext e39; replace ho12 := ho12.ext e39; replace ho13 := ho13.ext e39; replace hd3 := hd3.ext e39; replace ho16 := ho16.ext e39; replace h3 := h3.ext e39; replace h4 := h4.ext e39; replace ho18 := ho18.ext e39; replace ho19 := ho19.ext e39; replace ho21 := ho21.ext e39; replace ho22 := ho22.ext e39; replace h5 := h5.ext e39; replace h6 := h6.ext e39; replace h7 := h7.ext e39; replace ho := ho.ext e39
    have z50 := e39.size
    refine J_st (R_move rfl) rfl ?_
    refine J_cut 12 [(2, .bool false), (3, .pointer (some ⟨b1, 0, none⟩)), (4, .int .i64 dx2), (5, v1), (6, v2), (18, .pointer (some ⟨b7, 0, none⟩)), (19, vo), (20, .int .i64 ((k : Nat) : Int)), (140, .int .i64 ((k : Nat) : Int)), (141, v1), (142, .int .i64 ((dx3.length : Nat) : Int)), (143, .bool (decide (((k : Nat) : Int) < ((dx3.length : Nat) : Int)))), (195, .bool (((isClosedM dx1 (fixM dx1 dx2 dx3)) && ((fixT dx2 (fixQ dx2) dx3 k).all (nwP (fixM dx1 dx2 dx3)))) && (((((fixM (⟨[(⟨1, 0, 0, [1]⟩ : Node), (⟨8, 0, 0, []⟩ : Node)], 1, 1⟩ : Graph) 0 [(⟨0, (⟨0, 0⟩ : Stamp), 5, 0⟩ : Record)]).filter (outOf (⟨[(⟨1, 0, 0, [1]⟩ : Node), (⟨8, 0, 0, []⟩ : Node)], 1, 1⟩ : Graph))).length : Nat) : Int) == 1)))] (fun w' => Ext w w' ∧ w50.heap.size ≤ w'.heap.size ∧ RdD w' w1.heap.size w2.heap.size o1 dx1.nodes ∧ Own w' w1.heap.size w2.heap.size 5 v1 (List.flatMap (Enc.enc (α := Record)) dx3) ∧ Blk w' b1 [o1, .int .i64 dx1.workers, .int .i64 dx1.cap] ∧ Own w' w4.heap.size w5.heap.size 4 v2 (List.flatMap (Enc.enc (α := Cell)) (fixM dx1 dx2 dx3)) ∧ Own w' w6.heap.size w7.heap.size 4 v3 (List.flatMap (Enc.enc (α := Cell)) (fixM dx1 dx2 dx3)) ∧ RdD w' w9.heap.size w13.heap.size o2 dx4.nodes ∧ Own w' w9.heap.size w13.heap.size 4 v6 (List.flatMap (Enc.enc (α := Cell)) dx5) ∧ Blk w' b2 [o2, .int .i64 dx4.workers, .int .i64 dx4.cap] ∧ Own w' w15.heap.size w16.heap.size 4 v7 (List.flatMap (Enc.enc (α := Cell)) dx6) ∧ Own w' w15.heap.size w16.heap.size 4 v8 (List.flatMap (Enc.enc (α := Cell)) dx7) ∧ RdD w' w16.heap.size w17.heap.size o3 dx8.nodes ∧ Own w' w16.heap.size w17.heap.size 4 v9 (List.flatMap (Enc.enc (α := Cell)) dx9) ∧ Blk w' b3 [o3, .int .i64 dx8.workers, .int .i64 dx8.cap] ∧ Blk w' b4 [.int .i64 dx10.op, .int .i64 dx10.epoch, .int .i64 dx10.key, .int .i64 dx10.val] ∧ Own w' w21.heap.size w22.heap.size 4 v10 (List.flatMap (Enc.enc (α := Cell)) ((improveM dx8 dx9 dx10).1)) ∧ Own w' w21.heap.size w22.heap.size 4 v11 (List.flatMap (Enc.enc (α := Cell)) ((improveM dx8 dx9 dx10).2)) ∧ Own w' w22.heap.size w23.heap.size 4 v12 (List.flatMap (Enc.enc (α := Cell)) ((improveM dx8 dx9 dx10).1)) ∧ Own w' w22.heap.size w23.heap.size 4 v13 (List.flatMap (Enc.enc (α := Cell)) ((improveM dx8 dx9 dx10).2)) ∧ Blk w' b5 [.int .i64 1] ∧ Blk w' b6 [.int .i64 1, .int .i64 0, .int .i64 0, .slice (some ⟨b5, 0, none⟩) 1 1, .int .i64 8, .int .i64 0, .int .i64 0, .slice none 0 0] ∧ Blk w' b7 [.slice (some ⟨b6, 0, none⟩) 2 2, .int .i64 1, .int .i64 1] ∧ Own w' b9 w44.heap.size 4 vo (List.flatMap (Enc.enc (α := Cell)) (fixT dx2 (fixQ dx2) dx3 k))) ?_ ?_
    ·refine J_if (gd := 183) rfl rfl (fun hg9 => ?_) (fun hg9 => ?_)
     ·refine J_gd rfl rfl (R_move rfl) rfl (J_gd rfl rfl (R_move rfl) rfl ?_)
      refine J_ung rfl rfl ?_
      refine J_call Try.call29 rfl (c_NoWorse v2 (fixM dx1 dx2 dx3) vo (fixT dx2 (fixQ dx2) dx3 k) _ (Own.rd (by decide) ho4) (Own.rd (by decide) ho)) rfl (fun _ w52 e40 hv => ?_)
      subst hv
      replace E := E.trans e40; replace hd1 := hd1.ext e40; replace ho3 := ho3.ext e40; replace h1 := h1.ext e40; replace ho4 := ho4.ext e40; replace ho5 := ho5.ext e40; replace hd2 := hd2.ext e40; replace ho10 := ho10.ext e40; replace h2 := h2.ext e40; replace ho12 := ho12.ext e40; replace ho13 := ho13.ext e40; replace hd3 := hd3.ext e40; replace ho16 := ho16.ext e40; replace h3 := h3.ext e40; replace h4 := h4.ext e40; replace ho18 := ho18.ext e40; replace ho19 := ho19.ext e40; replace ho21 := ho21.ext e40; replace ho22 := ho22.ext e40; replace h5 := h5.ext e40; replace h6 := h6.ext e40; replace h7 := h7.ext e40; replace ho := ho.ext e40
      have z51 := e40.size
      refine J_st (R_pickT rfl rfl) rfl (J_st (R_move rfl) rfl ?_)
      refine J_if (gd := 188) rfl rfl (fun hg10 => ?_) (fun hg10 => ?_)
      ·refine J_gd rfl rfl (R_loadS st26 rfl h7.at rfl) rfl (J_gd rfl rfl (R_build (⟨0, (⟨0, 0⟩ : Stamp), 5, 0⟩ : Record) rfl (fun _ => by kernel_rfl)) rfl ?_)
       refine J_ung rfl rfl ?_
       refine J_buildSlice (vs := [.agg (Enc.enc (⟨0, (⟨0, 0⟩ : Stamp), 5, 0⟩ : Record)).toArray]) (css := [[.int .i64 ((⟨0, (⟨0, 0⟩ : Stamp), 5, 0⟩ : Record).op), .int .i64 (((⟨0, (⟨0, 0⟩ : Stamp), 5, 0⟩ : Record).stamp).epoch), .int .i64 (((⟨0, (⟨0, 0⟩ : Stamp), 5, 0⟩ : Record).stamp).turn), .int .i64 ((⟨0, (⟨0, 0⟩ : Stamp), 5, 0⟩ : Record).key), .int .i64 ((⟨0, (⟨0, 0⟩ : Stamp), 5, 0⟩ : Record).val)]]) sl34 rfl rfl ⟨⟨rfl, rfl⟩, trivial⟩ rfl rfl (fun b11 w53 e41 s11 h11 => ?_)
       replace h11 : Blk w53 b11 [.int .i64 ((⟨0, (⟨0, 0⟩ : Stamp), 5, 0⟩ : Record).op), .int .i64 (((⟨0, (⟨0, 0⟩ : Stamp), 5, 0⟩ : Record).stamp).epoch), .int .i64 (((⟨0, (⟨0, 0⟩ : Stamp), 5, 0⟩ : Record).stamp).turn), .int .i64 ((⟨0, (⟨0, 0⟩ : Stamp), 5, 0⟩ : Record).key), .int .i64 ((⟨0, (⟨0, 0⟩ : Stamp), 5, 0⟩ : Record).val)] := h11
       have g_b11 : w.heap.size ≤ b11 := by have := E.size; omega
       have y_b11 := h11.lt
       replace E := E.trans e41; replace hd1 := hd1.ext e41; replace ho3 := ho3.ext e41; replace h1 := h1.ext e41; replace ho4 := ho4.ext e41; replace ho5 := ho5.ext e41; replace hd2 := hd2.ext e41; replace ho10 := ho10.ext e41; replace h2 := h2.ext e41; replace ho12 := ho12.ext e41; replace ho13 := ho13.ext e41; replace hd3 := hd3.ext e41; replace ho16 := ho16.ext e41; replace h3 := h3.ext e41; replace h4 := h4.ext e41; replace ho18 := ho18.ext e41; replace ho19 := ho19.ext e41; replace ho21 := ho21.ext e41; replace ho22 := ho22.ext e41; replace h5 := h5.ext e41; replace h6 := h6.ext e41; replace h7 := h7.ext e41; replace ho := ho.ext e41
       have z52 := e41.size
       refine J_ung rfl rfl ?_
       have hF2 : OwF w53 b5 w53.heap.size (.slice (some ⟨b6, 0, none⟩) 2 2) [(⟨1, 0, 0, [1]⟩ : Node), (⟨8, 0, 0, []⟩ : Node)] [b6, b5] := OwF.lit (css := [[.int .i64 1, .int .i64 0, .int .i64 0, .slice (some ⟨b5, 0, none⟩) 1 1], [.int .i64 8, .int .i64 0, .int .i64 0, .slice none 0 0]]) h6 ⟨(Node.mkO (⟨1, 0, 0, [1]⟩ : Node) ⟨trivial, trivial⟩ (Own.widen (Own.ofBlk (lo := b5) (hi := b5 + 1) (sz := 1) h5 (Nat.le_refl _) (Nat.lt_succ_self _) (by rfl) (by unfold maxLen; omega)) (by omega) (by omega))), (Node.mkO (⟨8, 0, 0, []⟩ : Node) ⟨trivial, trivial⟩ (Own.nil _ _ _ _)), trivial⟩ (by omega) (by omega) (show List.Nodup [b6, b5] from by simp; omega) rfl (by simp [maxLen])
       refine J_call Try.call20 rfl (c_ResultOf [.slice (some ⟨b6, 0, none⟩) 2 2, .int .i64 1, .int .i64 1] (⟨[(⟨1, 0, 0, [1]⟩ : Node), (⟨8, 0, 0, []⟩ : Node)], 1, 1⟩ : Graph) 0 (.slice (some ⟨b11, 0, none⟩) 1 1) [(⟨0, (⟨0, 0⟩ : Stamp), 5, 0⟩ : Record)] _ (Graph.mkR (⟨[(⟨1, 0, 0, [1]⟩ : Node), (⟨8, 0, 0, []⟩ : Node)], 1, 1⟩ : Graph) (RdD.any (OwF.rd hF2))) (Blk.rd (α := Record) (xs := [(⟨0, (⟨0, 0⟩ : Stamp), 5, 0⟩ : Record)]) (by decide) h11 rfl (by simp [maxLen])) (by first | omega | (simp; done))) rfl (fun v18 w54 e42 ho27 => ?_)
       have g_ho27 : w.heap.size ≤ w53.heap.size := E.size
       replace E := E.trans e42; replace hd1 := hd1.ext e42; replace ho3 := ho3.ext e42; replace h1 := h1.ext e42; replace ho4 := ho4.ext e42; replace ho5 := ho5.ext e42; replace hd2 := hd2.ext e42; replace ho10 := ho10.ext e42; replace h2 := h2.ext e42; replace ho12 := ho12.ext e42; replace ho13 := ho13.ext e42; replace hd3 := hd3.ext e42; replace ho16 := ho16.ext e42; replace h3 := h3.ext e42; replace h4 := h4.ext e42; replace ho18 := ho18.ext e42; replace ho19 := ho19.ext e42; replace ho21 := ho21.ext e42; replace ho22 := ho22.ext e42; replace h5 := h5.ext e42; replace h6 := h6.ext e42; replace h7 := h7.ext e42; replace ho := ho.ext e42; replace h11 := h11.ext e42
       have z53 := e42.size
       refine J_gd rfl rfl (R_len Try.underlying27 rfl (Own.len (by decide) ho27)) rfl (J_gd rfl rfl (R_eql rfl rfl) rfl (J_st (R_pickT rfl rfl) rfl (J_cutEnd ⟨rfl, rfl, rfl, rfl, rfl, rfl, rfl, rfl, rfl, rfl, rfl, rfl, congrArg (fun b => some (Value.bool b)) (show (((((fixM (⟨[(⟨1, 0, 0, [1]⟩ : Node), (⟨8, 0, 0, []⟩ : Node)], 1, 1⟩ : Graph) 0 [(⟨0, (⟨0, 0⟩ : Stamp), 5, 0⟩ : Record)]).filter (outOf (⟨[(⟨1, 0, 0, [1]⟩ : Node), (⟨8, 0, 0, []⟩ : Node)], 1, 1⟩ : Graph))).length : Nat) : Int) == 1) = (((isClosedM dx1 (fixM dx1 dx2 dx3)) && ((fixT dx2 (fixQ dx2) dx3 k).all (nwP (fixM dx1 dx2 dx3)))) && (((((fixM (⟨[(⟨1, 0, 0, [1]⟩ : Node), (⟨8, 0, 0, []⟩ : Node)], 1, 1⟩ : Graph) 0 [(⟨0, (⟨0, 0⟩ : Stamp), 5, 0⟩ : Record)]).filter (outOf (⟨[(⟨1, 0, 0, [1]⟩ : Node), (⟨8, 0, 0, []⟩ : Node)], 1, 1⟩ : Graph))).length : Nat) : Int) == 1)) by first | (rw [hg9, hg10] <;> rfl) | (simp [hg9, hg10]; done) | (simp only [nat_nlt] <;> simp)), trivial⟩ ⟨E, (by omega), hd1, ho3, h1, ho4, ho5, hd2, ho10, h2, ho12, ho13, hd3, ho16, h3, h4, ho18, ho19, ho21, ho22, h5, h6, h7, ho⟩)))
      ·refine J_gdno rfl rfl rfl rfl (J_gdno rfl rfl rfl rfl ?_)
       refine J_ungno rfl rfl rfl rfl ?_
       refine J_ungno rfl rfl rfl rfl ?_
       refine J_gdno rfl rfl rfl rfl (J_gdno rfl rfl rfl rfl (J_st (R_pickF rfl rfl) rfl (J_cutEnd ⟨rfl, rfl, rfl, rfl, rfl, rfl, rfl, rfl, rfl, rfl, rfl, rfl, congrArg (fun b => some (Value.bool b)) (show false = (((isClosedM dx1 (fixM dx1 dx2 dx3)) && ((fixT dx2 (fixQ dx2) dx3 k).all (nwP (fixM dx1 dx2 dx3)))) && (((((fixM (⟨[(⟨1, 0, 0, [1]⟩ : Node), (⟨8, 0, 0, []⟩ : Node)], 1, 1⟩ : Graph) 0 [(⟨0, (⟨0, 0⟩ : Stamp), 5, 0⟩ : Record)]).filter (outOf (⟨[(⟨1, 0, 0, [1]⟩ : Node), (⟨8, 0, 0, []⟩ : Node)], 1, 1⟩ : Graph))).length : Nat) : Int) == 1)) by first | (rw [hg9, hg10] <;> rfl) | (simp [hg9, hg10]; done) | (simp only [nat_nlt] <;> simp)), trivial⟩ ⟨E, (by omega), hd1, ho3, h1, ho4, ho5, hd2, ho10, h2, ho12, ho13, hd3, ho16, h3, h4, ho18, ho19, ho21, ho22, h5, h6, h7, ho⟩)))
     ·refine J_gdno rfl rfl rfl rfl (J_gdno rfl rfl rfl rfl ?_)
      refine J_ungno rfl rfl rfl rfl ?_
      refine J_st (R_pickF rfl rfl) rfl (J_st (R_move rfl) rfl (J_gdno rfl rfl rfl rfl (J_gdno rfl rfl rfl rfl ?_)))
      refine J_ungno rfl rfl rfl rfl ?_
      refine J_ungno rfl rfl rfl rfl ?_
      refine J_gdno rfl rfl rfl rfl (J_gdno rfl rfl rfl rfl (J_st (R_pickF rfl rfl) rfl (J_cutEnd ⟨rfl, rfl, rfl, rfl, rfl, rfl, rfl, rfl, rfl, rfl, rfl, rfl, congrArg (fun b => some (Value.bool b)) (show false = (((isClosedM dx1 (fixM dx1 dx2 dx3)) && ((fixT dx2 (fixQ dx2) dx3 k).all (nwP (fixM dx1 dx2 dx3)))) && (((((fixM (⟨[(⟨1, 0, 0, [1]⟩ : Node), (⟨8, 0, 0, []⟩ : Node)], 1, 1⟩ : Graph) 0 [(⟨0, (⟨0, 0⟩ : Stamp), 5, 0⟩ : Record)]).filter (outOf (⟨[(⟨1, 0, 0, [1]⟩ : Node), (⟨8, 0, 0, []⟩ : Node)], 1, 1⟩ : Graph))).length : Nat) : Int) == 1)) by first | (rw [hg9] <;> rfl) | (simp [hg9]; done) | (simp only [nat_nlt] <;> simp)), trivial⟩ ⟨E, (by omega), hd1, ho3, h1, ho4, ho5, hd2, ho10, h2, ho12, ho13, hd3, ho16, h3, h4, ho18, ho19, ho21, ho22, h5, h6, h7, ho⟩)))
    clear E hd1 ho3 h1 ho4 ho5 hd2 ho10 h2 ho12 ho13 hd3 ho16 h3 h4 ho18 ho19 ho21 ho22 h5 h6 h7 ho
    rintro w51 ⟨E, z54, hd1, ho3, h1, ho4, ho5, hd2, ho10, h2, ho12, ho13, hd3, ho16, h3, h4, ho18, ho19, ho21, ho22, h5, h6, h7, ho⟩
    refine J_st (R_assign rfl) rfl (J_done ?_)
    refine S_ret (E_done1 rfl rfl E ?_)
    exact congrArg Value.bool (fixed_yes hc2 (by omega))

end Go.Proofs.Ytckahblgeepfjaa
