/- What the functions that the laws call come to: a contract each; no condition. -/
import Derived.Test.YtdmngeljbhlgmaaFns
namespace Go.Proofs.Ytdmngeljbhlgmaa
open Go Go.Proofs.Ytdmngeljbhlgmaa.X Go.Proofs
set_option maxHeartbeats 4000000 in
set_option maxRecDepth 20000 in
theorem l_FnMemory (vcode : Value) (code : List Byt) (w : World) (hcode : RdS w vcode code) (kcode : ∀ y ∈ code, True) : Ct Try.prog 4 [vcode] w (fun v _ => v = .bool true) := by
  refine ct_of Try.func4 rfl Try.ntmps4 rfl ?_
  refine S_sub [(0, vcode)] ⟨rfl, trivial⟩ ?_
  have E : Ext w w := Ext.refl w
  refine S_seq ?_
  refine S_reg [true] rfl rfl ?_
  refine J_st (R_assign rfl) rfl (J_done ?_)
  refine S_seq ?_
  refine S_seq ?_
  refine S_reg [true, false] rfl rfl ?_
  refine J_st (R_move rfl) rfl ?_
  refine J_call Try.call6 rfl (l_big vcode code _ (hcode.ext E)) rfl (fun _ w1 e1 hv => ?_)
  subst hv
  replace E := E.trans e1
  have z1 := e1.size
  refine J_done ?_
  refine S_cond rfl (fun hc1 => ?_) (fun hc1 => ?_)
  · refine S_seq ?_
    refine S_reg [true] rfl rfl ?_
    refine J_st (R_assign rfl) rfl (J_done ?_)
    refine S_ret (E_done1 rfl rfl E ?_)
    rfl
  · refine S_skip ?_
    refine S_seq ?_
    refine S_reg [true, false, true, true, true, true, false, true, true, false] rfl rfl ?_
    refine J_st (R_move rfl) rfl ?_
    refine J_call Try.call25 rfl (s_DrawRecall vcode code _ (hcode.ext E)) rfl (fun _ w2 e2 ho1 => ?_)
    obtain ⟨dx1, dx2, dx3, q1, ho1⟩ := ho1
    obtain ⟨v1, rfl, ho2⟩ := ho1
    have g_ho1 : w.heap.size ≤ w1.heap.size := E.size
    replace E := E.trans e2
    have z2 := e2.size
    refine J_st (R_move rfl) rfl (J_st (R_extract rfl rfl) rfl (J_st (R_extract rfl rfl) rfl (J_st (R_extract rfl rfl) rfl ?_)))
    refine J_alloc st47 rfl (fun b1 w3 e3 s1 h1 => ?_)
    have g_b1 : w.heap.size ≤ b1 := by have := E.size; omega
    have y_b1 := h1.lt
    replace E := E.trans e3; replace ho2 := ho2.ext e3
    have z3 := e3.size
    refine J_st (R_assign rfl) rfl (J_st (R_assign rfl) rfl ?_)
    refine J_storeS' (cs' := [.int .i64 dx3.op, .int .i64 dx3.epoch, .int .i64 dx3.key, .int .i64 dx3.val]) st47 rfl rfl rfl rfl h1 (Nat.le_of_ble_eq_true rfl) rfl (fun w4 m1 h1' => ?_)
    replace h1 := h1'
    replace E := E.step m1 (fun g hg => by cases hg; omega); replace ho2 := ho2.mod m1 (fun g hg => by cases hg; omega)
    have z4 := m1.size
    refine J_done ?_
    refine S_seq ?_
    refine S_reg [true, true, true, false, true, true, true, true, true] rfl rfl ?_
    refine J_st (R_move rfl) rfl (J_st (R_move rfl) rfl (J_st (R_loadS st47 rfl h1.at rfl) rfl ?_))
    refine J_call Try.call26 rfl (c_Recall dx1 v1 dx2 dx3 _ (Own.rd (by decide) ho2) (by first | omega | exact (Nat.le_trans (recallM_len _ _ _) (by omega)))) rfl (fun _ w5 e4 ho3 => ?_)
    obtain ⟨v2, rfl, ho4⟩ := ho3
    have g_ho3 : w.heap.size ≤ w4.heap.size := E.size
    replace E := E.trans e4; replace ho2 := ho2.ext e4; replace h1 := h1.ext e4
    have z5 := e4.size
    refine J_st (R_move rfl) rfl (J_st (R_extract rfl rfl) rfl (J_st (R_extract rfl rfl) rfl (J_st (R_assign rfl) rfl (J_st (R_assign rfl) rfl (J_done ?_)))))
    refine S_seq ?_
    refine S_reg [true, true, true, false, true, true, true, true, true] rfl rfl ?_
    refine J_st (R_move rfl) rfl (J_st (R_move rfl) rfl (J_st (R_loadS st47 rfl h1.at rfl) rfl ?_))
    refine J_call Try.call27 rfl (s_Recall dx1 v1 dx2 dx3 _ (Own.rd (by decide) ho2) (by first | omega | exact (Nat.le_trans (recallM_len _ _ _) (by omega)))) rfl (fun _ w6 e5 ho5 => ?_)
    obtain ⟨v3, rfl, ho6⟩ := ho5
    have g_ho5 : w.heap.size ≤ w5.heap.size := E.size
    replace E := E.trans e5; replace ho2 := ho2.ext e5; replace h1 := h1.ext e5; replace ho4 := ho4.ext e5
    have z6 := e5.size
    refine J_st (R_move rfl) rfl (J_st (R_extract rfl rfl) rfl (J_st (R_extract rfl rfl) rfl (J_st (R_assign rfl) rfl (J_st (R_assign rfl) rfl (J_done ?_)))))
    refine S_seq ?_
    refine S_seq ?_
    refine S_reg [true, true, true, true, true, true, false, true, true, true, true, false, true, false, true, true] rfl rfl ?_
    refine J_st (R_move rfl) rfl (J_st (R_move rfl) rfl (J_st (R_neqB (Try.underlying4) rfl rfl) rfl (J_st (R_move rfl) rfl ?_)))
    refine J_cut 12 [(0, vcode), (2, .bool false), (3, .int .i64 dx1), (4, v1), (5, .pointer (some ⟨b1, 0, none⟩)), (6, v2), (7, .bool ((recallM dx1 dx2 dx3).2)), (8, v3), (9, .bool ((recallM dx1 dx2 dx3).2)), (31, vcode), (32, .bool (decide (((code.length : Nat) : Int) > 1048576))), (33, .tuple [.int .i64 dx1, v1, .agg (Enc.enc dx3).toArray].toArray), (34, vcode), (35, .tuple [.int .i64 dx1, v1, .agg (Enc.enc dx3).toArray].toArray), (36, .int .i64 dx1), (37, v1), (38, .agg (Enc.enc dx3).toArray), (39, .tuple [v2, .bool ((recallM dx1 dx2 dx3).2)].toArray), (40, .int .i64 dx1), (41, v1), (42, .agg (Enc.enc dx3).toArray), (43, .tuple [v2, .bool ((recallM dx1 dx2 dx3).2)].toArray), (44, v2), (45, .bool ((recallM dx1 dx2 dx3).2)), (46, .tuple [v3, .bool ((recallM dx1 dx2 dx3).2)].toArray), (47, .int .i64 dx1), (48, v1), (49, .agg (Enc.enc dx3).toArray), (50, .tuple [v3, .bool ((recallM dx1 dx2 dx3).2)].toArray), (51, v3), (52, .bool ((recallM dx1 dx2 dx3).2)), (68, .bool (((!(((recallM dx1 dx2 dx3).2) == ((recallM dx1 dx2 dx3).2))) || (!(decide (((recallM dx1 dx2 dx3).1) = ((recallM dx1 dx2 dx3).1))))) || (!(((adj dx2).all cellLt) == ((adj dx2).all cellLt)))))] (fun w' => Ext w w' ∧ w6.heap.size ≤ w'.heap.size ∧ Own w' w1.heap.size w2.heap.size 4 v1 (List.flatMap (Enc.enc (α := Cell)) dx2) ∧ Blk w' b1 [.int .i64 dx3.op, .int .i64 dx3.epoch, .int .i64 dx3.key, .int .i64 dx3.val] ∧ Own w' w4.heap.size w5.heap.size 4 v2 (List.flatMap (Enc.enc (α := Cell)) ((recallM dx1 dx2 dx3).1)) ∧ Own w' w5.heap.size w6.heap.size 4 v3 (List.flatMap (Enc.enc (α := Cell)) ((recallM dx1 dx2 dx3).1))) ?_ ?_
    · refine J_if (gd := 56) rfl rfl (fun hg1 => ?_) (fun hg1 => ?_)
      · exact absurd hg1 (by first | (simp; done) | (simp only [nat_nlt] <;> simp) | (simp only [mkL_length, nat_nlt] <;> simp) | (simp only [mkL_length] <;> simp))
      · refine J_gd rfl rfl (R_move rfl) rfl (J_gd rfl rfl (R_move rfl) rfl ?_)
        refine J_ung rfl rfl ?_
        refine J_call Try.call28 rfl (l_sameCells v2 ((recallM dx1 dx2 dx3).1) v3 ((recallM dx1 dx2 dx3).1) _ (Own.rd (by decide) ho4) (Own.rd (by decide) ho6)) rfl (fun _ w8 e6 hv => ?_)
        subst hv
        replace E := E.trans e6; replace ho2 := ho2.ext e6; replace h1 := h1.ext e6; replace ho4 := ho4.ext e6; replace ho6 := ho6.ext e6
        have z7 := e6.size
        refine J_gd rfl rfl (R_not rfl) rfl (J_st (R_pickF rfl rfl) rfl (J_st (R_move rfl) rfl ?_))
        refine J_if (gd := 62) rfl rfl (fun hg2 => ?_) (fun hg2 => ?_)
        · exact absurd hg2 (by first | (simp; done) | (simp only [nat_nlt] <;> simp) | (simp only [mkL_length, nat_nlt] <;> simp) | (simp only [mkL_length] <;> simp))
        · refine J_gd rfl rfl (R_move rfl) rfl ?_
          refine J_ung rfl rfl ?_
          refine J_call Try.call29 rfl (c_CellsOk v1 dx2 _ (Own.rd (by decide) ho2)) rfl (fun _ w9 e7 hv => ?_)
          subst hv
          replace E := E.trans e7; replace ho2 := ho2.ext e7; replace h1 := h1.ext e7; replace ho4 := ho4.ext e7; replace ho6 := ho6.ext e7
          have z8 := e7.size
          refine J_gd rfl rfl (R_move rfl) rfl ?_
          refine J_ung rfl rfl ?_
          refine J_call Try.call30 rfl (s_CellsOk v1 dx2 _ (Own.rd (by decide) ho2)) rfl (fun _ w10 e8 hv => ?_)
          subst hv
          replace E := E.trans e8; replace ho2 := ho2.ext e8; replace h1 := h1.ext e8; replace ho4 := ho4.ext e8; replace ho6 := ho6.ext e8
          have z9 := e8.size
          refine J_gd rfl rfl (R_neqB (Try.underlying4) rfl rfl) rfl (J_st (R_pickF rfl rfl) rfl (J_cutEnd ⟨rfl, rfl, rfl, rfl, rfl, rfl, rfl, rfl, rfl, rfl, rfl, rfl, rfl, rfl, rfl, rfl, rfl, rfl, rfl, rfl, rfl, rfl, rfl, rfl, rfl, rfl, rfl, rfl, rfl, rfl, rfl, congrArg (fun b => some (Value.bool b)) (show (!(((adj dx2).all cellLt) == ((adj dx2).all cellLt))) = (((!(((recallM dx1 dx2 dx3).2) == ((recallM dx1 dx2 dx3).2))) || (!(decide (((recallM dx1 dx2 dx3).1) = ((recallM dx1 dx2 dx3).1))))) || (!(((adj dx2).all cellLt) == ((adj dx2).all cellLt)))) by first | (rw [hg1, hg2] <;> rfl) | (simp [hg1, hg2]; done) | (simp only [nat_nlt] <;> simp)), trivial⟩ ⟨E, (by omega), ho2, h1, ho4, ho6⟩))
    clear E ho2 h1 ho4 ho6
    rintro w7 ⟨E, z10, ho2, h1, ho4, ho6⟩
    refine J_done ?_
    refine S_condFe rfl (by first | (simp; done) | (simp only [nat_nlt] <;> simp) | (simp only [mkL_length, nat_nlt] <;> simp) | (simp only [mkL_length] <;> simp)) ?_
    refine S_skip ?_
    refine S_seq ?_
    refine S_reg [true, true, true, false, true, true, true, true, true] rfl rfl ?_
    refine J_st (R_move rfl) rfl (J_st (R_move rfl) rfl (J_st (R_loadS st47 rfl h1.at rfl) rfl ?_))
    refine J_call Try.call26 rfl (c_Recall dx1 v2 ((recallM dx1 dx2 dx3).1) dx3 _ (Own.rd (by decide) ho4) (by first | omega | exact (Nat.le_trans (recallM_len _ _ _) (by omega)))) rfl (fun _ w11 e9 ho7 => ?_)
    obtain ⟨v4, rfl, ho8⟩ := ho7
    have g_ho7 : w.heap.size ≤ w7.heap.size := E.size
    replace E := E.trans e9; replace ho2 := ho2.ext e9; replace h1 := h1.ext e9; replace ho4 := ho4.ext e9; replace ho6 := ho6.ext e9
    have z11 := e9.size
    refine J_st (R_move rfl) rfl (J_st (R_extract rfl rfl) rfl (J_st (R_extract rfl rfl) rfl (J_st (R_assign rfl) rfl (J_st (R_assign rfl) rfl (J_done ?_)))))
    refine S_seq ?_
    refine S_reg [true, false, true, true, true, false, true, false] rfl rfl ?_
    refine J_st (R_move rfl) rfl ?_
    refine J_call Try.call31 rfl (s_DrawPutCell vcode code _ (hcode.ext E)) rfl (fun _ w12 e10 ho9 => ?_)
    obtain ⟨dx4, dx5, q2, ho9⟩ := ho9
    obtain ⟨v5, rfl, ho10⟩ := ho9
    have g_ho9 : w.heap.size ≤ w11.heap.size := E.size
    replace E := E.trans e10; replace ho2 := ho2.ext e10; replace h1 := h1.ext e10; replace ho4 := ho4.ext e10; replace ho6 := ho6.ext e10; replace ho8 := ho8.ext e10
    have z12 := e10.size
    refine J_st (R_move rfl) rfl (J_st (R_extract rfl rfl) rfl (J_st (R_extract rfl rfl) rfl ?_))
    refine J_alloc st47 rfl (fun b2 w13 e11 s2 h2 => ?_)
    have g_b2 : w.heap.size ≤ b2 := by have := E.size; omega
    have y_b2 := h2.lt
    replace E := E.trans e11; replace ho2 := ho2.ext e11; replace h1 := h1.ext e11; replace ho4 := ho4.ext e11; replace ho6 := ho6.ext e11; replace ho8 := ho8.ext e11; replace ho10 := ho10.ext e11
    have z13 := e11.size
    refine J_st (R_assign rfl) rfl ?_
    refine J_storeS' (cs' := [.int .i64 dx5.op, .int .i64 dx5.epoch, .int .i64 dx5.key, .int .i64 dx5.val]) st47 rfl rfl rfl rfl h2 (Nat.le_of_ble_eq_true rfl) rfl (fun w14 m2 h2' => ?_)
    replace h2 := h2'
    replace E := E.step m2 (fun g hg => by cases hg; omega); replace ho2 := ho2.mod m2 (fun g hg => by cases hg; omega); replace h1 := h1.mod m2 (fun g hg => by cases hg; omega); replace ho4 := ho4.mod m2 (fun g hg => by cases hg; omega); replace ho6 := ho6.mod m2 (fun g hg => by cases hg; omega); replace ho8 := ho8.mod m2 (fun g hg => by cases hg; omega); replace ho10 := ho10.mod m2 (fun g hg => by cases hg; omega)
    have z14 := m2.size
    refine J_done ?_
    refine S_seq ?_
    refine S_reg [true, true, false, true] rfl rfl ?_
    refine J_st (R_move rfl) rfl (J_st (R_loadS st47 rfl h2.at rfl) rfl ?_)
    refine J_call Try.call32 rfl (c_PutCell v5 dx4 dx5 _ (Own.rd (by decide) ho10) (by first | omega | simp)) rfl (fun v6 w15 e12 ho11 => ?_)
    have g_ho11 : w.heap.size ≤ w14.heap.size := E.size
    replace E := E.trans e12; replace ho2 := ho2.ext e12; replace h1 := h1.ext e12; replace ho4 := ho4.ext e12; replace ho6 := ho6.ext e12; replace ho8 := ho8.ext e12; replace ho10 := ho10.ext e12; replace h2 := h2.ext e12
    have z15 := e12.size
    refine J_st (R_assign rfl) rfl (J_done ?_)
    refine S_seq ?_
    refine S_reg [true, false, true, true, true, true, true, true, true, true, true] rfl rfl ?_
    refine J_st (R_move rfl) rfl ?_
    refine J_call Try.call33 rfl (s_DrawLeastOf vcode code _ (hcode.ext E)) rfl (fun _ w16 e13 ho12 => ?_)
    obtain ⟨dx6, dx7, dx8, dx9, q3, ho12⟩ := ho12
    obtain ⟨v7, rfl, ho13⟩ := ho12
    have g_ho12 : w.heap.size ≤ w15.heap.size := E.size
    replace E := E.trans e13; replace ho2 := ho2.ext e13; replace h1 := h1.ext e13; replace ho4 := ho4.ext e13; replace ho6 := ho6.ext e13; replace ho8 := ho8.ext e13; replace ho10 := ho10.ext e13; replace h2 := h2.ext e13; replace ho11 := ho11.ext e13
    have z16 := e13.size
    refine J_st (R_move rfl) rfl (J_st (R_extract rfl rfl) rfl (J_st (R_extract rfl rfl) rfl (J_st (R_extract rfl rfl) rfl (J_st (R_extract rfl rfl) rfl (J_st (R_assign rfl) rfl (J_st (R_assign rfl) rfl (J_st (R_assign rfl) rfl (J_st (R_assign rfl) rfl (J_done ?_)))))))))
    refine S_seq ?_
    refine S_reg [true, true, true, true, false, true, true, true, true, true] rfl rfl ?_
    refine J_st (R_move rfl) rfl (J_st (R_move rfl) rfl (J_st (R_move rfl) rfl (J_st (R_move rfl) rfl ?_)))
    refine J_call Try.call34 rfl (c_LeastOf v7 dx6 ((dx7 : Nat) : Int) ((dx8 : Nat) : Int) ((dx9 : Nat) : Int) _ (Own.rd (by decide) ho13)) rfl (fun _ w17 e14 hv => ?_)
    subst hv
    replace E := E.trans e14; replace ho2 := ho2.ext e14; replace h1 := h1.ext e14; replace ho4 := ho4.ext e14; replace ho6 := ho6.ext e14; replace ho8 := ho8.ext e14; replace ho10 := ho10.ext e14; replace h2 := h2.ext e14; replace ho11 := ho11.ext e14; replace ho13 := ho13.ext e14
    have z17 := e14.size
    refine J_st (R_move rfl) rfl (J_st (R_extract rfl rfl) rfl (J_st (R_extract rfl rfl) rfl (J_st (R_assign rfl) rfl (J_st (R_assign rfl) rfl (J_done ?_)))))
    refine S_seq ?_
    refine S_reg [true, true, true, true, false, true, true, true, true, true] rfl rfl ?_
    refine J_st (R_move rfl) rfl (J_st (R_move rfl) rfl (J_st (R_move rfl) rfl (J_st (R_move rfl) rfl ?_)))
    refine J_call Try.call35 rfl (s_LeastOf v7 dx6 ((dx7 : Nat) : Int) ((dx8 : Nat) : Int) ((dx9 : Nat) : Int) _ (Own.rd (by decide) ho13)) rfl (fun _ w18 e15 hv => ?_)
    subst hv
    replace E := E.trans e15; replace ho2 := ho2.ext e15; replace h1 := h1.ext e15; replace ho4 := ho4.ext e15; replace ho6 := ho6.ext e15; replace ho8 := ho8.ext e15; replace ho10 := ho10.ext e15; replace h2 := h2.ext e15; replace ho11 := ho11.ext e15; replace ho13 := ho13.ext e15
    have z18 := e15.size
    refine J_st (R_move rfl) rfl (J_st (R_extract rfl rfl) rfl (J_st (R_extract rfl rfl) rfl (J_st (R_assign rfl) rfl (J_st (R_assign rfl) rfl (J_done ?_)))))
    refine S_seq ?_
    refine S_reg [true, false, true, true, true, true, true, true, true] rfl rfl ?_
    refine J_st (R_move rfl) rfl ?_
    refine J_call Try.call36 rfl (s_DrawCellsOf vcode code _ (hcode.ext E)) rfl (fun _ w19 e16 ho14 => ?_)
    obtain ⟨dx10, dx11, dx12, q4, ho14⟩ := ho14
    obtain ⟨v8, rfl, ho15⟩ := ho14
    have g_ho14 : w.heap.size ≤ w18.heap.size := E.size
    replace E := E.trans e16; replace ho2 := ho2.ext e16; replace h1 := h1.ext e16; replace ho4 := ho4.ext e16; replace ho6 := ho6.ext e16; replace ho8 := ho8.ext e16; replace ho10 := ho10.ext e16; replace h2 := h2.ext e16; replace ho11 := ho11.ext e16; replace ho13 := ho13.ext e16
    have z19 := e16.size
    refine J_st (R_move rfl) rfl (J_st (R_extract rfl rfl) rfl (J_st (R_extract rfl rfl) rfl (J_st (R_extract rfl rfl) rfl (J_st (R_assign rfl) rfl (J_st (R_assign rfl) rfl (J_st (R_assign rfl) rfl (J_done ?_)))))))
    refine S_seq ?_
    refine S_reg [true, false, true, true, true, false, false, false, false] rfl rfl ?_
    refine J_st (R_move rfl) rfl ?_
    refine J_call Try.call37 rfl (s_DrawCellOrder vcode code _ (hcode.ext E)) rfl (fun _ w20 e17 ho16 => ?_)
    obtain ⟨dx13, dx14, ho16⟩ := ho16
    subst ho16
    have g_ho16 : w.heap.size ≤ w19.heap.size := E.size
    replace E := E.trans e17; replace ho2 := ho2.ext e17; replace h1 := h1.ext e17; replace ho4 := ho4.ext e17; replace ho6 := ho6.ext e17; replace ho8 := ho8.ext e17; replace ho10 := ho10.ext e17; replace h2 := h2.ext e17; replace ho11 := ho11.ext e17; replace ho13 := ho13.ext e17; replace ho15 := ho15.ext e17
    have z20 := e17.size
    refine J_st (R_move rfl) rfl (J_st (R_extract rfl rfl) rfl (J_st (R_extract rfl rfl) rfl ?_))
    refine J_alloc st47 rfl (fun b3 w21 e18 s3 h3 => ?_)
    have g_b3 : w.heap.size ≤ b3 := by have := E.size; omega
    have y_b3 := h3.lt
    replace E := E.trans e18; replace ho2 := ho2.ext e18; replace h1 := h1.ext e18; replace ho4 := ho4.ext e18; replace ho6 := ho6.ext e18; replace ho8 := ho8.ext e18; replace ho10 := ho10.ext e18; replace h2 := h2.ext e18; replace ho11 := ho11.ext e18; replace ho13 := ho13.ext e18; replace ho15 := ho15.ext e18
    have z21 := e18.size
    refine J_alloc st47 rfl (fun b4 w22 e19 s4 h4 => ?_)
    have g_b4 : w.heap.size ≤ b4 := by have := E.size; omega
    have y_b4 := h4.lt
    replace E := E.trans e19; replace ho2 := ho2.ext e19; replace h1 := h1.ext e19; replace ho4 := ho4.ext e19; replace ho6 := ho6.ext e19; replace ho8 := ho8.ext e19; replace ho10 := ho10.ext e19; replace h2 := h2.ext e19; replace ho11 := ho11.ext e19; replace ho13 := ho13.ext e19; replace ho15 := ho15.ext e19; replace h3 := h3.ext e19
    have z22 := e19.size
    refine J_storeS' (cs' := [.int .i64 dx13.op, .int .i64 dx13.epoch, .int .i64 dx13.key, .int .i64 dx13.val]) st47 rfl rfl rfl rfl h3 (Nat.le_of_ble_eq_true rfl) rfl (fun w23 m3 h3' => ?_)
    replace h3 := h3'
    replace E := E.step m3 (fun g hg => by cases hg; omega); replace ho2 := ho2.mod m3 (fun g hg => by cases hg; omega); replace h1 := h1.mod m3 (fun g hg => by cases hg; omega); replace ho4 := ho4.mod m3 (fun g hg => by cases hg; omega); replace ho6 := ho6.mod m3 (fun g hg => by cases hg; omega); replace ho8 := ho8.mod m3 (fun g hg => by cases hg; omega); replace ho10 := ho10.mod m3 (fun g hg => by cases hg; omega); replace h2 := h2.mod m3 (fun g hg => by cases hg; omega); replace ho11 := ho11.mod m3 (fun g hg => by cases hg; omega); replace ho13 := ho13.mod m3 (fun g hg => by cases hg; omega); replace ho15 := ho15.mod m3 (fun g hg => by cases hg; omega); replace h4 := h4.mod m3 (fun g hg => by cases hg; omega)
    have z23 := m3.size
    refine J_storeS' (cs' := [.int .i64 dx14.op, .int .i64 dx14.epoch, .int .i64 dx14.key, .int .i64 dx14.val]) st47 rfl rfl rfl rfl h4 (Nat.le_of_ble_eq_true rfl) rfl (fun w24 m4 h4' => ?_)
    replace h4 := h4'
    replace E := E.step m4 (fun g hg => by cases hg; omega); replace ho2 := ho2.mod m4 (fun g hg => by cases hg; omega); replace h1 := h1.mod m4 (fun g hg => by cases hg; omega); replace ho4 := ho4.mod m4 (fun g hg => by cases hg; omega); replace ho6 := ho6.mod m4 (fun g hg => by cases hg; omega); replace ho8 := ho8.mod m4 (fun g hg => by cases hg; omega); replace ho10 := ho10.mod m4 (fun g hg => by cases hg; omega); replace h2 := h2.mod m4 (fun g hg => by cases hg; omega); replace ho11 := ho11.mod m4 (fun g hg => by cases hg; omega); replace ho13 := ho13.mod m4 (fun g hg => by cases hg; omega); replace ho15 := ho15.mod m4 (fun g hg => by cases hg; omega); replace h3 := h3.mod m4 (fun g hg => by cases hg; omega)
    have z24 := m4.size
    refine J_done ?_
    refine S_seq ?_
    refine S_seq ?_
    refine S_regD mixed [(0, true), (1, true), (2, true), (3, true), (4, true), (5, true), (6, true), (7, true), (8, true), (9, true), (10, true), (11, true), (12, false), (13, false), (14, true), (15, true), (16, true), (17, true), (18, true), (19, false), (20, true), (21, true), (22, true), (23, true), (24, true), (25, true), (27, true), (28, true), (29, true), (26, false), (30, false), (31, false), (32, true), (33, true), (34, true), (35, true), (36, true), (38, true), (39, true), (37, false), (40, false), (41, true), (42, true)] (by decide +kernel) rfl (fun w25 e20 => ?_)
    replace E := E.trans e20; replace ho2 := ho2.ext e20; replace h1 := h1.ext e20; replace ho4 := ho4.ext e20; replace ho6 := ho6.ext e20; replace ho8 := ho8.ext e20; replace ho10 := ho10.ext e20; replace h2 := h2.ext e20; replace ho11 := ho11.ext e20; replace ho13 := ho13.ext e20; replace ho15 := ho15.ext e20; replace h3 := h3.ext e20; replace h4 := h4.ext e20
    have z25 := e20.size
    refine J_st (R_move rfl) rfl (J_st (R_move rfl) rfl (J_st (R_neq rfl rfl) rfl (J_st (R_move rfl) rfl ?_)))
    refine J_cut 39 [(0, vcode), (2, .bool false), (3, .int .i64 dx1), (4, v1), (5, .pointer (some ⟨b1, 0, none⟩)), (6, v2), (7, .bool ((recallM dx1 dx2 dx3).2)), (8, v3), (9, .bool ((recallM dx1 dx2 dx3).2)), (10, v4), (11, .bool ((recallM dx1 ((recallM dx1 dx2 dx3).1) dx3).2)), (12, v5), (13, .pointer (some ⟨b2, 0, none⟩)), (14, v6), (15, v7), (16, .int .i64 ((dx7 : Nat) : Int)), (17, .int .i64 ((dx8 : Nat) : Int)), (18, .int .i64 ((dx9 : Nat) : Int)), (19, .int .i64 ((leastM dx6 ((dx7 : Nat) : Int) ((dx8 : Nat) : Int) ((dx9 : Nat) : Int)).1)), (20, .bool ((leastM dx6 ((dx7 : Nat) : Int) ((dx8 : Nat) : Int) ((dx9 : Nat) : Int)).2)), (21, .int .i64 ((leastM dx6 ((dx7 : Nat) : Int) ((dx8 : Nat) : Int) ((dx9 : Nat) : Int)).1)), (22, .bool ((leastM dx6 ((dx7 : Nat) : Int) ((dx8 : Nat) : Int) ((dx9 : Nat) : Int)).2)), (23, v8), (24, .int .i64 dx11), (25, .int .i64 dx12), (26, .pointer (some ⟨b3, 0, none⟩)), (27, .pointer (some ⟨b4, 0, none⟩)), (31, vcode), (32, .bool (decide (((code.length : Nat) : Int) > 1048576))), (33, .tuple [.int .i64 dx1, v1, .agg (Enc.enc dx3).toArray].toArray), (34, vcode), (35, .tuple [.int .i64 dx1, v1, .agg (Enc.enc dx3).toArray].toArray), (36, .int .i64 dx1), (37, v1), (38, .agg (Enc.enc dx3).toArray), (39, .tuple [v2, .bool ((recallM dx1 dx2 dx3).2)].toArray), (40, .int .i64 dx1), (41, v1), (42, .agg (Enc.enc dx3).toArray), (43, .tuple [v2, .bool ((recallM dx1 dx2 dx3).2)].toArray), (44, v2), (45, .bool ((recallM dx1 dx2 dx3).2)), (46, .tuple [v3, .bool ((recallM dx1 dx2 dx3).2)].toArray), (47, .int .i64 dx1), (48, v1), (49, .agg (Enc.enc dx3).toArray), (50, .tuple [v3, .bool ((recallM dx1 dx2 dx3).2)].toArray), (51, v3), (52, .bool ((recallM dx1 dx2 dx3).2)), (68, .bool (((!(((recallM dx1 dx2 dx3).2) == ((recallM dx1 dx2 dx3).2))) || (!(decide (((recallM dx1 dx2 dx3).1) = ((recallM dx1 dx2 dx3).1))))) || (!(((adj dx2).all cellLt) == ((adj dx2).all cellLt))))), (69, .tuple [v4, .bool ((recallM dx1 ((recallM dx1 dx2 dx3).1) dx3).2)].toArray), (70, .int .i64 dx1), (71, v2), (72, .agg (Enc.enc dx3).toArray), (73, .tuple [v4, .bool ((recallM dx1 ((recallM dx1 dx2 dx3).1) dx3).2)].toArray), (74, v4), (75, .bool ((recallM dx1 ((recallM dx1 dx2 dx3).1) dx3).2)), (76, .tuple [v5, .agg (Enc.enc dx5).toArray].toArray), (77, vcode), (78, .tuple [v5, .agg (Enc.enc dx5).toArray].toArray), (79, v5), (80, .agg (Enc.enc dx5).toArray), (81, v5), (82, .agg (Enc.enc dx5).toArray), (83, v6), (84, .tuple [v7, .int .i64 ((dx7 : Nat) : Int), .int .i64 ((dx8 : Nat) : Int), .int .i64 ((dx9 : Nat) : Int)].toArray), (85, vcode), (86, .tuple [v7, .int .i64 ((dx7 : Nat) : Int), .int .i64 ((dx8 : Nat) : Int), .int .i64 ((dx9 : Nat) : Int)].toArray), (87, v7), (88, .int .i64 ((dx7 : Nat) : Int)), (89, .int .i64 ((dx8 : Nat) : Int)), (90, .int .i64 ((dx9 : Nat) : Int)), (91, .tuple [.int .i64 ((leastM dx6 ((dx7 : Nat) : Int) ((dx8 : Nat) : Int) ((dx9 : Nat) : Int)).1), .bool ((leastM dx6 ((dx7 : Nat) : Int) ((dx8 : Nat) : Int) ((dx9 : Nat) : Int)).2)].toArray), (92, v7), (93, .int .i64 ((dx7 : Nat) : Int)), (94, .int .i64 ((dx8 : Nat) : Int)), (95, .int .i64 ((dx9 : Nat) : Int)), (96, .tuple [.int .i64 ((leastM dx6 ((dx7 : Nat) : Int) ((dx8 : Nat) : Int) ((dx9 : Nat) : Int)).1), .bool ((leastM dx6 ((dx7 : Nat) : Int) ((dx8 : Nat) : Int) ((dx9 : Nat) : Int)).2)].toArray), (97, .int .i64 ((leastM dx6 ((dx7 : Nat) : Int) ((dx8 : Nat) : Int) ((dx9 : Nat) : Int)).1)), (98, .bool ((leastM dx6 ((dx7 : Nat) : Int) ((dx8 : Nat) : Int) ((dx9 : Nat) : Int)).2)), (99, .tuple [.int .i64 ((leastM dx6 ((dx7 : Nat) : Int) ((dx8 : Nat) : Int) ((dx9 : Nat) : Int)).1), .bool ((leastM dx6 ((dx7 : Nat) : Int) ((dx8 : Nat) : Int) ((dx9 : Nat) : Int)).2)].toArray), (100, v7), (101, .int .i64 ((dx7 : Nat) : Int)), (102, .int .i64 ((dx8 : Nat) : Int)), (103, .int .i64 ((dx9 : Nat) : Int)), (104, .tuple [.int .i64 ((leastM dx6 ((dx7 : Nat) : Int) ((dx8 : Nat) : Int) ((dx9 : Nat) : Int)).1), .bool ((leastM dx6 ((dx7 : Nat) : Int) ((dx8 : Nat) : Int) ((dx9 : Nat) : Int)).2)].toArray), (105, .int .i64 ((leastM dx6 ((dx7 : Nat) : Int) ((dx8 : Nat) : Int) ((dx9 : Nat) : Int)).1)), (106, .bool ((leastM dx6 ((dx7 : Nat) : Int) ((dx8 : Nat) : Int) ((dx9 : Nat) : Int)).2)), (107, .tuple [v8, .int .i64 dx11, .int .i64 dx12].toArray), (108, vcode), (109, .tuple [v8, .int .i64 dx11, .int .i64 dx12].toArray), (110, v8), (111, .int .i64 dx11), (112, .int .i64 dx12), (113, .tuple [.agg (Enc.enc dx13).toArray, .agg (Enc.enc dx14).toArray].toArray), (114, vcode), (115, .tuple [.agg (Enc.enc dx13).toArray, .agg (Enc.enc dx14).toArray].toArray), (116, .agg (Enc.enc dx13).toArray), (117, .agg (Enc.enc dx14).toArray), (160, .bool ((((((((leastM dx6 ((dx7 : Nat) : Int) ((dx8 : Nat) : Int) ((dx9 : Nat) : Int)).1) != ((leastM dx6 ((dx7 : Nat) : Int) ((dx8 : Nat) : Int) ((dx9 : Nat) : Int)).1)) || (!(((leastM dx6 ((dx7 : Nat) : Int) ((dx8 : Nat) : Int) ((dx9 : Nat) : Int)).2) == ((leastM dx6 ((dx7 : Nat) : Int) ((dx8 : Nat) : Int) ((dx9 : Nat) : Int)).2)))) || (!(decide ((putM dx4 dx5) = (putM dx4 dx5))))) || (!(decide (dx5 ∈ (putM dx4 dx5))))) || (!(decide ((dx10.filter (isOf dx11 dx12)) = (dx10.filter (isOf dx11 dx12)))))) || ((cellOrd dx13 dx14) != (cellOrd dx13 dx14))))] (fun w' => Ext w w' ∧ w25.heap.size ≤ w'.heap.size ∧ Own w' w1.heap.size w2.heap.size 4 v1 (List.flatMap (Enc.enc (α := Cell)) dx2) ∧ Blk w' b1 [.int .i64 dx3.op, .int .i64 dx3.epoch, .int .i64 dx3.key, .int .i64 dx3.val] ∧ Own w' w4.heap.size w5.heap.size 4 v2 (List.flatMap (Enc.enc (α := Cell)) ((recallM dx1 dx2 dx3).1)) ∧ Own w' w5.heap.size w6.heap.size 4 v3 (List.flatMap (Enc.enc (α := Cell)) ((recallM dx1 dx2 dx3).1)) ∧ Own w' w7.heap.size w11.heap.size 4 v4 (List.flatMap (Enc.enc (α := Cell)) ((recallM dx1 ((recallM dx1 dx2 dx3).1) dx3).1)) ∧ Own w' w11.heap.size w12.heap.size 4 v5 (List.flatMap (Enc.enc (α := Cell)) dx4) ∧ Blk w' b2 [.int .i64 dx5.op, .int .i64 dx5.epoch, .int .i64 dx5.key, .int .i64 dx5.val] ∧ Own w' w14.heap.size w15.heap.size 4 v6 (List.flatMap (Enc.enc (α := Cell)) (putM dx4 dx5)) ∧ Own w' w15.heap.size w16.heap.size 4 v7 (List.flatMap (Enc.enc (α := Cell)) dx6) ∧ Own w' w18.heap.size w19.heap.size 4 v8 (List.flatMap (Enc.enc (α := Cell)) dx10) ∧ Blk w' b3 [.int .i64 dx13.op, .int .i64 dx13.epoch, .int .i64 dx13.key, .int .i64 dx13.val] ∧ Blk w' b4 [.int .i64 dx14.op, .int .i64 dx14.epoch, .int .i64 dx14.key, .int .i64 dx14.val]) ?_ ?_
    · refine J_if (gd := 121) rfl rfl (fun hg3 => ?_) (fun hg3 => ?_)
      · exact absurd hg3 (by first | (simp; done) | (simp only [nat_nlt] <;> simp) | (simp only [mkL_length, nat_nlt] <;> simp) | (simp only [mkL_length] <;> simp))
      · refine J_gd rfl rfl (R_move rfl) rfl (J_gd rfl rfl (R_move rfl) rfl (J_gd rfl rfl (R_neqB (Try.underlying4) rfl rfl) rfl (J_st (R_pickF rfl rfl) rfl (J_st (R_move rfl) rfl ?_))))
        refine J_if (gd := 126) rfl rfl (fun hg4 => ?_) (fun hg4 => ?_)
        · exact absurd hg4 (by first | (simp; done) | (simp only [nat_nlt] <;> simp) | (simp only [mkL_length, nat_nlt] <;> simp) | (simp only [mkL_length] <;> simp))
        · refine J_gd rfl rfl (R_move rfl) rfl (J_gd rfl rfl (R_move rfl) rfl (J_gd rfl rfl (R_loadS st47 rfl h2.at rfl) rfl ?_))
          refine J_ung rfl rfl ?_
          refine J_call Try.call38 rfl (s_PutCell v5 dx4 dx5 _ (Own.rd (by decide) ho10) (by first | omega | (simp only [mkL_length]; omega) | (rw [mkL_length]; done) | (simp only [mkL_length]; done))) rfl (fun v9 w27 e21 ho17 => ?_)
          have g_ho17 : w.heap.size ≤ w25.heap.size := E.size
          replace E := E.trans e21; replace ho2 := ho2.ext e21; replace h1 := h1.ext e21; replace ho4 := ho4.ext e21; replace ho6 := ho6.ext e21; replace ho8 := ho8.ext e21; replace ho10 := ho10.ext e21; replace h2 := h2.ext e21; replace ho11 := ho11.ext e21; replace ho13 := ho13.ext e21; replace ho15 := ho15.ext e21; replace h3 := h3.ext e21; replace h4 := h4.ext e21
          have z26 := e21.size
          refine J_ung rfl rfl ?_
          refine J_call Try.call28 rfl (l_sameCells v6 (putM dx4 dx5) v9 (putM dx4 dx5) _ (Own.rd (by decide) ho11) (Own.rd (by decide) ho17)) rfl (fun _ w28 e22 hv => ?_)
          subst hv
          replace E := E.trans e22; replace ho2 := ho2.ext e22; replace h1 := h1.ext e22; replace ho4 := ho4.ext e22; replace ho6 := ho6.ext e22; replace ho8 := ho8.ext e22; replace ho10 := ho10.ext e22; replace h2 := h2.ext e22; replace ho11 := ho11.ext e22; replace ho13 := ho13.ext e22; replace ho15 := ho15.ext e22; replace h3 := h3.ext e22; replace h4 := h4.ext e22; replace ho17 := ho17.ext e22
          have z27 := e22.size
          refine J_gd rfl rfl (R_not rfl) rfl (J_st (R_pickF rfl rfl) rfl (J_st (R_move rfl) rfl ?_))
          refine J_if (gd := 134) rfl rfl (fun hg5 => ?_) (fun hg5 => ?_)
          · exact absurd hg5 (by first | (simp; done) | (simp only [nat_nlt] <;> simp) | (simp only [mkL_length, nat_nlt] <;> simp) | (simp only [mkL_length] <;> simp))
          · refine J_gd rfl rfl (R_move rfl) rfl (J_gd rfl rfl (R_loadS st47 rfl h2.at rfl) rfl ?_)
            refine J_ung rfl rfl ?_
            refine J_call Try.call39 rfl (c_HasCell v6 (putM dx4 dx5) dx5 _ (Own.rd (by decide) ho11)) rfl (fun _ w29 e23 hv => ?_)
            subst hv
            replace E := E.trans e23; replace ho2 := ho2.ext e23; replace h1 := h1.ext e23; replace ho4 := ho4.ext e23; replace ho6 := ho6.ext e23; replace ho8 := ho8.ext e23; replace ho10 := ho10.ext e23; replace h2 := h2.ext e23; replace ho11 := ho11.ext e23; replace ho13 := ho13.ext e23; replace ho15 := ho15.ext e23; replace h3 := h3.ext e23; replace h4 := h4.ext e23; replace ho17 := ho17.ext e23
            have z28 := e23.size
            refine J_gd rfl rfl (R_not rfl) rfl (J_st (R_pickF rfl rfl) rfl (J_st (R_move rfl) rfl ?_))
            refine J_if (gd := 140) rfl rfl (fun hg6 => ?_) (fun hg6 => ?_)
            · refine J_gdno rfl rfl rfl rfl (J_gdno rfl rfl rfl rfl (J_gdno rfl rfl rfl rfl (J_gdno rfl rfl rfl rfl (J_gdno rfl rfl rfl rfl (J_gdno rfl rfl rfl rfl ?_)))))
              refine J_ungno rfl rfl rfl rfl ?_
              refine J_ungno rfl rfl rfl rfl ?_
              refine J_ungno rfl rfl rfl rfl ?_
              refine J_gdno rfl rfl rfl rfl (J_st (R_pickT rfl rfl) rfl (J_st (R_move rfl) rfl (J_gdno rfl rfl rfl rfl (J_gdno rfl rfl rfl rfl (J_gdno rfl rfl rfl rfl (J_gdno rfl rfl rfl rfl ?_))))))
              refine J_ungno rfl rfl rfl rfl ?_
              refine J_ungno rfl rfl rfl rfl ?_
              refine J_gdno rfl rfl rfl rfl (J_st (R_pickT rfl rfl) rfl (J_cutEnd ⟨rfl, rfl, rfl, rfl, rfl, rfl, rfl, rfl, rfl, rfl, rfl, rfl, rfl, rfl, rfl, rfl, rfl, rfl, rfl, rfl, rfl, rfl, rfl, rfl, rfl, rfl, rfl, rfl, rfl, rfl, rfl, rfl, rfl, rfl, rfl, rfl, rfl, rfl, rfl, rfl, rfl, rfl, rfl, rfl, rfl, rfl, rfl, rfl, rfl, rfl, rfl, rfl, rfl, rfl, rfl, rfl, rfl, rfl, rfl, rfl, rfl, rfl, rfl, rfl, rfl, rfl, rfl, rfl, rfl, rfl, rfl, rfl, rfl, rfl, rfl, rfl, rfl, rfl, rfl, rfl, rfl, rfl, rfl, rfl, rfl, rfl, rfl, rfl, rfl, rfl, rfl, rfl, rfl, rfl, rfl, rfl, rfl, rfl, rfl, congrArg (fun b => some (Value.bool b)) (show true = ((((((((leastM dx6 ((dx7 : Nat) : Int) ((dx8 : Nat) : Int) ((dx9 : Nat) : Int)).1) != ((leastM dx6 ((dx7 : Nat) : Int) ((dx8 : Nat) : Int) ((dx9 : Nat) : Int)).1)) || (!(((leastM dx6 ((dx7 : Nat) : Int) ((dx8 : Nat) : Int) ((dx9 : Nat) : Int)).2) == ((leastM dx6 ((dx7 : Nat) : Int) ((dx8 : Nat) : Int) ((dx9 : Nat) : Int)).2)))) || (!(decide ((putM dx4 dx5) = (putM dx4 dx5))))) || (!(decide (dx5 ∈ (putM dx4 dx5))))) || (!(decide ((dx10.filter (isOf dx11 dx12)) = (dx10.filter (isOf dx11 dx12)))))) || ((cellOrd dx13 dx14) != (cellOrd dx13 dx14))) by first | (rw [hg3, hg4, hg5, hg6] <;> rfl) | (simp [hg3, hg4, hg5, hg6]; done) | (simp only [nat_nlt] <;> simp)), trivial⟩ ⟨E, (by omega), ho2, h1, ho4, ho6, ho8, ho10, h2, ho11, ho13, ho15, h3, h4⟩))
            · refine J_gd rfl rfl (R_move rfl) rfl (J_gd rfl rfl (R_move rfl) rfl (J_gd rfl rfl (R_move rfl) rfl (J_gd rfl rfl (R_move rfl) rfl (J_gd rfl rfl (R_move rfl) rfl (J_gd rfl rfl (R_move rfl) rfl ?_)))))
              refine J_ung rfl rfl ?_
              refine J_call Try.call40 rfl (c_CellsOf v8 dx10 dx11 dx12 _ (Own.rd (by decide) ho15) (by first | omega | (simp only [mkL_length]; omega) | (rw [mkL_length]; done) | (simp only [mkL_length]; done))) rfl (fun v10 w30 e24 ho18 => ?_)
              have g_ho18 : w.heap.size ≤ w29.heap.size := E.size
              replace E := E.trans e24; replace ho2 := ho2.ext e24; replace h1 := h1.ext e24; replace ho4 := ho4.ext e24; replace ho6 := ho6.ext e24; replace ho8 := ho8.ext e24; replace ho10 := ho10.ext e24; replace h2 := h2.ext e24; replace ho11 := ho11.ext e24; replace ho13 := ho13.ext e24; replace ho15 := ho15.ext e24; replace h3 := h3.ext e24; replace h4 := h4.ext e24; replace ho17 := ho17.ext e24
              have z29 := e24.size
              refine J_ung rfl rfl ?_
              refine J_call Try.call41 rfl (s_CellsOf v8 dx10 dx11 dx12 _ (Own.rd (by decide) ho15) (by first | omega | (simp only [mkL_length]; omega) | (rw [mkL_length]; done) | (simp only [mkL_length]; done))) rfl (fun v11 w31 e25 ho19 => ?_)
              have g_ho19 : w.heap.size ≤ w30.heap.size := E.size
              replace E := E.trans e25; replace ho2 := ho2.ext e25; replace h1 := h1.ext e25; replace ho4 := ho4.ext e25; replace ho6 := ho6.ext e25; replace ho8 := ho8.ext e25; replace ho10 := ho10.ext e25; replace h2 := h2.ext e25; replace ho11 := ho11.ext e25; replace ho13 := ho13.ext e25; replace ho15 := ho15.ext e25; replace h3 := h3.ext e25; replace h4 := h4.ext e25; replace ho17 := ho17.ext e25; replace ho18 := ho18.ext e25
              have z30 := e25.size
              refine J_ung rfl rfl ?_
              refine J_call Try.call28 rfl (l_sameCells v10 (dx10.filter (isOf dx11 dx12)) v11 (dx10.filter (isOf dx11 dx12)) _ (Own.rd (by decide) ho18) (Own.rd (by decide) ho19)) rfl (fun _ w32 e26 hv => ?_)
              subst hv
              replace E := E.trans e26; replace ho2 := ho2.ext e26; replace h1 := h1.ext e26; replace ho4 := ho4.ext e26; replace ho6 := ho6.ext e26; replace ho8 := ho8.ext e26; replace ho10 := ho10.ext e26; replace h2 := h2.ext e26; replace ho11 := ho11.ext e26; replace ho13 := ho13.ext e26; replace ho15 := ho15.ext e26; replace h3 := h3.ext e26; replace h4 := h4.ext e26; replace ho17 := ho17.ext e26; replace ho18 := ho18.ext e26; replace ho19 := ho19.ext e26
              have z31 := e26.size
              refine J_gd rfl rfl (R_not rfl) rfl (J_st (R_pickF rfl rfl) rfl (J_st (R_move rfl) rfl ?_))
              refine J_if (gd := 152) rfl rfl (fun hg7 => ?_) (fun hg7 => ?_)
              · exact absurd hg7 (by first | (simp; done) | (simp only [nat_nlt] <;> simp) | (simp only [mkL_length, nat_nlt] <;> simp) | (simp only [mkL_length] <;> simp))
              · refine J_gd rfl rfl (R_loadS st47 rfl h3.at rfl) rfl (J_gd rfl rfl (R_loadS st47 rfl h4.at rfl) rfl (J_gd rfl rfl (R_loadS st47 rfl h3.at rfl) rfl (J_gd rfl rfl (R_loadS st47 rfl h4.at rfl) rfl ?_)))
                refine J_ung rfl rfl ?_
                refine J_call Try.call42 rfl (c_CellOrder dx13 dx14 _ ) rfl (fun _ w33 e27 hv => ?_)
                subst hv
                replace E := E.trans e27; replace ho2 := ho2.ext e27; replace h1 := h1.ext e27; replace ho4 := ho4.ext e27; replace ho6 := ho6.ext e27; replace ho8 := ho8.ext e27; replace ho10 := ho10.ext e27; replace h2 := h2.ext e27; replace ho11 := ho11.ext e27; replace ho13 := ho13.ext e27; replace ho15 := ho15.ext e27; replace h3 := h3.ext e27; replace h4 := h4.ext e27; replace ho17 := ho17.ext e27; replace ho18 := ho18.ext e27; replace ho19 := ho19.ext e27
                have z32 := e27.size
                refine J_ung rfl rfl ?_
                refine J_call Try.call43 rfl (s_CellOrder dx13 dx14 _ ) rfl (fun _ w34 e28 hv => ?_)
                subst hv
                replace E := E.trans e28; replace ho2 := ho2.ext e28; replace h1 := h1.ext e28; replace ho4 := ho4.ext e28; replace ho6 := ho6.ext e28; replace ho8 := ho8.ext e28; replace ho10 := ho10.ext e28; replace h2 := h2.ext e28; replace ho11 := ho11.ext e28; replace ho13 := ho13.ext e28; replace ho15 := ho15.ext e28; replace h3 := h3.ext e28; replace h4 := h4.ext e28; replace ho17 := ho17.ext e28; replace ho18 := ho18.ext e28; replace ho19 := ho19.ext e28
                have z33 := e28.size
                refine J_gd rfl rfl (R_neq rfl rfl) rfl (J_st (R_pickF rfl rfl) rfl (J_cutEnd ⟨rfl, rfl, rfl, rfl, rfl, rfl, rfl, rfl, rfl, rfl, rfl, rfl, rfl, rfl, rfl, rfl, rfl, rfl, rfl, rfl, rfl, rfl, rfl, rfl, rfl, rfl, rfl, rfl, rfl, rfl, rfl, rfl, rfl, rfl, rfl, rfl, rfl, rfl, rfl, rfl, rfl, rfl, rfl, rfl, rfl, rfl, rfl, rfl, rfl, rfl, rfl, rfl, rfl, rfl, rfl, rfl, rfl, rfl, rfl, rfl, rfl, rfl, rfl, rfl, rfl, rfl, rfl, rfl, rfl, rfl, rfl, rfl, rfl, rfl, rfl, rfl, rfl, rfl, rfl, rfl, rfl, rfl, rfl, rfl, rfl, rfl, rfl, rfl, rfl, rfl, rfl, rfl, rfl, rfl, rfl, rfl, rfl, rfl, rfl, congrArg (fun b => some (Value.bool b)) (show ((cellOrd dx13 dx14) != (cellOrd dx13 dx14)) = ((((((((leastM dx6 ((dx7 : Nat) : Int) ((dx8 : Nat) : Int) ((dx9 : Nat) : Int)).1) != ((leastM dx6 ((dx7 : Nat) : Int) ((dx8 : Nat) : Int) ((dx9 : Nat) : Int)).1)) || (!(((leastM dx6 ((dx7 : Nat) : Int) ((dx8 : Nat) : Int) ((dx9 : Nat) : Int)).2) == ((leastM dx6 ((dx7 : Nat) : Int) ((dx8 : Nat) : Int) ((dx9 : Nat) : Int)).2)))) || (!(decide ((putM dx4 dx5) = (putM dx4 dx5))))) || (!(decide (dx5 ∈ (putM dx4 dx5))))) || (!(decide ((dx10.filter (isOf dx11 dx12)) = (dx10.filter (isOf dx11 dx12)))))) || ((cellOrd dx13 dx14) != (cellOrd dx13 dx14))) by first | (rw [hg3, hg4, hg5, hg6, hg7] <;> rfl) | (simp [hg3, hg4, hg5, hg6, hg7]; done) | (simp only [nat_nlt] <;> simp)), trivial⟩ ⟨E, (by omega), ho2, h1, ho4, ho6, ho8, ho10, h2, ho11, ho13, ho15, h3, h4⟩))
    clear E ho2 h1 ho4 ho6 ho8 ho10 h2 ho11 ho13 ho15 h3 h4
    rintro w26 ⟨E, z34, ho2, h1, ho4, ho6, ho8, ho10, h2, ho11, ho13, ho15, h3, h4⟩
    refine J_done ?_
    refine S_condFe rfl (by simp [putM_mem]) ?_
    refine S_skip ?_
    refine S_seq ?_
    refine S_reg [true, false, true] rfl rfl ?_
    refine J_st (R_move rfl) rfl ?_
    refine J_call Try.call44 rfl (s_Remembers dx1 _ ) rfl (fun _ w35 e29 hv => ?_)
    subst hv
    replace E := E.trans e29; replace ho2 := ho2.ext e29; replace h1 := h1.ext e29; replace ho4 := ho4.ext e29; replace ho6 := ho6.ext e29; replace ho8 := ho8.ext e29; replace ho10 := ho10.ext e29; replace h2 := h2.ext e29; replace ho11 := ho11.ext e29; replace ho13 := ho13.ext e29; replace ho15 := ho15.ext e29; replace h3 := h3.ext e29; replace h4 := h4.ext e29
    have z35 := e29.size
    refine J_st (R_assign rfl) rfl (J_done ?_)
    refine S_seq ?_
    refine S_reg [true, true, true, true, true, true, true, false, true, true, true, true, true] rfl rfl ?_
    refine J_st (R_move rfl) rfl (J_st (R_fieldAddr0 fl47_0 rfl) rfl (J_st (R_load sc3 rfl (h1.one 0 rfl)) rfl (J_st (R_fieldAddr0 fl47_1 rfl) rfl (J_st (R_load sc3 rfl (h1.one 1 rfl)) rfl (J_st (R_fieldAddr0 fl47_2 rfl) rfl (J_st (R_load sc3 rfl (h1.one 2 rfl)) rfl ?_))))))
    refine J_call Try.call34 rfl (c_LeastOf v2 ((recallM dx1 dx2 dx3).1) dx3.op dx3.epoch dx3.key _ (Own.rd (by decide) ho4)) rfl (fun _ w36 e30 hv => ?_)
    subst hv
    replace E := E.trans e30; replace ho2 := ho2.ext e30; replace h1 := h1.ext e30; replace ho4 := ho4.ext e30; replace ho6 := ho6.ext e30; replace ho8 := ho8.ext e30; replace ho10 := ho10.ext e30; replace h2 := h2.ext e30; replace ho11 := ho11.ext e30; replace ho13 := ho13.ext e30; replace ho15 := ho15.ext e30; replace h3 := h3.ext e30; replace h4 := h4.ext e30
    have z36 := e30.size
    refine J_st (R_move rfl) rfl (J_st (R_extract rfl rfl) rfl (J_st (R_extract rfl rfl) rfl (J_st (R_assign rfl) rfl (J_st (R_assign rfl) rfl (J_done ?_)))))
    refine S_seq ?_
    refine S_reg [true, true, true, true, true, true, true, true, false, true, true, true, true, true, true, true, true, true, true, true, true, true, true, true, true, true, true, true, true, true, false, true, true, true, false, true, true, true, true, false, true, true, true, true] rfl rfl ?_
    refine J_st (R_move rfl) rfl (J_st (R_not rfl) rfl (J_st (R_move rfl) rfl ?_))
    refine J_cut 40 [(0, vcode), (2, .bool false), (3, .int .i64 dx1), (4, v1), (5, .pointer (some ⟨b1, 0, none⟩)), (6, v2), (7, .bool ((recallM dx1 dx2 dx3).2)), (8, v3), (9, .bool ((recallM dx1 dx2 dx3).2)), (10, v4), (11, .bool ((recallM dx1 ((recallM dx1 dx2 dx3).1) dx3).2)), (12, v5), (13, .pointer (some ⟨b2, 0, none⟩)), (14, v6), (15, v7), (16, .int .i64 ((dx7 : Nat) : Int)), (17, .int .i64 ((dx8 : Nat) : Int)), (18, .int .i64 ((dx9 : Nat) : Int)), (19, .int .i64 ((leastM dx6 ((dx7 : Nat) : Int) ((dx8 : Nat) : Int) ((dx9 : Nat) : Int)).1)), (20, .bool ((leastM dx6 ((dx7 : Nat) : Int) ((dx8 : Nat) : Int) ((dx9 : Nat) : Int)).2)), (21, .int .i64 ((leastM dx6 ((dx7 : Nat) : Int) ((dx8 : Nat) : Int) ((dx9 : Nat) : Int)).1)), (22, .bool ((leastM dx6 ((dx7 : Nat) : Int) ((dx8 : Nat) : Int) ((dx9 : Nat) : Int)).2)), (23, v8), (24, .int .i64 dx11), (25, .int .i64 dx12), (26, .pointer (some ⟨b3, 0, none⟩)), (27, .pointer (some ⟨b4, 0, none⟩)), (28, .bool (((dx1 == 5) || (dx1 == 6)) || (dx1 == 8))), (29, .int .i64 ((leastM ((recallM dx1 dx2 dx3).1) dx3.op dx3.epoch dx3.key).1)), (30, .bool ((leastM ((recallM dx1 dx2 dx3).1) dx3.op dx3.epoch dx3.key).2)), (31, vcode), (32, .bool (decide (((code.length : Nat) : Int) > 1048576))), (33, .tuple [.int .i64 dx1, v1, .agg (Enc.enc dx3).toArray].toArray), (34, vcode), (35, .tuple [.int .i64 dx1, v1, .agg (Enc.enc dx3).toArray].toArray), (36, .int .i64 dx1), (37, v1), (38, .agg (Enc.enc dx3).toArray), (39, .tuple [v2, .bool ((recallM dx1 dx2 dx3).2)].toArray), (40, .int .i64 dx1), (41, v1), (42, .agg (Enc.enc dx3).toArray), (43, .tuple [v2, .bool ((recallM dx1 dx2 dx3).2)].toArray), (44, v2), (45, .bool ((recallM dx1 dx2 dx3).2)), (46, .tuple [v3, .bool ((recallM dx1 dx2 dx3).2)].toArray), (47, .int .i64 dx1), (48, v1), (49, .agg (Enc.enc dx3).toArray), (50, .tuple [v3, .bool ((recallM dx1 dx2 dx3).2)].toArray), (51, v3), (52, .bool ((recallM dx1 dx2 dx3).2)), (68, .bool (((!(((recallM dx1 dx2 dx3).2) == ((recallM dx1 dx2 dx3).2))) || (!(decide (((recallM dx1 dx2 dx3).1) = ((recallM dx1 dx2 dx3).1))))) || (!(((adj dx2).all cellLt) == ((adj dx2).all cellLt))))), (69, .tuple [v4, .bool ((recallM dx1 ((recallM dx1 dx2 dx3).1) dx3).2)].toArray), (70, .int .i64 dx1), (71, v2), (72, .agg (Enc.enc dx3).toArray), (73, .tuple [v4, .bool ((recallM dx1 ((recallM dx1 dx2 dx3).1) dx3).2)].toArray), (74, v4), (75, .bool ((recallM dx1 ((recallM dx1 dx2 dx3).1) dx3).2)), (76, .tuple [v5, .agg (Enc.enc dx5).toArray].toArray), (77, vcode), (78, .tuple [v5, .agg (Enc.enc dx5).toArray].toArray), (79, v5), (80, .agg (Enc.enc dx5).toArray), (81, v5), (82, .agg (Enc.enc dx5).toArray), (83, v6), (84, .tuple [v7, .int .i64 ((dx7 : Nat) : Int), .int .i64 ((dx8 : Nat) : Int), .int .i64 ((dx9 : Nat) : Int)].toArray), (85, vcode), (86, .tuple [v7, .int .i64 ((dx7 : Nat) : Int), .int .i64 ((dx8 : Nat) : Int), .int .i64 ((dx9 : Nat) : Int)].toArray), (87, v7), (88, .int .i64 ((dx7 : Nat) : Int)), (89, .int .i64 ((dx8 : Nat) : Int)), (90, .int .i64 ((dx9 : Nat) : Int)), (91, .tuple [.int .i64 ((leastM dx6 ((dx7 : Nat) : Int) ((dx8 : Nat) : Int) ((dx9 : Nat) : Int)).1), .bool ((leastM dx6 ((dx7 : Nat) : Int) ((dx8 : Nat) : Int) ((dx9 : Nat) : Int)).2)].toArray), (92, v7), (93, .int .i64 ((dx7 : Nat) : Int)), (94, .int .i64 ((dx8 : Nat) : Int)), (95, .int .i64 ((dx9 : Nat) : Int)), (96, .tuple [.int .i64 ((leastM dx6 ((dx7 : Nat) : Int) ((dx8 : Nat) : Int) ((dx9 : Nat) : Int)).1), .bool ((leastM dx6 ((dx7 : Nat) : Int) ((dx8 : Nat) : Int) ((dx9 : Nat) : Int)).2)].toArray), (97, .int .i64 ((leastM dx6 ((dx7 : Nat) : Int) ((dx8 : Nat) : Int) ((dx9 : Nat) : Int)).1)), (98, .bool ((leastM dx6 ((dx7 : Nat) : Int) ((dx8 : Nat) : Int) ((dx9 : Nat) : Int)).2)), (99, .tuple [.int .i64 ((leastM dx6 ((dx7 : Nat) : Int) ((dx8 : Nat) : Int) ((dx9 : Nat) : Int)).1), .bool ((leastM dx6 ((dx7 : Nat) : Int) ((dx8 : Nat) : Int) ((dx9 : Nat) : Int)).2)].toArray), (100, v7), (101, .int .i64 ((dx7 : Nat) : Int)), (102, .int .i64 ((dx8 : Nat) : Int)), (103, .int .i64 ((dx9 : Nat) : Int)), (104, .tuple [.int .i64 ((leastM dx6 ((dx7 : Nat) : Int) ((dx8 : Nat) : Int) ((dx9 : Nat) : Int)).1), .bool ((leastM dx6 ((dx7 : Nat) : Int) ((dx8 : Nat) : Int) ((dx9 : Nat) : Int)).2)].toArray), (105, .int .i64 ((leastM dx6 ((dx7 : Nat) : Int) ((dx8 : Nat) : Int) ((dx9 : Nat) : Int)).1)), (106, .bool ((leastM dx6 ((dx7 : Nat) : Int) ((dx8 : Nat) : Int) ((dx9 : Nat) : Int)).2)), (107, .tuple [v8, .int .i64 dx11, .int .i64 dx12].toArray), (108, vcode), (109, .tuple [v8, .int .i64 dx11, .int .i64 dx12].toArray), (110, v8), (111, .int .i64 dx11), (112, .int .i64 dx12), (113, .tuple [.agg (Enc.enc dx13).toArray, .agg (Enc.enc dx14).toArray].toArray), (114, vcode), (115, .tuple [.agg (Enc.enc dx13).toArray, .agg (Enc.enc dx14).toArray].toArray), (116, .agg (Enc.enc dx13).toArray), (117, .agg (Enc.enc dx14).toArray), (160, .bool ((((((((leastM dx6 ((dx7 : Nat) : Int) ((dx8 : Nat) : Int) ((dx9 : Nat) : Int)).1) != ((leastM dx6 ((dx7 : Nat) : Int) ((dx8 : Nat) : Int) ((dx9 : Nat) : Int)).1)) || (!(((leastM dx6 ((dx7 : Nat) : Int) ((dx8 : Nat) : Int) ((dx9 : Nat) : Int)).2) == ((leastM dx6 ((dx7 : Nat) : Int) ((dx8 : Nat) : Int) ((dx9 : Nat) : Int)).2)))) || (!(decide ((putM dx4 dx5) = (putM dx4 dx5))))) || (!(decide (dx5 ∈ (putM dx4 dx5))))) || (!(decide ((dx10.filter (isOf dx11 dx12)) = (dx10.filter (isOf dx11 dx12)))))) || ((cellOrd dx13 dx14) != (cellOrd dx13 dx14)))), (161, .int .i64 dx1), (162, .bool (((dx1 == 5) || (dx1 == 6)) || (dx1 == 8))), (163, .tuple [.int .i64 ((leastM ((recallM dx1 dx2 dx3).1) dx3.op dx3.epoch dx3.key).1), .bool ((leastM ((recallM dx1 dx2 dx3).1) dx3.op dx3.epoch dx3.key).2)].toArray), (164, v2), (165, .pointer (some ⟨b1, 0, none⟩)), (166, .int .i64 dx3.op), (167, .pointer (some ⟨b1, 1, none⟩)), (168, .int .i64 dx3.epoch), (169, .pointer (some ⟨b1, 2, none⟩)), (170, .int .i64 dx3.key), (171, .tuple [.int .i64 ((leastM ((recallM dx1 dx2 dx3).1) dx3.op dx3.epoch dx3.key).1), .bool ((leastM ((recallM dx1 dx2 dx3).1) dx3.op dx3.epoch dx3.key).2)].toArray), (172, .int .i64 ((leastM ((recallM dx1 dx2 dx3).1) dx3.op dx3.epoch dx3.key).1)), (173, .bool ((leastM ((recallM dx1 dx2 dx3).1) dx3.op dx3.epoch dx3.key).2)), (216, .bool (((((!(((dx1 == 5) || (dx1 == 6)) || (dx1 == 8))) || ((!((recallM dx1 ((recallM dx1 dx2 dx3).1) dx3).2)) && (decide (((recallM dx1 ((recallM dx1 dx2 dx3).1) dx3).1) = ((recallM dx1 dx2 dx3).1))))) && (((!(((dx1 == 5) || (dx1 == 6)) || (dx1 == 8))) || (((leastM ((recallM dx1 dx2 dx3).1) dx3.op dx3.epoch dx3.key).2) && (decide (((leastM ((recallM dx1 dx2 dx3).1) dx3.op dx3.epoch dx3.key).1) ≤ dx3.val)))) || (dx1 == 6))) && ((!((adj dx2).all cellLt)) || ((adj ((recallM dx1 dx2 dx3).1)).all cellLt))) && ((((putM [] (⟨0, 0, 0, 0⟩ : Cell)).length : Nat) : Int) == 1)))] (fun w' => Ext w w' ∧ w36.heap.size ≤ w'.heap.size ∧ Own w' w1.heap.size w2.heap.size 4 v1 (List.flatMap (Enc.enc (α := Cell)) dx2) ∧ Blk w' b1 [.int .i64 dx3.op, .int .i64 dx3.epoch, .int .i64 dx3.key, .int .i64 dx3.val] ∧ Own w' w4.heap.size w5.heap.size 4 v2 (List.flatMap (Enc.enc (α := Cell)) ((recallM dx1 dx2 dx3).1)) ∧ Own w' w5.heap.size w6.heap.size 4 v3 (List.flatMap (Enc.enc (α := Cell)) ((recallM dx1 dx2 dx3).1)) ∧ Own w' w7.heap.size w11.heap.size 4 v4 (List.flatMap (Enc.enc (α := Cell)) ((recallM dx1 ((recallM dx1 dx2 dx3).1) dx3).1)) ∧ Own w' w11.heap.size w12.heap.size 4 v5 (List.flatMap (Enc.enc (α := Cell)) dx4) ∧ Blk w' b2 [.int .i64 dx5.op, .int .i64 dx5.epoch, .int .i64 dx5.key, .int .i64 dx5.val] ∧ Own w' w14.heap.size w15.heap.size 4 v6 (List.flatMap (Enc.enc (α := Cell)) (putM dx4 dx5)) ∧ Own w' w15.heap.size w16.heap.size 4 v7 (List.flatMap (Enc.enc (α := Cell)) dx6) ∧ Own w' w18.heap.size w19.heap.size 4 v8 (List.flatMap (Enc.enc (α := Cell)) dx10) ∧ Blk w' b3 [.int .i64 dx13.op, .int .i64 dx13.epoch, .int .i64 dx13.key, .int .i64 dx13.val] ∧ Blk w' b4 [.int .i64 dx14.op, .int .i64 dx14.epoch, .int .i64 dx14.key, .int .i64 dx14.val]) ?_ ?_
    · refine J_if (gd := 176) rfl rfl (fun hg8 => ?_) (fun hg8 => ?_)
      · refine J_gdno rfl rfl rfl rfl (J_gdno rfl rfl rfl rfl (J_gdno rfl rfl rfl rfl (J_gdx rfl rfl rfl (J_gdx rfl rfl rfl ?_))))
        refine J_ungx rfl rfl rfl ?_
        refine J_gdno rfl rfl rfl rfl (J_st (R_pickT rfl rfl) rfl (J_st (R_move rfl) rfl (J_gd rfl rfl (R_move rfl) rfl (J_gd rfl rfl (R_not rfl) rfl (J_gd rfl rfl (R_move rfl) rfl ?_)))))
        refine J_if (gd := 188) rfl rfl (fun hg9 => ?_) (fun hg9 => ?_)
        · refine J_gdno rfl rfl rfl rfl (J_gdno rfl rfl rfl rfl (J_gdx rfl rfl rfl (J_gdx rfl rfl rfl (J_gdx rfl rfl rfl (J_gdx rfl rfl rfl (J_gdno rfl rfl rfl rfl (J_gd rfl rfl (R_pickT rfl rfl) rfl (J_gd rfl rfl (R_move rfl) rfl (J_gdno rfl rfl rfl rfl (J_gdno rfl rfl rfl rfl (J_gd rfl rfl (R_pickT rfl rfl) rfl (J_st (R_pickT rfl rfl) rfl (J_st (R_move rfl) rfl (J_gd rfl rfl (R_move rfl) rfl ?_))))))))))))))
          refine J_ung rfl rfl ?_
          refine J_call Try.call30 rfl (s_CellsOk v1 dx2 _ (Own.rd (by decide) ho2)) rfl (fun _ w38 e31 hv => ?_)
          subst hv
          replace E := E.trans e31; replace ho2 := ho2.ext e31; replace h1 := h1.ext e31; replace ho4 := ho4.ext e31; replace ho6 := ho6.ext e31; replace ho8 := ho8.ext e31; replace ho10 := ho10.ext e31; replace h2 := h2.ext e31; replace ho11 := ho11.ext e31; replace ho13 := ho13.ext e31; replace ho15 := ho15.ext e31; replace h3 := h3.ext e31; replace h4 := h4.ext e31
          have z37 := e31.size
          refine J_gd rfl rfl (R_not rfl) rfl (J_gd rfl rfl (R_move rfl) rfl ?_)
          refine J_if (gd := 206) rfl rfl (fun hg10 => ?_) (fun hg10 => ?_)
          · refine J_gdno rfl rfl rfl rfl ?_
            refine J_ungno rfl rfl rfl rfl ?_
            refine J_gd rfl rfl (R_pickT rfl rfl) rfl (J_st (R_pickT rfl rfl) rfl (J_st (R_move rfl) rfl (J_gd rfl rfl (R_build (⟨0, 0, 0, 0⟩ : Cell) rfl (fun _ => by kernel_rfl)) rfl ?_)))
            refine J_ung rfl rfl ?_
            refine J_call Try.call32 rfl (c_PutCell (.slice none 0 0) [] (⟨0, 0, 0, 0⟩ : Cell) _ (RdS.nil _) (by first | omega | simp)) rfl (fun v12 w39 e32 ho20 => ?_)
            have g_ho20 : w.heap.size ≤ w38.heap.size := E.size
            replace E := E.trans e32; replace ho2 := ho2.ext e32; replace h1 := h1.ext e32; replace ho4 := ho4.ext e32; replace ho6 := ho6.ext e32; replace ho8 := ho8.ext e32; replace ho10 := ho10.ext e32; replace h2 := h2.ext e32; replace ho11 := ho11.ext e32; replace ho13 := ho13.ext e32; replace ho15 := ho15.ext e32; replace h3 := h3.ext e32; replace h4 := h4.ext e32
            have z38 := e32.size
            refine J_gd rfl rfl (R_len Try.underlying45 rfl (Own.len (by decide) ho20)) rfl (J_gd rfl rfl (R_eql rfl rfl) rfl (J_st (R_pickT rfl rfl) rfl (J_cutEnd ⟨rfl, rfl, rfl, rfl, rfl, rfl, rfl, rfl, rfl, rfl, rfl, rfl, rfl, rfl, rfl, rfl, rfl, rfl, rfl, rfl, rfl, rfl, rfl, rfl, rfl, rfl, rfl, rfl, rfl, rfl, rfl, rfl, rfl, rfl, rfl, rfl, rfl, rfl, rfl, rfl, rfl, rfl, rfl, rfl, rfl, rfl, rfl, rfl, rfl, rfl, rfl, rfl, rfl, rfl, rfl, rfl, rfl, rfl, rfl, rfl, rfl, rfl, rfl, rfl, rfl, rfl, rfl, rfl, rfl, rfl, rfl, rfl, rfl, rfl, rfl, rfl, rfl, rfl, rfl, rfl, rfl, rfl, rfl, rfl, rfl, rfl, rfl, rfl, rfl, rfl, rfl, rfl, rfl, rfl, rfl, rfl, rfl, rfl, rfl, rfl, rfl, rfl, rfl, rfl, rfl, rfl, rfl, rfl, rfl, rfl, rfl, rfl, rfl, rfl, rfl, rfl, congrArg (fun b => some (Value.bool b)) (show ((((putM [] (⟨0, 0, 0, 0⟩ : Cell)).length : Nat) : Int) == 1) = (((((!(((dx1 == 5) || (dx1 == 6)) || (dx1 == 8))) || ((!((recallM dx1 ((recallM dx1 dx2 dx3).1) dx3).2)) && (decide (((recallM dx1 ((recallM dx1 dx2 dx3).1) dx3).1) = ((recallM dx1 dx2 dx3).1))))) && (((!(((dx1 == 5) || (dx1 == 6)) || (dx1 == 8))) || (((leastM ((recallM dx1 dx2 dx3).1) dx3.op dx3.epoch dx3.key).2) && (decide (((leastM ((recallM dx1 dx2 dx3).1) dx3.op dx3.epoch dx3.key).1) ≤ dx3.val)))) || (dx1 == 6))) && ((!((adj dx2).all cellLt)) || ((adj ((recallM dx1 dx2 dx3).1)).all cellLt))) && ((((putM [] (⟨0, 0, 0, 0⟩ : Cell)).length : Nat) : Int) == 1)) by first | (rw [hg8, hg9, hg10] <;> rfl) | (simp [hg8, hg9, hg10]; done) | (simp only [nat_nlt] <;> simp)), trivial⟩ ⟨E, (by omega), ho2, h1, ho4, ho6, ho8, ho10, h2, ho11, ho13, ho15, h3, h4⟩)))
          · refine J_gd rfl rfl (R_move rfl) rfl ?_
            refine J_ung rfl rfl ?_
            refine J_call Try.call30 rfl (s_CellsOk v2 ((recallM dx1 dx2 dx3).1) _ (Own.rd (by decide) ho4)) rfl (fun _ w40 e33 hv => ?_)
            subst hv
            replace E := E.trans e33; replace ho2 := ho2.ext e33; replace h1 := h1.ext e33; replace ho4 := ho4.ext e33; replace ho6 := ho6.ext e33; replace ho8 := ho8.ext e33; replace ho10 := ho10.ext e33; replace h2 := h2.ext e33; replace ho11 := ho11.ext e33; replace ho13 := ho13.ext e33; replace ho15 := ho15.ext e33; replace h3 := h3.ext e33; replace h4 := h4.ext e33
            have z39 := e33.size
            refine J_gd rfl rfl (R_pickF rfl rfl) rfl (J_st (R_pickT rfl rfl) rfl (J_st (R_move rfl) rfl ?_))
            refine J_if (gd := 211) rfl rfl (fun hg11 => ?_) (fun hg11 => ?_)
            · refine J_gd rfl rfl (R_build (⟨0, 0, 0, 0⟩ : Cell) rfl (fun _ => by kernel_rfl)) rfl ?_
              refine J_ung rfl rfl ?_
              refine J_call Try.call32 rfl (c_PutCell (.slice none 0 0) [] (⟨0, 0, 0, 0⟩ : Cell) _ (RdS.nil _) (by first | omega | simp)) rfl (fun v13 w41 e34 ho21 => ?_)
              have g_ho21 : w.heap.size ≤ w40.heap.size := E.size
              replace E := E.trans e34; replace ho2 := ho2.ext e34; replace h1 := h1.ext e34; replace ho4 := ho4.ext e34; replace ho6 := ho6.ext e34; replace ho8 := ho8.ext e34; replace ho10 := ho10.ext e34; replace h2 := h2.ext e34; replace ho11 := ho11.ext e34; replace ho13 := ho13.ext e34; replace ho15 := ho15.ext e34; replace h3 := h3.ext e34; replace h4 := h4.ext e34
              have z40 := e34.size
              refine J_gd rfl rfl (R_len Try.underlying45 rfl (Own.len (by decide) ho21)) rfl (J_gd rfl rfl (R_eql rfl rfl) rfl (J_st (R_pickT rfl rfl) rfl (J_cutEnd ⟨rfl, rfl, rfl, rfl, rfl, rfl, rfl, rfl, rfl, rfl, rfl, rfl, rfl, rfl, rfl, rfl, rfl, rfl, rfl, rfl, rfl, rfl, rfl, rfl, rfl, rfl, rfl, rfl, rfl, rfl, rfl, rfl, rfl, rfl, rfl, rfl, rfl, rfl, rfl, rfl, rfl, rfl, rfl, rfl, rfl, rfl, rfl, rfl, rfl, rfl, rfl, rfl, rfl, rfl, rfl, rfl, rfl, rfl, rfl, rfl, rfl, rfl, rfl, rfl, rfl, rfl, rfl, rfl, rfl, rfl, rfl, rfl, rfl, rfl, rfl, rfl, rfl, rfl, rfl, rfl, rfl, rfl, rfl, rfl, rfl, rfl, rfl, rfl, rfl, rfl, rfl, rfl, rfl, rfl, rfl, rfl, rfl, rfl, rfl, rfl, rfl, rfl, rfl, rfl, rfl, rfl, rfl, rfl, rfl, rfl, rfl, rfl, rfl, rfl, rfl, rfl, congrArg (fun b => some (Value.bool b)) (show ((((putM [] (⟨0, 0, 0, 0⟩ : Cell)).length : Nat) : Int) == 1) = (((((!(((dx1 == 5) || (dx1 == 6)) || (dx1 == 8))) || ((!((recallM dx1 ((recallM dx1 dx2 dx3).1) dx3).2)) && (decide (((recallM dx1 ((recallM dx1 dx2 dx3).1) dx3).1) = ((recallM dx1 dx2 dx3).1))))) && (((!(((dx1 == 5) || (dx1 == 6)) || (dx1 == 8))) || (((leastM ((recallM dx1 dx2 dx3).1) dx3.op dx3.epoch dx3.key).2) && (decide (((leastM ((recallM dx1 dx2 dx3).1) dx3.op dx3.epoch dx3.key).1) ≤ dx3.val)))) || (dx1 == 6))) && ((!((adj dx2).all cellLt)) || ((adj ((recallM dx1 dx2 dx3).1)).all cellLt))) && ((((putM [] (⟨0, 0, 0, 0⟩ : Cell)).length : Nat) : Int) == 1)) by first | (rw [hg8, hg9, hg10, hg11] <;> rfl) | (simp [hg8, hg9, hg10, hg11]; done) | (simp only [nat_nlt] <;> simp)), trivial⟩ ⟨E, (by omega), ho2, h1, ho4, ho6, ho8, ho10, h2, ho11, ho13, ho15, h3, h4⟩)))
            · exact absurd hg11 (by rw [recallM_adj (not_f hg10)]; decide)
        · exact absurd hg9 (by rw [hg8]; decide)
      · refine J_gd rfl rfl (R_move rfl) rfl (J_gd rfl rfl (R_not rfl) rfl (J_gd rfl rfl (R_move rfl) rfl ?_))
        refine J_if (gd := 179) rfl rfl (fun hg12 => ?_) (fun hg12 => ?_)
        · refine J_gd rfl rfl (R_move rfl) rfl (J_gd rfl rfl (R_move rfl) rfl ?_)
          refine J_ung rfl rfl ?_
          refine J_call Try.call28 rfl (l_sameCells v4 ((recallM dx1 ((recallM dx1 dx2 dx3).1) dx3).1) v2 ((recallM dx1 dx2 dx3).1) _ (Own.rd (by decide) ho8) (Own.rd (by decide) ho4)) rfl (fun _ w42 e35 hv => ?_)
          subst hv
          replace E := E.trans e35; replace ho2 := ho2.ext e35; replace h1 := h1.ext e35; replace ho4 := ho4.ext e35; replace ho6 := ho6.ext e35; replace ho8 := ho8.ext e35; replace ho10 := ho10.ext e35; replace h2 := h2.ext e35; replace ho11 := ho11.ext e35; replace ho13 := ho13.ext e35; replace ho15 := ho15.ext e35; replace h3 := h3.ext e35; replace h4 := h4.ext e35
          have z41 := e35.size
          refine J_gd rfl rfl (R_pickT rfl rfl) rfl (J_st (R_pickF rfl rfl) rfl (J_st (R_move rfl) rfl ?_))
          refine J_if (gd := 185) rfl rfl (fun hg13 => ?_) (fun hg13 => ?_)
          · refine J_gd rfl rfl (R_move rfl) rfl (J_gd rfl rfl (R_not rfl) rfl (J_gd rfl rfl (R_move rfl) rfl ?_))
            refine J_if (gd := 188) rfl rfl (fun hg14 => ?_) (fun hg14 => ?_)
            · exact absurd hg14 (by rw [hg8]; decide)
            · refine J_gd rfl rfl (R_move rfl) rfl (J_gd rfl rfl (R_move rfl) rfl ?_)
              refine J_if (gd := 190) rfl rfl (fun hg15 => ?_) (fun hg15 => ?_)
              · refine J_gd rfl rfl (R_move rfl) rfl (J_gd rfl rfl (R_fieldAddr0 fl47_3 rfl) rfl (J_gd rfl rfl (R_load sc3 rfl (h1.one 3 rfl)) rfl (J_gd rfl rfl (R_leq rfl rfl) rfl (J_gd rfl rfl (R_pickT rfl rfl) rfl (J_gd rfl rfl (R_pickF rfl rfl) rfl (J_gd rfl rfl (R_move rfl) rfl ?_))))))
                refine J_if (gd := 197) rfl rfl (fun hg16 => ?_) (fun hg16 => ?_)
                · refine J_gdno rfl rfl rfl rfl (J_gdno rfl rfl rfl rfl (J_gd rfl rfl (R_pickT rfl rfl) rfl (J_st (R_pickT rfl rfl) rfl (J_st (R_move rfl) rfl (J_gd rfl rfl (R_move rfl) rfl ?_)))))
                  refine J_ung rfl rfl ?_
                  refine J_call Try.call30 rfl (s_CellsOk v1 dx2 _ (Own.rd (by decide) ho2)) rfl (fun _ w43 e36 hv => ?_)
                  subst hv
                  replace E := E.trans e36; replace ho2 := ho2.ext e36; replace h1 := h1.ext e36; replace ho4 := ho4.ext e36; replace ho6 := ho6.ext e36; replace ho8 := ho8.ext e36; replace ho10 := ho10.ext e36; replace h2 := h2.ext e36; replace ho11 := ho11.ext e36; replace ho13 := ho13.ext e36; replace ho15 := ho15.ext e36; replace h3 := h3.ext e36; replace h4 := h4.ext e36
                  have z42 := e36.size
                  refine J_gd rfl rfl (R_not rfl) rfl (J_gd rfl rfl (R_move rfl) rfl ?_)
                  refine J_if (gd := 206) rfl rfl (fun hg17 => ?_) (fun hg17 => ?_)
                  · refine J_gdno rfl rfl rfl rfl ?_
                    refine J_ungno rfl rfl rfl rfl ?_
                    refine J_gd rfl rfl (R_pickT rfl rfl) rfl (J_st (R_pickT rfl rfl) rfl (J_st (R_move rfl) rfl (J_gd rfl rfl (R_build (⟨0, 0, 0, 0⟩ : Cell) rfl (fun _ => by kernel_rfl)) rfl ?_)))
                    refine J_ung rfl rfl ?_
                    refine J_call Try.call32 rfl (c_PutCell (.slice none 0 0) [] (⟨0, 0, 0, 0⟩ : Cell) _ (RdS.nil _) (by first | omega | simp)) rfl (fun v14 w44 e37 ho22 => ?_)
                    have g_ho22 : w.heap.size ≤ w43.heap.size := E.size
                    replace E := E.trans e37; replace ho2 := ho2.ext e37; replace h1 := h1.ext e37; replace ho4 := ho4.ext e37; replace ho6 := ho6.ext e37; replace ho8 := ho8.ext e37; replace ho10 := ho10.ext e37; replace h2 := h2.ext e37; replace ho11 := ho11.ext e37; replace ho13 := ho13.ext e37; replace ho15 := ho15.ext e37; replace h3 := h3.ext e37; replace h4 := h4.ext e37
                    have z43 := e37.size
                    refine J_gd rfl rfl (R_len Try.underlying45 rfl (Own.len (by decide) ho22)) rfl (J_gd rfl rfl (R_eql rfl rfl) rfl (J_st (R_pickT rfl rfl) rfl (J_cutEnd ⟨rfl, rfl, rfl, rfl, rfl, rfl, rfl, rfl, rfl, rfl, rfl, rfl, rfl, rfl, rfl, rfl, rfl, rfl, rfl, rfl, rfl, rfl, rfl, rfl, rfl, rfl, rfl, rfl, rfl, rfl, rfl, rfl, rfl, rfl, rfl, rfl, rfl, rfl, rfl, rfl, rfl, rfl, rfl, rfl, rfl, rfl, rfl, rfl, rfl, rfl, rfl, rfl, rfl, rfl, rfl, rfl, rfl, rfl, rfl, rfl, rfl, rfl, rfl, rfl, rfl, rfl, rfl, rfl, rfl, rfl, rfl, rfl, rfl, rfl, rfl, rfl, rfl, rfl, rfl, rfl, rfl, rfl, rfl, rfl, rfl, rfl, rfl, rfl, rfl, rfl, rfl, rfl, rfl, rfl, rfl, rfl, rfl, rfl, rfl, rfl, rfl, rfl, rfl, rfl, rfl, rfl, rfl, rfl, rfl, rfl, rfl, rfl, rfl, rfl, rfl, rfl, congrArg (fun b => some (Value.bool b)) (show ((((putM [] (⟨0, 0, 0, 0⟩ : Cell)).length : Nat) : Int) == 1) = (((((!(((dx1 == 5) || (dx1 == 6)) || (dx1 == 8))) || ((!((recallM dx1 ((recallM dx1 dx2 dx3).1) dx3).2)) && (decide (((recallM dx1 ((recallM dx1 dx2 dx3).1) dx3).1) = ((recallM dx1 dx2 dx3).1))))) && (((!(((dx1 == 5) || (dx1 == 6)) || (dx1 == 8))) || (((leastM ((recallM dx1 dx2 dx3).1) dx3.op dx3.epoch dx3.key).2) && (decide (((leastM ((recallM dx1 dx2 dx3).1) dx3.op dx3.epoch dx3.key).1) ≤ dx3.val)))) || (dx1 == 6))) && ((!((adj dx2).all cellLt)) || ((adj ((recallM dx1 dx2 dx3).1)).all cellLt))) && ((((putM [] (⟨0, 0, 0, 0⟩ : Cell)).length : Nat) : Int) == 1)) by first | (rw [hg8, hg12, hg13, hg14, hg15, hg16, hg17] <;> rfl) | (simp [hg8, hg12, hg13, hg14, hg15, hg16, hg17]; done) | (simp only [nat_nlt] <;> simp)), trivial⟩ ⟨E, (by omega), ho2, h1, ho4, ho6, ho8, ho10, h2, ho11, ho13, ho15, h3, h4⟩)))
                  · refine J_gd rfl rfl (R_move rfl) rfl ?_
                    refine J_ung rfl rfl ?_
                    refine J_call Try.call30 rfl (s_CellsOk v2 ((recallM dx1 dx2 dx3).1) _ (Own.rd (by decide) ho4)) rfl (fun _ w45 e38 hv => ?_)
                    subst hv
                    replace E := E.trans e38; replace ho2 := ho2.ext e38; replace h1 := h1.ext e38; replace ho4 := ho4.ext e38; replace ho6 := ho6.ext e38; replace ho8 := ho8.ext e38; replace ho10 := ho10.ext e38; replace h2 := h2.ext e38; replace ho11 := ho11.ext e38; replace ho13 := ho13.ext e38; replace ho15 := ho15.ext e38; replace h3 := h3.ext e38; replace h4 := h4.ext e38
                    have z44 := e38.size
                    refine J_gd rfl rfl (R_pickF rfl rfl) rfl (J_st (R_pickT rfl rfl) rfl (J_st (R_move rfl) rfl ?_))
                    refine J_if (gd := 211) rfl rfl (fun hg18 => ?_) (fun hg18 => ?_)
                    · refine J_gd rfl rfl (R_build (⟨0, 0, 0, 0⟩ : Cell) rfl (fun _ => by kernel_rfl)) rfl ?_
                      refine J_ung rfl rfl ?_
                      refine J_call Try.call32 rfl (c_PutCell (.slice none 0 0) [] (⟨0, 0, 0, 0⟩ : Cell) _ (RdS.nil _) (by first | omega | simp)) rfl (fun v15 w46 e39 ho23 => ?_)
                      have g_ho23 : w.heap.size ≤ w45.heap.size := E.size
                      replace E := E.trans e39; replace ho2 := ho2.ext e39; replace h1 := h1.ext e39; replace ho4 := ho4.ext e39; replace ho6 := ho6.ext e39; replace ho8 := ho8.ext e39; replace ho10 := ho10.ext e39; replace h2 := h2.ext e39; replace ho11 := ho11.ext e39; replace ho13 := ho13.ext e39; replace ho15 := ho15.ext e39; replace h3 := h3.ext e39; replace h4 := h4.ext e39
                      have z45 := e39.size
                      refine J_gd rfl rfl (R_len Try.underlying45 rfl (Own.len (by decide) ho23)) rfl (J_gd rfl rfl (R_eql rfl rfl) rfl (J_st (R_pickT rfl rfl) rfl (J_cutEnd ⟨rfl, rfl, rfl, rfl, rfl, rfl, rfl, rfl, rfl, rfl, rfl, rfl, rfl, rfl, rfl, rfl, rfl, rfl, rfl, rfl, rfl, rfl, rfl, rfl, rfl, rfl, rfl, rfl, rfl, rfl, rfl, rfl, rfl, rfl, rfl, rfl, rfl, rfl, rfl, rfl, rfl, rfl, rfl, rfl, rfl, rfl, rfl, rfl, rfl, rfl, rfl, rfl, rfl, rfl, rfl, rfl, rfl, rfl, rfl, rfl, rfl, rfl, rfl, rfl, rfl, rfl, rfl, rfl, rfl, rfl, rfl, rfl, rfl, rfl, rfl, rfl, rfl, rfl, rfl, rfl, rfl, rfl, rfl, rfl, rfl, rfl, rfl, rfl, rfl, rfl, rfl, rfl, rfl, rfl, rfl, rfl, rfl, rfl, rfl, rfl, rfl, rfl, rfl, rfl, rfl, rfl, rfl, rfl, rfl, rfl, rfl, rfl, rfl, rfl, rfl, rfl, congrArg (fun b => some (Value.bool b)) (show ((((putM [] (⟨0, 0, 0, 0⟩ : Cell)).length : Nat) : Int) == 1) = (((((!(((dx1 == 5) || (dx1 == 6)) || (dx1 == 8))) || ((!((recallM dx1 ((recallM dx1 dx2 dx3).1) dx3).2)) && (decide (((recallM dx1 ((recallM dx1 dx2 dx3).1) dx3).1) = ((recallM dx1 dx2 dx3).1))))) && (((!(((dx1 == 5) || (dx1 == 6)) || (dx1 == 8))) || (((leastM ((recallM dx1 dx2 dx3).1) dx3.op dx3.epoch dx3.key).2) && (decide (((leastM ((recallM dx1 dx2 dx3).1) dx3.op dx3.epoch dx3.key).1) ≤ dx3.val)))) || (dx1 == 6))) && ((!((adj dx2).all cellLt)) || ((adj ((recallM dx1 dx2 dx3).1)).all cellLt))) && ((((putM [] (⟨0, 0, 0, 0⟩ : Cell)).length : Nat) : Int) == 1)) by first | (rw [hg8, hg12, hg13, hg14, hg15, hg16, hg17, hg18] <;> rfl) | (simp [hg8, hg12, hg13, hg14, hg15, hg16, hg17, hg18]; done) | (simp only [nat_nlt] <;> simp)), trivial⟩ ⟨E, (by omega), ho2, h1, ho4, ho6, ho8, ho10, h2, ho11, ho13, ho15, h3, h4⟩)))
                    · exact absurd hg18 (by rw [recallM_adj (not_f hg17)]; decide)
                · refine J_gd rfl rfl (R_move rfl) rfl (J_gd rfl rfl (R_eql rfl rfl) rfl (J_gd rfl rfl (R_pickF rfl rfl) rfl (J_st (R_pickT rfl rfl) rfl (J_st (R_move rfl) rfl ?_))))
                  refine J_if (gd := 202) rfl rfl (fun hg19 => ?_) (fun hg19 => ?_)
                  · refine J_gd rfl rfl (R_move rfl) rfl ?_
                    refine J_ung rfl rfl ?_
                    refine J_call Try.call30 rfl (s_CellsOk v1 dx2 _ (Own.rd (by decide) ho2)) rfl (fun _ w47 e40 hv => ?_)
                    subst hv
                    replace E := E.trans e40; replace ho2 := ho2.ext e40; replace h1 := h1.ext e40; replace ho4 := ho4.ext e40; replace ho6 := ho6.ext e40; replace ho8 := ho8.ext e40; replace ho10 := ho10.ext e40; replace h2 := h2.ext e40; replace ho11 := ho11.ext e40; replace ho13 := ho13.ext e40; replace ho15 := ho15.ext e40; replace h3 := h3.ext e40; replace h4 := h4.ext e40
                    have z46 := e40.size
                    refine J_gd rfl rfl (R_not rfl) rfl (J_gd rfl rfl (R_move rfl) rfl ?_)
                    refine J_if (gd := 206) rfl rfl (fun hg20 => ?_) (fun hg20 => ?_)
                    · refine J_gdno rfl rfl rfl rfl ?_
                      refine J_ungno rfl rfl rfl rfl ?_
                      refine J_gd rfl rfl (R_pickT rfl rfl) rfl (J_st (R_pickT rfl rfl) rfl (J_st (R_move rfl) rfl (J_gd rfl rfl (R_build (⟨0, 0, 0, 0⟩ : Cell) rfl (fun _ => by kernel_rfl)) rfl ?_)))
                      refine J_ung rfl rfl ?_
                      refine J_call Try.call32 rfl (c_PutCell (.slice none 0 0) [] (⟨0, 0, 0, 0⟩ : Cell) _ (RdS.nil _) (by first | omega | simp)) rfl (fun v16 w48 e41 ho24 => ?_)
                      have g_ho24 : w.heap.size ≤ w47.heap.size := E.size
                      replace E := E.trans e41; replace ho2 := ho2.ext e41; replace h1 := h1.ext e41; replace ho4 := ho4.ext e41; replace ho6 := ho6.ext e41; replace ho8 := ho8.ext e41; replace ho10 := ho10.ext e41; replace h2 := h2.ext e41; replace ho11 := ho11.ext e41; replace ho13 := ho13.ext e41; replace ho15 := ho15.ext e41; replace h3 := h3.ext e41; replace h4 := h4.ext e41
                      have z47 := e41.size
                      refine J_gd rfl rfl (R_len Try.underlying45 rfl (Own.len (by decide) ho24)) rfl (J_gd rfl rfl (R_eql rfl rfl) rfl (J_st (R_pickT rfl rfl) rfl (J_cutEnd ⟨rfl, rfl, rfl, rfl, rfl, rfl, rfl, rfl, rfl, rfl, rfl, rfl, rfl, rfl, rfl, rfl, rfl, rfl, rfl, rfl, rfl, rfl, rfl, rfl, rfl, rfl, rfl, rfl, rfl, rfl, rfl, rfl, rfl, rfl, rfl, rfl, rfl, rfl, rfl, rfl, rfl, rfl, rfl, rfl, rfl, rfl, rfl, rfl, rfl, rfl, rfl, rfl, rfl, rfl, rfl, rfl, rfl, rfl, rfl, rfl, rfl, rfl, rfl, rfl, rfl, rfl, rfl, rfl, rfl, rfl, rfl, rfl, rfl, rfl, rfl, rfl, rfl, rfl, rfl, rfl, rfl, rfl, rfl, rfl, rfl, rfl, rfl, rfl, rfl, rfl, rfl, rfl, rfl, rfl, rfl, rfl, rfl, rfl, rfl, rfl, rfl, rfl, rfl, rfl, rfl, rfl, rfl, rfl, rfl, rfl, rfl, rfl, rfl, rfl, rfl, rfl, congrArg (fun b => some (Value.bool b)) (show ((((putM [] (⟨0, 0, 0, 0⟩ : Cell)).length : Nat) : Int) == 1) = (((((!(((dx1 == 5) || (dx1 == 6)) || (dx1 == 8))) || ((!((recallM dx1 ((recallM dx1 dx2 dx3).1) dx3).2)) && (decide (((recallM dx1 ((recallM dx1 dx2 dx3).1) dx3).1) = ((recallM dx1 dx2 dx3).1))))) && (((!(((dx1 == 5) || (dx1 == 6)) || (dx1 == 8))) || (((leastM ((recallM dx1 dx2 dx3).1) dx3.op dx3.epoch dx3.key).2) && (decide (((leastM ((recallM dx1 dx2 dx3).1) dx3.op dx3.epoch dx3.key).1) ≤ dx3.val)))) || (dx1 == 6))) && ((!((adj dx2).all cellLt)) || ((adj ((recallM dx1 dx2 dx3).1)).all cellLt))) && ((((putM [] (⟨0, 0, 0, 0⟩ : Cell)).length : Nat) : Int) == 1)) by first | (rw [hg8, hg12, hg13, hg14, hg15, hg16, hg19, hg20] <;> rfl) | (simp [hg8, hg12, hg13, hg14, hg15, hg16, hg19, hg20]; done) | (simp only [nat_nlt] <;> simp)), trivial⟩ ⟨E, (by omega), ho2, h1, ho4, ho6, ho8, ho10, h2, ho11, ho13, ho15, h3, h4⟩)))
                    · refine J_gd rfl rfl (R_move rfl) rfl ?_
                      refine J_ung rfl rfl ?_
                      refine J_call Try.call30 rfl (s_CellsOk v2 ((recallM dx1 dx2 dx3).1) _ (Own.rd (by decide) ho4)) rfl (fun _ w49 e42 hv => ?_)
                      subst hv
                      replace E := E.trans e42; replace ho2 := ho2.ext e42; replace h1 := h1.ext e42; replace ho4 := ho4.ext e42; replace ho6 := ho6.ext e42; replace ho8 := ho8.ext e42; replace ho10 := ho10.ext e42; replace h2 := h2.ext e42; replace ho11 := ho11.ext e42; replace ho13 := ho13.ext e42; replace ho15 := ho15.ext e42; replace h3 := h3.ext e42; replace h4 := h4.ext e42
                      have z48 := e42.size
                      refine J_gd rfl rfl (R_pickF rfl rfl) rfl (J_st (R_pickT rfl rfl) rfl (J_st (R_move rfl) rfl ?_))
                      refine J_if (gd := 211) rfl rfl (fun hg21 => ?_) (fun hg21 => ?_)
                      · refine J_gd rfl rfl (R_build (⟨0, 0, 0, 0⟩ : Cell) rfl (fun _ => by kernel_rfl)) rfl ?_
                        refine J_ung rfl rfl ?_
                        refine J_call Try.call32 rfl (c_PutCell (.slice none 0 0) [] (⟨0, 0, 0, 0⟩ : Cell) _ (RdS.nil _) (by first | omega | simp)) rfl (fun v17 w50 e43 ho25 => ?_)
                        have g_ho25 : w.heap.size ≤ w49.heap.size := E.size
                        replace E := E.trans e43; replace ho2 := ho2.ext e43; replace h1 := h1.ext e43; replace ho4 := ho4.ext e43; replace ho6 := ho6.ext e43; replace ho8 := ho8.ext e43; replace ho10 := ho10.ext e43; replace h2 := h2.ext e43; replace ho11 := ho11.ext e43; replace ho13 := ho13.ext e43; replace ho15 := ho15.ext e43; replace h3 := h3.ext e43; replace h4 := h4.ext e43
                        have z49 := e43.size
                        refine J_gd rfl rfl (R_len Try.underlying45 rfl (Own.len (by decide) ho25)) rfl (J_gd rfl rfl (R_eql rfl rfl) rfl (J_st (R_pickT rfl rfl) rfl (J_cutEnd ⟨rfl, rfl, rfl, rfl, rfl, rfl, rfl, rfl, rfl, rfl, rfl, rfl, rfl, rfl, rfl, rfl, rfl, rfl, rfl, rfl, rfl, rfl, rfl, rfl, rfl, rfl, rfl, rfl, rfl, rfl, rfl, rfl, rfl, rfl, rfl, rfl, rfl, rfl, rfl, rfl, rfl, rfl, rfl, rfl, rfl, rfl, rfl, rfl, rfl, rfl, rfl, rfl, rfl, rfl, rfl, rfl, rfl, rfl, rfl, rfl, rfl, rfl, rfl, rfl, rfl, rfl, rfl, rfl, rfl, rfl, rfl, rfl, rfl, rfl, rfl, rfl, rfl, rfl, rfl, rfl, rfl, rfl, rfl, rfl, rfl, rfl, rfl, rfl, rfl, rfl, rfl, rfl, rfl, rfl, rfl, rfl, rfl, rfl, rfl, rfl, rfl, rfl, rfl, rfl, rfl, rfl, rfl, rfl, rfl, rfl, rfl, rfl, rfl, rfl, rfl, rfl, congrArg (fun b => some (Value.bool b)) (show ((((putM [] (⟨0, 0, 0, 0⟩ : Cell)).length : Nat) : Int) == 1) = (((((!(((dx1 == 5) || (dx1 == 6)) || (dx1 == 8))) || ((!((recallM dx1 ((recallM dx1 dx2 dx3).1) dx3).2)) && (decide (((recallM dx1 ((recallM dx1 dx2 dx3).1) dx3).1) = ((recallM dx1 dx2 dx3).1))))) && (((!(((dx1 == 5) || (dx1 == 6)) || (dx1 == 8))) || (((leastM ((recallM dx1 dx2 dx3).1) dx3.op dx3.epoch dx3.key).2) && (decide (((leastM ((recallM dx1 dx2 dx3).1) dx3.op dx3.epoch dx3.key).1) ≤ dx3.val)))) || (dx1 == 6))) && ((!((adj dx2).all cellLt)) || ((adj ((recallM dx1 dx2 dx3).1)).all cellLt))) && ((((putM [] (⟨0, 0, 0, 0⟩ : Cell)).length : Nat) : Int) == 1)) by first | (rw [hg8, hg12, hg13, hg14, hg15, hg16, hg19, hg20, hg21] <;> rfl) | (simp [hg8, hg12, hg13, hg14, hg15, hg16, hg19, hg20, hg21]; done) | (simp only [nat_nlt] <;> simp)), trivial⟩ ⟨E, (by omega), ho2, h1, ho4, ho6, ho8, ho10, h2, ho11, ho13, ho15, h3, h4⟩)))
                      · exact absurd hg21 (by rw [recallM_adj (not_f hg20)]; decide)
                  · exact absurd hg19 (by rw [recallM_six dx2 dx3 (not_f hg8) (by first | exact .inl hg16 | exact .inr hg16)]; decide)
              · refine J_gdno rfl rfl rfl rfl (J_gdno rfl rfl rfl rfl (J_gdno rfl rfl rfl rfl (J_gdno rfl rfl rfl rfl (J_gd rfl rfl (R_pickF rfl rfl) rfl (J_gd rfl rfl (R_pickF rfl rfl) rfl (J_gd rfl rfl (R_move rfl) rfl (J_gd rfl rfl (R_move rfl) rfl (J_gd rfl rfl (R_eql rfl rfl) rfl (J_gd rfl rfl (R_pickF rfl rfl) rfl (J_st (R_pickT rfl rfl) rfl (J_st (R_move rfl) rfl ?_)))))))))))
                refine J_if (gd := 202) rfl rfl (fun hg22 => ?_) (fun hg22 => ?_)
                · refine J_gd rfl rfl (R_move rfl) rfl ?_
                  refine J_ung rfl rfl ?_
                  refine J_call Try.call30 rfl (s_CellsOk v1 dx2 _ (Own.rd (by decide) ho2)) rfl (fun _ w51 e44 hv => ?_)
                  subst hv
                  replace E := E.trans e44; replace ho2 := ho2.ext e44; replace h1 := h1.ext e44; replace ho4 := ho4.ext e44; replace ho6 := ho6.ext e44; replace ho8 := ho8.ext e44; replace ho10 := ho10.ext e44; replace h2 := h2.ext e44; replace ho11 := ho11.ext e44; replace ho13 := ho13.ext e44; replace ho15 := ho15.ext e44; replace h3 := h3.ext e44; replace h4 := h4.ext e44
                  have z50 := e44.size
                  refine J_gd rfl rfl (R_not rfl) rfl (J_gd rfl rfl (R_move rfl) rfl ?_)
                  refine J_if (gd := 206) rfl rfl (fun hg23 => ?_) (fun hg23 => ?_)
                  · refine J_gdno rfl rfl rfl rfl ?_
                    refine J_ungno rfl rfl rfl rfl ?_
                    refine J_gd rfl rfl (R_pickT rfl rfl) rfl (J_st (R_pickT rfl rfl) rfl (J_st (R_move rfl) rfl (J_gd rfl rfl (R_build (⟨0, 0, 0, 0⟩ : Cell) rfl (fun _ => by kernel_rfl)) rfl ?_)))
                    refine J_ung rfl rfl ?_
                    refine J_call Try.call32 rfl (c_PutCell (.slice none 0 0) [] (⟨0, 0, 0, 0⟩ : Cell) _ (RdS.nil _) (by first | omega | simp)) rfl (fun v18 w52 e45 ho26 => ?_)
                    have g_ho26 : w.heap.size ≤ w51.heap.size := E.size
                    replace E := E.trans e45; replace ho2 := ho2.ext e45; replace h1 := h1.ext e45; replace ho4 := ho4.ext e45; replace ho6 := ho6.ext e45; replace ho8 := ho8.ext e45; replace ho10 := ho10.ext e45; replace h2 := h2.ext e45; replace ho11 := ho11.ext e45; replace ho13 := ho13.ext e45; replace ho15 := ho15.ext e45; replace h3 := h3.ext e45; replace h4 := h4.ext e45
                    have z51 := e45.size
                    refine J_gd rfl rfl (R_len Try.underlying45 rfl (Own.len (by decide) ho26)) rfl (J_gd rfl rfl (R_eql rfl rfl) rfl (J_st (R_pickT rfl rfl) rfl (J_cutEnd ⟨rfl, rfl, rfl, rfl, rfl, rfl, rfl, rfl, rfl, rfl, rfl, rfl, rfl, rfl, rfl, rfl, rfl, rfl, rfl, rfl, rfl, rfl, rfl, rfl, rfl, rfl, rfl, rfl, rfl, rfl, rfl, rfl, rfl, rfl, rfl, rfl, rfl, rfl, rfl, rfl, rfl, rfl, rfl, rfl, rfl, rfl, rfl, rfl, rfl, rfl, rfl, rfl, rfl, rfl, rfl, rfl, rfl, rfl, rfl, rfl, rfl, rfl, rfl, rfl, rfl, rfl, rfl, rfl, rfl, rfl, rfl, rfl, rfl, rfl, rfl, rfl, rfl, rfl, rfl, rfl, rfl, rfl, rfl, rfl, rfl, rfl, rfl, rfl, rfl, rfl, rfl, rfl, rfl, rfl, rfl, rfl, rfl, rfl, rfl, rfl, rfl, rfl, rfl, rfl, rfl, rfl, rfl, rfl, rfl, rfl, rfl, rfl, rfl, rfl, rfl, rfl, congrArg (fun b => some (Value.bool b)) (show ((((putM [] (⟨0, 0, 0, 0⟩ : Cell)).length : Nat) : Int) == 1) = (((((!(((dx1 == 5) || (dx1 == 6)) || (dx1 == 8))) || ((!((recallM dx1 ((recallM dx1 dx2 dx3).1) dx3).2)) && (decide (((recallM dx1 ((recallM dx1 dx2 dx3).1) dx3).1) = ((recallM dx1 dx2 dx3).1))))) && (((!(((dx1 == 5) || (dx1 == 6)) || (dx1 == 8))) || (((leastM ((recallM dx1 dx2 dx3).1) dx3.op dx3.epoch dx3.key).2) && (decide (((leastM ((recallM dx1 dx2 dx3).1) dx3.op dx3.epoch dx3.key).1) ≤ dx3.val)))) || (dx1 == 6))) && ((!((adj dx2).all cellLt)) || ((adj ((recallM dx1 dx2 dx3).1)).all cellLt))) && ((((putM [] (⟨0, 0, 0, 0⟩ : Cell)).length : Nat) : Int) == 1)) by first | (rw [hg8, hg12, hg13, hg14, hg15, hg22, hg23] <;> rfl) | (simp [hg8, hg12, hg13, hg14, hg15, hg22, hg23]; done) | (simp only [nat_nlt] <;> simp)), trivial⟩ ⟨E, (by omega), ho2, h1, ho4, ho6, ho8, ho10, h2, ho11, ho13, ho15, h3, h4⟩)))
                  · refine J_gd rfl rfl (R_move rfl) rfl ?_
                    refine J_ung rfl rfl ?_
                    refine J_call Try.call30 rfl (s_CellsOk v2 ((recallM dx1 dx2 dx3).1) _ (Own.rd (by decide) ho4)) rfl (fun _ w53 e46 hv => ?_)
                    subst hv
                    replace E := E.trans e46; replace ho2 := ho2.ext e46; replace h1 := h1.ext e46; replace ho4 := ho4.ext e46; replace ho6 := ho6.ext e46; replace ho8 := ho8.ext e46; replace ho10 := ho10.ext e46; replace h2 := h2.ext e46; replace ho11 := ho11.ext e46; replace ho13 := ho13.ext e46; replace ho15 := ho15.ext e46; replace h3 := h3.ext e46; replace h4 := h4.ext e46
                    have z52 := e46.size
                    refine J_gd rfl rfl (R_pickF rfl rfl) rfl (J_st (R_pickT rfl rfl) rfl (J_st (R_move rfl) rfl ?_))
                    refine J_if (gd := 211) rfl rfl (fun hg24 => ?_) (fun hg24 => ?_)
                    · refine J_gd rfl rfl (R_build (⟨0, 0, 0, 0⟩ : Cell) rfl (fun _ => by kernel_rfl)) rfl ?_
                      refine J_ung rfl rfl ?_
                      refine J_call Try.call32 rfl (c_PutCell (.slice none 0 0) [] (⟨0, 0, 0, 0⟩ : Cell) _ (RdS.nil _) (by first | omega | simp)) rfl (fun v19 w54 e47 ho27 => ?_)
                      have g_ho27 : w.heap.size ≤ w53.heap.size := E.size
                      replace E := E.trans e47; replace ho2 := ho2.ext e47; replace h1 := h1.ext e47; replace ho4 := ho4.ext e47; replace ho6 := ho6.ext e47; replace ho8 := ho8.ext e47; replace ho10 := ho10.ext e47; replace h2 := h2.ext e47; replace ho11 := ho11.ext e47; replace ho13 := ho13.ext e47; replace ho15 := ho15.ext e47; replace h3 := h3.ext e47; replace h4 := h4.ext e47
                      have z53 := e47.size
                      refine J_gd rfl rfl (R_len Try.underlying45 rfl (Own.len (by decide) ho27)) rfl (J_gd rfl rfl (R_eql rfl rfl) rfl (J_st (R_pickT rfl rfl) rfl (J_cutEnd ⟨rfl, rfl, rfl, rfl, rfl, rfl, rfl, rfl, rfl, rfl, rfl, rfl, rfl, rfl, rfl, rfl, rfl, rfl, rfl, rfl, rfl, rfl, rfl, rfl, rfl, rfl, rfl, rfl, rfl, rfl, rfl, rfl, rfl, rfl, rfl, rfl, rfl, rfl, rfl, rfl, rfl, rfl, rfl, rfl, rfl, rfl, rfl, rfl, rfl, rfl, rfl, rfl, rfl, rfl, rfl, rfl, rfl, rfl, rfl, rfl, rfl, rfl, rfl, rfl, rfl, rfl, rfl, rfl, rfl, rfl, rfl, rfl, rfl, rfl, rfl, rfl, rfl, rfl, rfl, rfl, rfl, rfl, rfl, rfl, rfl, rfl, rfl, rfl, rfl, rfl, rfl, rfl, rfl, rfl, rfl, rfl, rfl, rfl, rfl, rfl, rfl, rfl, rfl, rfl, rfl, rfl, rfl, rfl, rfl, rfl, rfl, rfl, rfl, rfl, rfl, rfl, congrArg (fun b => some (Value.bool b)) (show ((((putM [] (⟨0, 0, 0, 0⟩ : Cell)).length : Nat) : Int) == 1) = (((((!(((dx1 == 5) || (dx1 == 6)) || (dx1 == 8))) || ((!((recallM dx1 ((recallM dx1 dx2 dx3).1) dx3).2)) && (decide (((recallM dx1 ((recallM dx1 dx2 dx3).1) dx3).1) = ((recallM dx1 dx2 dx3).1))))) && (((!(((dx1 == 5) || (dx1 == 6)) || (dx1 == 8))) || (((leastM ((recallM dx1 dx2 dx3).1) dx3.op dx3.epoch dx3.key).2) && (decide (((leastM ((recallM dx1 dx2 dx3).1) dx3.op dx3.epoch dx3.key).1) ≤ dx3.val)))) || (dx1 == 6))) && ((!((adj dx2).all cellLt)) || ((adj ((recallM dx1 dx2 dx3).1)).all cellLt))) && ((((putM [] (⟨0, 0, 0, 0⟩ : Cell)).length : Nat) : Int) == 1)) by first | (rw [hg8, hg12, hg13, hg14, hg15, hg22, hg23, hg24] <;> rfl) | (simp [hg8, hg12, hg13, hg14, hg15, hg22, hg23, hg24]; done) | (simp only [nat_nlt] <;> simp)), trivial⟩ ⟨E, (by omega), ho2, h1, ho4, ho6, ho8, ho10, h2, ho11, ho13, ho15, h3, h4⟩)))
                    · exact absurd hg24 (by rw [recallM_adj (not_f hg23)]; decide)
                · exact absurd hg22 (by rw [recallM_six dx2 dx3 (not_f hg8) (by first | exact .inl hg15 | exact .inr hg15)]; decide)
          · exact absurd hg13 (by rw [recallM_again _ _ (not_f hg8)]; simp)
        · exact absurd hg12 (by rw [recallM_again _ _ (not_f hg8)]; simp)
    clear E ho2 h1 ho4 ho6 ho8 ho10 h2 ho11 ho13 ho15 h3 h4
    rintro w37 ⟨E, z54, ho2, h1, ho4, ho6, ho8, ho10, h2, ho11, ho13, ho15, h3, h4⟩
    refine J_st (R_assign rfl) rfl (J_done ?_)
    refine S_ret (E_done1 rfl rfl E ?_)
    exact congrArg Value.bool (recallM_fin dx1 dx2 dx3)

end Go.Proofs.Ytdmngeljbhlgmaa
