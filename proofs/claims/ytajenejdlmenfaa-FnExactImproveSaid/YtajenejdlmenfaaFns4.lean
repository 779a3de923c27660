/- What the functions that the laws call come to: a contract each; no condition. -/
import Derived.Test.YtajenejdlmenfaaFns3
namespace Go.Proofs.Ytajenejdlmenfaa
open Go Go.Proofs.Ytajenejdlmenfaa.X Go.Proofs
set_option maxHeartbeats 4000000 in
set_option maxRecDepth 20000 in
theorem l_Improve (cg : List Value) (g : Graph) (vxs : Value) (xs : List Cell) (x : Cell) (w : World) (hg : Dat.R w 0 w.heap.size cg g) (hxs : RdS w vxs xs) (_kg : okGraph g) (_kxs : ∀ y ∈ xs, okCell y) (_kx : okCell x) : Ct Try.prog 4 [.agg cg.toArray, vxs, .agg (Enc.enc x).toArray] w (fun v _ => v = .bool true) := by
  have hl1 := @improve_len1 g xs x
  have hl2 := @improve_len2 g xs x
  have hnn := @numNs_all 1 g.nodes
  have hcq : cntGraph g = cntL cntNode g.nodes := rfl
  refine ct_of Try.func4 rfl Try.ntmps4 rfl ?_
  obtain ⟨o1, rfl, hd1⟩ := Graph.op hg
  refine S_sub [(0, .agg [o1, .int .i64 g.workers, .int .i64 g.cap].toArray), (1, vxs), (2, .agg (Enc.enc x).toArray)] ⟨rfl, rfl, rfl, trivial⟩ ?_
  have E : Ext w w := Ext.refl w
  refine S_seq ?_
  refine S_reg [false, false, true] rfl rfl ?_
  refine J_box rfl rfl (fun b1 w1 e1 s1 h1 => ?_)
  have g_b1 : w.heap.size ≤ b1 := by have := E.size; omega
  have y_b1 := h1.lt
  replace E := E.trans e1
  have z1 := e1.size
  refine J_box rfl rfl (fun b2 w2 e2 s2 h2 => ?_)
  have g_b2 : w.heap.size ≤ b2 := by have := E.size; omega
  have y_b2 := h2.lt
  replace E := E.trans e2; replace h1 := h1.ext e2
  have z2 := e2.size
  refine J_st (R_assign rfl) rfl (J_done ?_)
  refine S_seq ?_
  refine S_reg [true] rfl rfl ?_
  refine J_st (R_assign rfl) rfl (J_done ?_)
  refine S_seq ?_
  refine S_reg [true, true, false, true] rfl rfl ?_
  refine J_st (R_loadS st24 rfl h1.at rfl) rfl (J_st (R_move rfl) rfl ?_)
  refine J_call Try.call5 rfl (c_szGraph [o1, .int .i64 g.workers, .int .i64 g.cap] g 1048576 _ (Graph.mkR g (RdD.any (hd1.ext E))) (by first | omega | (simp only [mkL_length]; omega) | (rw [mkL_length]; done) | (simp only [mkL_length]; done))) rfl (fun _ w3 e3 hv => ?_)
  subst hv
  replace E := E.trans e3; replace h1 := h1.ext e3; replace h2 := h2.ext e3
  have z3 := e3.size
  refine J_st (R_assign rfl) rfl (J_done ?_)
  refine S_seq ?_
  refine S_seq ?_
  refine S_reg [true, true] rfl rfl ?_
  refine J_st (R_move rfl) rfl (J_st (R_lss rfl rfl) rfl (J_done ?_))
  refine S_cond rfl (fun hc1 => ?_) (fun hc1 => ?_)
  · have q1 := szM_no hc1 (by omega)
    refine S_seq ?_
    refine S_reg [true] rfl rfl ?_
    refine J_st (R_assign rfl) rfl (J_done ?_)
    refine S_ret (E_done1 rfl rfl E ?_)
    rfl
  · have q2 := szM_ok hc1 (by omega)
    refine S_skip ?_
    refine S_seq ?_
    refine S_reg [true, true, false, true] rfl rfl ?_
    refine J_st (R_move rfl) rfl (J_st (R_move rfl) rfl ?_)
    refine J_call Try.call6 rfl (c_szCellS vxs xs (szM (cntGraph g) 1048576) _ (hxs.ext E) (by first | omega | (simp only [mkL_length]; omega) | (rw [mkL_length]; done) | (simp only [mkL_length]; done))) rfl (fun _ w4 e4 hv => ?_)
    subst hv
    replace E := E.trans e4; replace h1 := h1.ext e4; replace h2 := h2.ext e4
    have z4 := e4.size
    refine J_st (R_assign rfl) rfl (J_done ?_)
    refine S_seq ?_
    refine S_seq ?_
    refine S_reg [true, true] rfl rfl ?_
    refine J_st (R_move rfl) rfl (J_st (R_lss rfl rfl) rfl (J_done ?_))
    refine S_cond rfl (fun hc2 => ?_) (fun hc2 => ?_)
    · have q3 := szM_no hc2 (by omega)
      refine S_seq ?_
      refine S_reg [true] rfl rfl ?_
      refine J_st (R_assign rfl) rfl (J_done ?_)
      refine S_ret (E_done1 rfl rfl E ?_)
      rfl
    · have q4 := szM_ok hc2 (by omega)
      refine S_skip ?_
      refine S_seq ?_
      refine S_regD mixed [(0, true), (2, true), (4, true), (1, false), (3, false), (5, false), (6, false), (7, true), (8, true), (9, true), (10, true), (11, true)] (by decide +kernel) rfl (fun w5 e5 => ?_)
      replace E := E.trans e5; replace h1 := h1.ext e5; replace h2 := h2.ext e5
      have z5 := e5.size
      refine J_st (R_loadS st24 rfl h1.at rfl) rfl (J_st (R_move rfl) rfl (J_st (R_loadS st39 rfl h2.at rfl) rfl ?_))
      refine J_call Try.call8 rfl (c_toGraph [o1, .int .i64 g.workers, .int .i64 g.cap] g _ (Graph.mkR g (RdD.any (hd1.ext E))) (by first | omega | (simp only [mkL_length]; omega) | (rw [mkL_length]; done) | (simp only [mkL_length]; done))) rfl (fun _ w6 e6 ho1 => ?_)
      obtain ⟨o2, rfl, ho1⟩ := ho1
      have g_ho1 : w.heap.size ≤ w5.heap.size := E.size
      replace E := E.trans e6; replace h1 := h1.ext e6; replace h2 := h2.ext e6
      have z6 := e6.size
      refine J_call Try.call9 rfl (c_toCellS vxs xs _ (hxs.ext E) (by first | omega | (simp only [mkL_length]; omega) | (rw [mkL_length]; done) | (simp only [mkL_length]; done))) rfl (fun v1 w7 e7 ho2 => ?_)
      have g_ho2 : w.heap.size ≤ w6.heap.size := E.size
      replace E := E.trans e7; replace h1 := h1.ext e7; replace h2 := h2.ext e7; replace ho1 := ho1.ext e7
      have z7 := e7.size
      refine J_call Try.call14 rfl (c_toCell x _ ) rfl (fun _ w8 e8 hv => ?_)
      subst hv
      replace E := E.trans e8; replace h1 := h1.ext e8; replace h2 := h2.ext e8; replace ho1 := ho1.ext e8; replace ho2 := ho2.ext e8
      have z8 := e8.size
      refine J_call Try.call13 rfl (s_Improve [o2, .int .i64 g.workers, .int .i64 g.cap] g v1 xs x _ (Graph.mkR g (RdD.any (OwS.rd ho1))) (Own.rd (by decide) ho2) (by first | omega | (simp only [mkL_length]; omega) | (rw [mkL_length]; done) | (simp only [mkL_length]; done)) (by first | omega | (simp only [mkL_length]; omega) | (rw [mkL_length]; done) | (simp only [mkL_length]; done))) rfl (fun _ w9 e9 ho3 => ?_)
      obtain ⟨v2, v3, rfl, ho4, ho5, sp1⟩ := ho3
      have g_ho3 : w.heap.size ≤ w8.heap.size := E.size
      replace E := E.trans e9; replace h1 := h1.ext e9; replace h2 := h2.ext e9; replace ho1 := ho1.ext e9; replace ho2 := ho2.ext e9
      have z9 := e9.size
      refine J_st (R_move rfl) rfl (J_st (R_extract rfl rfl) rfl (J_st (R_extract rfl rfl) rfl (J_st (R_assign rfl) rfl (J_st (R_assign rfl) rfl (J_done ?_)))))
      refine S_seq ?_
      refine S_reg [true, false, false, false] rfl rfl ?_
      refine J_st (R_loadS st24 rfl h1.at rfl) rfl ?_
      refine J_call Try.call8 rfl (c_toGraph [o1, .int .i64 g.workers, .int .i64 g.cap] g _ (Graph.mkR g (RdD.any (hd1.ext E))) (by first | omega | (simp only [mkL_length]; omega) | (rw [mkL_length]; done) | (simp only [mkL_length]; done))) rfl (fun _ w10 e10 ho6 => ?_)
      obtain ⟨o3, rfl, ho6⟩ := ho6
      have g_ho6 : w.heap.size ≤ w9.heap.size := E.size
      replace E := E.trans e10; replace h1 := h1.ext e10; replace h2 := h2.ext e10; replace ho1 := ho1.ext e10; replace ho2 := ho2.ext e10; replace ho4 := ho4.ext e10; replace ho5 := ho5.ext e10
      have z10 := e10.size
      refine J_alloc st31 rfl (fun b3 w11 e11 s3 h3 => ?_)
      have g_b3 : w.heap.size ≤ b3 := by have := E.size; omega
      have y_b3 := h3.lt
      replace E := E.trans e11; replace h1 := h1.ext e11; replace h2 := h2.ext e11; replace ho1 := ho1.ext e11; replace ho2 := ho2.ext e11; replace ho4 := ho4.ext e11; replace ho5 := ho5.ext e11; replace ho6 := ho6.ext e11
      have z11 := e11.size
      refine J_storeS' (cs' := [o3, .int .i64 g.workers, .int .i64 g.cap]) st31 rfl rfl rfl (all_cons (RdD.one (OwS.rd ho6)) (all_cons rfl (all_cons rfl rfl))) h3 (Nat.le_of_ble_eq_true rfl) rfl (fun w12 m1 h3' => ?_)
      replace h3 := h3'
      replace E := E.step m1 (fun g hg => by cases hg; omega); replace h1 := h1.mod m1 (fun g hg => by cases hg; omega); replace h2 := h2.mod m1 (fun g hg => by cases hg; omega); replace ho1 := ho1.mod m1 (fun g hg => by cases hg; omega); replace ho2 := ho2.mod m1 (fun g hg => by cases hg; omega); replace ho4 := ho4.mod m1 (fun g hg => by cases hg; omega); replace ho5 := ho5.mod m1 (fun g hg => by cases hg; omega); replace ho6 := ho6.mod m1 (fun g hg => by cases hg; omega)
      have z12 := m1.size
      refine J_done ?_
      refine S_seq ?_
      refine S_reg [true, false, true] rfl rfl ?_
      refine J_st (R_move rfl) rfl ?_
      refine J_call Try.call9 rfl (c_toCellS vxs xs _ (hxs.ext E) (by first | omega | (simp only [mkL_length]; omega) | (rw [mkL_length]; done) | (simp only [mkL_length]; done))) rfl (fun v4 w13 e12 ho7 => ?_)
      have g_ho7 : w.heap.size ≤ w12.heap.size := E.size
      replace E := E.trans e12; replace h1 := h1.ext e12; replace h2 := h2.ext e12; replace ho1 := ho1.ext e12; replace ho2 := ho2.ext e12; replace ho4 := ho4.ext e12; replace ho5 := ho5.ext e12; replace ho6 := ho6.ext e12; replace h3 := h3.ext e12
      have z13 := e12.size
      refine J_st (R_assign rfl) rfl (J_done ?_)
      refine S_seq ?_
      refine S_regD mixed [(0, true), (1, true), (2, true), (3, false), (4, false), (5, true), (6, true), (7, true), (8, true), (9, true)] (by decide +kernel) rfl (fun w14 e13 => ?_)
      replace E := E.trans e13; replace h1 := h1.ext e13; replace h2 := h2.ext e13; replace ho1 := ho1.ext e13; replace ho2 := ho2.ext e13; replace ho4 := ho4.ext e13; replace ho5 := ho5.ext e13; replace ho6 := ho6.ext e13; replace h3 := h3.ext e13; replace ho7 := ho7.ext e13
      have z14 := e13.size
      refine J_st (R_loadS st31 rfl h3.at rfl) rfl (J_st (R_move rfl) rfl (J_st (R_loadS st39 rfl h2.at rfl) rfl ?_))
      refine J_call Try.call14 rfl (c_toCell x _ ) rfl (fun _ w15 e14 hv => ?_)
      subst hv
      replace E := E.trans e14; replace h1 := h1.ext e14; replace h2 := h2.ext e14; replace ho1 := ho1.ext e14; replace ho2 := ho2.ext e14; replace ho4 := ho4.ext e14; replace ho5 := ho5.ext e14; replace ho6 := ho6.ext e14; replace h3 := h3.ext e14; replace ho7 := ho7.ext e14
      have z15 := e14.size
      refine J_call Try.call15 rfl (c_Improve [o3, .int .i64 g.workers, .int .i64 g.cap] g v4 xs x _ (Graph.mkR g (RdD.any (OwS.rd ho6))) (Own.rd (by decide) ho7) (by first | omega | (simp only [mkL_length]; omega) | (rw [mkL_length]; done) | (simp only [mkL_length]; done))) rfl (fun _ w16 e15 ho8 => ?_)
      obtain ⟨v5, v6, rfl, ho9, ho10, sp2⟩ := ho8
      have g_ho8 : w.heap.size ≤ w15.heap.size := E.size
      replace E := E.trans e15; replace h1 := h1.ext e15; replace h2 := h2.ext e15; replace ho1 := ho1.ext e15; replace ho2 := ho2.ext e15; replace ho4 := ho4.ext e15; replace ho5 := ho5.ext e15; replace ho6 := ho6.ext e15; replace h3 := h3.ext e15; replace ho7 := ho7.ext e15
      have z16 := e15.size
      refine J_st (R_move rfl) rfl (J_st (R_extract rfl rfl) rfl (J_st (R_extract rfl rfl) rfl (J_st (R_assign rfl) rfl (J_st (R_assign rfl) rfl (J_done ?_)))))
      refine S_seq ?_
      refine S_seq ?_
      refine S_reg [true, true, false, true, true, true, true, false, true, true] rfl rfl ?_
      refine J_st (R_move rfl) rfl (J_st (R_move rfl) rfl ?_)
      refine J_call Try.call12 rfl (c_eqCellS v5 ((improveM g xs x).1) v2 ((improveM g xs x).1) _ (Own.rd (by decide) ho9) (Own.rd (by decide) ho4)) rfl (fun _ w17 e16 hv => ?_)
      subst hv
      replace E := E.trans e16; replace h1 := h1.ext e16; replace h2 := h2.ext e16; replace ho1 := ho1.ext e16; replace ho2 := ho2.ext e16; replace ho4 := ho4.ext e16; replace ho5 := ho5.ext e16; replace ho6 := ho6.ext e16; replace h3 := h3.ext e16; replace ho7 := ho7.ext e16; replace ho9 := ho9.ext e16; replace ho10 := ho10.ext e16
      have z17 := e16.size
      refine J_st (R_not rfl) rfl (J_st (R_move rfl) rfl ?_)
      refine J_cut 5 [(0, .agg [o1, .int .i64 g.workers, .int .i64 g.cap].toArray), (1, vxs), (2, .agg (Enc.enc x).toArray), (3, .pointer (some ⟨b1, 0, none⟩)), (5, .pointer (some ⟨b2, 0, none⟩)), (6, .bool false), (7, .int .i64 (szM xs.length (szM (cntGraph g) 1048576))), (8, v2), (9, v3), (10, .pointer (some ⟨b3, 0, none⟩)), (11, v4), (12, v5), (13, v6), (19, .agg [o1, .int .i64 g.workers, .int .i64 g.cap].toArray), (20, .int .i64 1048576), (21, .int .i64 (szM (cntGraph g) 1048576)), (22, .int .i64 (szM (cntGraph g) 1048576)), (23, .bool (decide ((szM (cntGraph g) 1048576) < 0))), (24, vxs), (25, .int .i64 (szM (cntGraph g) 1048576)), (26, .int .i64 (szM xs.length (szM (cntGraph g) 1048576))), (27, .int .i64 (szM xs.length (szM (cntGraph g) 1048576))), (28, .bool (decide ((szM xs.length (szM (cntGraph g) 1048576)) < 0))), (29, .tuple [v2, v3].toArray), (30, .agg [o1, .int .i64 g.workers, .int .i64 g.cap].toArray), (31, .agg [o2, .int .i64 g.workers, .int .i64 g.cap].toArray), (32, vxs), (33, v1), (34, .agg (Enc.enc x).toArray), (35, .agg (Enc.enc x).toArray), (36, .tuple [v2, v3].toArray), (37, v2), (38, v3), (39, .agg [o1, .int .i64 g.workers, .int .i64 g.cap].toArray), (40, .agg [o3, .int .i64 g.workers, .int .i64 g.cap].toArray), (41, vxs), (42, v4), (43, .tuple [v5, v6].toArray), (44, .agg [o3, .int .i64 g.workers, .int .i64 g.cap].toArray), (45, v4), (46, .agg (Enc.enc x).toArray), (47, .agg (Enc.enc x).toArray), (48, .tuple [v5, v6].toArray), (49, v5), (50, v6), (60, .bool ((!(decide (((improveM g xs x).1) = ((improveM g xs x).1)))) || (!(decide (((improveM g xs x).2) = ((improveM g xs x).2))))))] (fun w' => Ext w w' ∧ w17.heap.size ≤ w'.heap.size ∧ Blk w' b1 ([o1, .int .i64 g.workers, .int .i64 g.cap]) ∧ Blk w' b2 (Enc.enc x) ∧ OwS w' w5.heap.size w6.heap.size o2 g.nodes ∧ Own w' w6.heap.size w7.heap.size 4 v1 (List.flatMap (Enc.enc (α := Cell)) xs) ∧ Own w' w8.heap.size w9.heap.size 4 v2 (List.flatMap (Enc.enc (α := Cell)) ((improveM g xs x).1)) ∧ Own w' w8.heap.size w9.heap.size 4 v3 (List.flatMap (Enc.enc (α := Cell)) ((improveM g xs x).2)) ∧ OwS w' w9.heap.size w10.heap.size o3 g.nodes ∧ Blk w' b3 [o3, .int .i64 g.workers, .int .i64 g.cap] ∧ Own w' w12.heap.size w13.heap.size 4 v4 (List.flatMap (Enc.enc (α := Cell)) xs) ∧ Own w' w15.heap.size w16.heap.size 4 v5 (List.flatMap (Enc.enc (α := Cell)) ((improveM g xs x).1)) ∧ Own w' w15.heap.size w16.heap.size 4 v6 (List.flatMap (Enc.enc (α := Cell)) ((improveM g xs x).2))) ?_ ?_
      · refine J_if (gd := 55) rfl rfl (fun hg1 => ?_) (fun hg1 => ?_)
        · exact absurd hg1 (by first | (simp; done) | (simp only [nat_nlt] <;> simp) | (simp only [mkL_length, nat_nlt] <;> simp) | (simp only [mkL_length] <;> simp))
        · refine J_gd rfl rfl (R_move rfl) rfl (J_gd rfl rfl (R_move rfl) rfl ?_)
          refine J_ung rfl rfl ?_
          refine J_call Try.call12 rfl (c_eqCellS v6 ((improveM g xs x).2) v3 ((improveM g xs x).2) _ (Own.rd (by decide) ho10) (Own.rd (by decide) ho5)) rfl (fun _ w19 e17 hv => ?_)
          subst hv
          replace E := E.trans e17; replace h1 := h1.ext e17; replace h2 := h2.ext e17; replace ho1 := ho1.ext e17; replace ho2 := ho2.ext e17; replace ho4 := ho4.ext e17; replace ho5 := ho5.ext e17; replace ho6 := ho6.ext e17; replace h3 := h3.ext e17; replace ho7 := ho7.ext e17; replace ho9 := ho9.ext e17; replace ho10 := ho10.ext e17
          have z18 := e17.size
          refine J_gd rfl rfl (R_not rfl) rfl (J_st (R_pickF rfl rfl) rfl (J_cutEnd ⟨rfl, rfl, rfl, rfl, rfl, rfl, rfl, rfl, rfl, rfl, rfl, rfl, rfl, rfl, rfl, rfl, rfl, rfl, rfl, rfl, rfl, rfl, rfl, rfl, rfl, rfl, rfl, rfl, rfl, rfl, rfl, rfl, rfl, rfl, rfl, rfl, rfl, rfl, rfl, rfl, rfl, rfl, rfl, rfl, rfl, congrArg (fun b => some (Value.bool b)) (show (!(decide (((improveM g xs x).2) = ((improveM g xs x).2)))) = ((!(decide (((improveM g xs x).1) = ((improveM g xs x).1)))) || (!(decide (((improveM g xs x).2) = ((improveM g xs x).2))))) by first | (rw [hg1] <;> rfl) | (simp [hg1]; done) | (simp only [nat_nlt] <;> simp)), trivial⟩ ⟨E, (by omega), h1, h2, ho1, ho2, ho4, ho5, ho6, h3, ho7, ho9, ho10⟩))
      clear E h1 h2 ho1 ho2 ho4 ho5 ho6 h3 ho7 ho9 ho10
      rintro w18 ⟨E, z19, h1, h2, ho1, ho2, ho4, ho5, ho6, h3, ho7, ho9, ho10⟩
      refine J_done ?_
      refine S_condFe rfl (by first | (simp; done) | (simp only [nat_nlt] <;> simp) | (simp only [mkL_length, nat_nlt] <;> simp) | (simp only [mkL_length] <;> simp)) ?_
      refine S_skip ?_
      refine S_seq ?_
      refine S_seq ?_
      refine S_regD mixed [(0, true), (1, true), (2, false), (3, false), (4, true)] (by decide +kernel) rfl (fun w20 e18 => ?_)
      replace E := E.trans e18; replace h1 := h1.ext e18; replace h2 := h2.ext e18; replace ho1 := ho1.ext e18; replace ho2 := ho2.ext e18; replace ho4 := ho4.ext e18; replace ho5 := ho5.ext e18; replace ho6 := ho6.ext e18; replace h3 := h3.ext e18; replace ho7 := ho7.ext e18; replace ho9 := ho9.ext e18; replace ho10 := ho10.ext e18
      have z20 := e18.size
      refine J_st (R_loadS st31 rfl h3.at rfl) rfl (J_st (R_loadS st24 rfl h1.at rfl) rfl ?_)
      refine J_call Try.call8 rfl (c_toGraph [o1, .int .i64 g.workers, .int .i64 g.cap] g _ (Graph.mkR g (RdD.any (hd1.ext E))) (by first | omega | (simp only [mkL_length]; omega) | (rw [mkL_length]; done) | (simp only [mkL_length]; done))) rfl (fun _ w21 e19 ho11 => ?_)
      obtain ⟨o4, rfl, ho11⟩ := ho11
      have g_ho11 : w.heap.size ≤ w20.heap.size := E.size
      replace E := E.trans e19; replace h1 := h1.ext e19; replace h2 := h2.ext e19; replace ho1 := ho1.ext e19; replace ho2 := ho2.ext e19; replace ho4 := ho4.ext e19; replace ho5 := ho5.ext e19; replace ho6 := ho6.ext e19; replace h3 := h3.ext e19; replace ho7 := ho7.ext e19; replace ho9 := ho9.ext e19; replace ho10 := ho10.ext e19
      have z21 := e19.size
      refine J_call Try.call11 rfl (c_eqGraph [o3, .int .i64 g.workers, .int .i64 g.cap] g [o4, .int .i64 g.workers, .int .i64 g.cap] g _ (Graph.mkR g (RdD.any (OwS.rd ho6))) (Graph.mkR g (RdD.any (OwS.rd ho11)))) rfl (fun _ w22 e20 hv => ?_)
      subst hv
      replace E := E.trans e20; replace h1 := h1.ext e20; replace h2 := h2.ext e20; replace ho1 := ho1.ext e20; replace ho2 := ho2.ext e20; replace ho4 := ho4.ext e20; replace ho5 := ho5.ext e20; replace ho6 := ho6.ext e20; replace h3 := h3.ext e20; replace ho7 := ho7.ext e20; replace ho9 := ho9.ext e20; replace ho10 := ho10.ext e20; replace ho11 := ho11.ext e20
      have z22 := e20.size
      refine J_st (R_not rfl) rfl (J_done ?_)
      refine S_condFe rfl (by first | (simp; done) | (simp only [nat_nlt] <;> simp) | (simp only [mkL_length, nat_nlt] <;> simp) | (simp only [mkL_length] <;> simp)) ?_
      refine S_skip ?_
      refine S_seq ?_
      refine S_seq ?_
      refine S_reg [true, true, false, false, true] rfl rfl ?_
      refine J_st (R_move rfl) rfl (J_st (R_move rfl) rfl ?_)
      refine J_call Try.call9 rfl (c_toCellS vxs xs _ (hxs.ext E) (by first | omega | (simp only [mkL_length]; omega) | (rw [mkL_length]; done) | (simp only [mkL_length]; done))) rfl (fun v7 w23 e21 ho12 => ?_)
      have g_ho12 : w.heap.size ≤ w22.heap.size := E.size
      replace E := E.trans e21; replace h1 := h1.ext e21; replace h2 := h2.ext e21; replace ho1 := ho1.ext e21; replace ho2 := ho2.ext e21; replace ho4 := ho4.ext e21; replace ho5 := ho5.ext e21; replace ho6 := ho6.ext e21; replace h3 := h3.ext e21; replace ho7 := ho7.ext e21; replace ho9 := ho9.ext e21; replace ho10 := ho10.ext e21; replace ho11 := ho11.ext e21
      have z23 := e21.size
      refine J_call Try.call12 rfl (c_eqCellS v4 xs v7 xs _ (Own.rd (by decide) ho7) (Own.rd (by decide) ho12)) rfl (fun _ w24 e22 hv => ?_)
      subst hv
      replace E := E.trans e22; replace h1 := h1.ext e22; replace h2 := h2.ext e22; replace ho1 := ho1.ext e22; replace ho2 := ho2.ext e22; replace ho4 := ho4.ext e22; replace ho5 := ho5.ext e22; replace ho6 := ho6.ext e22; replace h3 := h3.ext e22; replace ho7 := ho7.ext e22; replace ho9 := ho9.ext e22; replace ho10 := ho10.ext e22; replace ho11 := ho11.ext e22; replace ho12 := ho12.ext e22
      have z24 := e22.size
      refine J_st (R_not rfl) rfl (J_done ?_)
      refine S_condFe rfl (by first | (simp; done) | (simp only [nat_nlt] <;> simp) | (simp only [mkL_length, nat_nlt] <;> simp) | (simp only [mkL_length] <;> simp)) ?_
      refine S_skip ?_
      refine S_seq ?_
      refine S_reg [true] rfl rfl ?_
      refine J_st (R_assign rfl) rfl (J_done ?_)
      refine S_seq ?_
      refine S_reg [true, true, false, true] rfl rfl ?_
      refine J_st (R_loadS st31 rfl h3.at rfl) rfl (J_st (R_move rfl) rfl ?_)
      refine J_callR Try.call16 rfl rfl (markGraph o3 w9.heap.size w10.heap.size g 1 _ ho6 (by omega) (by first | omega | (simp only [mkL_length]; omega) | (rw [mkL_length]; done) | (simp only [mkL_length]; done))) rfl (fun _ w25 e23 hv => ?_)
      obtain ⟨rfl, ho6'⟩ := hv
      replace ho6 := ho6'
      replace E := E.stepR e23 (by omega); replace h1 := h1.modR e23 (by omega); replace h2 := h2.modR e23 (by omega); replace ho1 := ho1.modR e23 (by omega); replace ho2 := ho2.modR e23 (by omega); replace ho4 := ho4.modR e23 (by omega); replace ho5 := ho5.modR e23 (by omega); replace h3 := h3.modR e23 (by omega); replace ho7 := ho7.modR e23 (by omega); replace ho9 := ho9.modR e23 (by omega); replace ho10 := ho10.modR e23 (by omega); replace ho11 := ho11.modR e23 (by omega); replace ho12 := ho12.modR e23 (by omega)
      have z25 := e23.size
      refine J_st (R_assign rfl) rfl (J_done ?_)
      refine S_seq ?_
      refine S_reg [true, true, false, true] rfl rfl ?_
      refine J_st (R_move rfl) rfl (J_st (R_move rfl) rfl ?_)
      refine J_callR Try.call17 rfl rfl (markCellS v4 w12.heap.size w13.heap.size xs (numNs 1 g.nodes) _ ho7 (by first | omega | (simp only [mkL_length]; omega) | (rw [mkL_length]; done) | (simp only [mkL_length]; done))) rfl (fun _ w26 e24 hv => ?_)
      obtain ⟨rfl, ho7'⟩ := hv
      replace ho7 := ho7'
      replace E := E.stepR e24 (by omega); replace h1 := h1.modR e24 (by omega); replace h2 := h2.modR e24 (by omega); replace ho1 := ho1.modR e24 (by omega); replace ho2 := ho2.modR e24 (by omega); replace ho4 := ho4.modR e24 (by omega); replace ho5 := ho5.modR e24 (by omega); replace ho6 := ho6.modR e24 (by omega); replace h3 := h3.modR e24 (by omega); replace ho9 := ho9.modR e24 (by omega); replace ho10 := ho10.modR e24 (by omega); replace ho11 := ho11.modR e24 (by omega); replace ho12 := ho12.modR e24 (by omega)
      have z26 := e24.size
      refine J_st (R_assign rfl) rfl (J_done ?_)
      refine S_seq ?_
      refine S_seq ?_
      refine S_reg [true, true, true, true, true, false, true, true, true, true, true, false, true, true] rfl rfl ?_
      refine J_st (R_move rfl) rfl (J_st (R_lss rfl rfl) rfl (J_st (R_move rfl) rfl ?_))
      refine J_cut 11 [(0, .agg [o1, .int .i64 g.workers, .int .i64 g.cap].toArray), (1, vxs), (2, .agg (Enc.enc x).toArray), (3, .pointer (some ⟨b1, 0, none⟩)), (5, .pointer (some ⟨b2, 0, none⟩)), (6, .bool false), (7, .int .i64 (szM xs.length (szM (cntGraph g) 1048576))), (8, v2), (9, v3), (10, .pointer (some ⟨b3, 0, none⟩)), (11, v4), (12, v5), (13, v6), (14, .int .i64 (((numNs 1 g.nodes) + 4 * xs.length : Nat) : Int)), (19, .agg [o1, .int .i64 g.workers, .int .i64 g.cap].toArray), (20, .int .i64 1048576), (21, .int .i64 (szM (cntGraph g) 1048576)), (22, .int .i64 (szM (cntGraph g) 1048576)), (23, .bool (decide ((szM (cntGraph g) 1048576) < 0))), (24, vxs), (25, .int .i64 (szM (cntGraph g) 1048576)), (26, .int .i64 (szM xs.length (szM (cntGraph g) 1048576))), (27, .int .i64 (szM xs.length (szM (cntGraph g) 1048576))), (28, .bool (decide ((szM xs.length (szM (cntGraph g) 1048576)) < 0))), (29, .tuple [v2, v3].toArray), (30, .agg [o1, .int .i64 g.workers, .int .i64 g.cap].toArray), (31, .agg [o2, .int .i64 g.workers, .int .i64 g.cap].toArray), (32, vxs), (33, v1), (34, .agg (Enc.enc x).toArray), (35, .agg (Enc.enc x).toArray), (36, .tuple [v2, v3].toArray), (37, v2), (38, v3), (39, .agg [o1, .int .i64 g.workers, .int .i64 g.cap].toArray), (40, .agg [o3, .int .i64 g.workers, .int .i64 g.cap].toArray), (41, vxs), (42, v4), (43, .tuple [v5, v6].toArray), (44, .agg [o3, .int .i64 g.workers, .int .i64 g.cap].toArray), (45, v4), (46, .agg (Enc.enc x).toArray), (47, .agg (Enc.enc x).toArray), (48, .tuple [v5, v6].toArray), (49, v5), (50, v6), (60, .bool ((!(decide (((improveM g xs x).1) = ((improveM g xs x).1)))) || (!(decide (((improveM g xs x).2) = ((improveM g xs x).2)))))), (61, .agg [o3, .int .i64 g.workers, .int .i64 g.cap].toArray), (62, .agg [o1, .int .i64 g.workers, .int .i64 g.cap].toArray), (63, .agg [o4, .int .i64 g.workers, .int .i64 g.cap].toArray), (64, .bool (decide (g = g))), (65, .bool (!(decide (g = g)))), (66, v4), (67, vxs), (68, v7), (69, .bool (decide (xs = xs))), (70, .bool (!(decide (xs = xs)))), (71, .agg [o3, .int .i64 g.workers, .int .i64 g.cap].toArray), (72, .int .i64 1), (73, .int .i64 ((numNs 1 g.nodes : Nat) : Int)), (74, v4), (75, .int .i64 ((numNs 1 g.nodes : Nat) : Int)), (76, .int .i64 (((numNs 1 g.nodes) + 4 * xs.length : Nat) : Int)), (90, .bool (((decide ((((numNs 1 g.nodes) + 4 * xs.length : Nat) : Int) < 0)) || (!(decide (((improveM g xs x).1) = ((improveM g xs x).1))))) || (!(decide (((improveM g xs x).2) = ((improveM g xs x).2))))))] (fun w' => Ext w w' ∧ w26.heap.size ≤ w'.heap.size ∧ Blk w' b1 ([o1, .int .i64 g.workers, .int .i64 g.cap]) ∧ Blk w' b2 (Enc.enc x) ∧ OwS w' w5.heap.size w6.heap.size o2 g.nodes ∧ Own w' w6.heap.size w7.heap.size 4 v1 (List.flatMap (Enc.enc (α := Cell)) xs) ∧ Own w' w8.heap.size w9.heap.size 4 v2 (List.flatMap (Enc.enc (α := Cell)) ((improveM g xs x).1)) ∧ Own w' w8.heap.size w9.heap.size 4 v3 (List.flatMap (Enc.enc (α := Cell)) ((improveM g xs x).2)) ∧ OwS w' w9.heap.size w10.heap.size o3 (markNs 1 g.nodes) ∧ Blk w' b3 [o3, .int .i64 g.workers, .int .i64 g.cap] ∧ Own w' w12.heap.size w13.heap.size 4 v4 (List.flatMap (Enc.enc (α := Cell)) (mkL 4 mkCell (numNs 1 g.nodes) xs.length)) ∧ Own w' w15.heap.size w16.heap.size 4 v5 (List.flatMap (Enc.enc (α := Cell)) ((improveM g xs x).1)) ∧ Own w' w15.heap.size w16.heap.size 4 v6 (List.flatMap (Enc.enc (α := Cell)) ((improveM g xs x).2)) ∧ OwS w' w20.heap.size w21.heap.size o4 g.nodes ∧ Own w' w22.heap.size w23.heap.size 4 v7 (List.flatMap (Enc.enc (α := Cell)) xs)) ?_ ?_
      · refine J_if (gd := 79) rfl rfl (fun hg2 => ?_) (fun hg2 => ?_)
        · exact absurd hg2 (by first | (simp; done) | (simp only [nat_nlt] <;> simp) | (simp only [mkL_length, nat_nlt] <;> simp) | (simp only [mkL_length] <;> simp))
        · have hg2n : ¬ (numNs 1 g.nodes) + 4 * xs.length < 0 := by first | (have h := of_decide_eq_false hg2; omega) | (have h := hg2; simp at h; omega)
          refine J_gd rfl rfl (R_move rfl) rfl (J_gd rfl rfl (R_move rfl) rfl ?_)
          refine J_ung rfl rfl ?_
          refine J_call Try.call12 rfl (c_eqCellS v5 ((improveM g xs x).1) v2 ((improveM g xs x).1) _ (Own.rd (by decide) ho9) (Own.rd (by decide) ho4)) rfl (fun _ w28 e25 hv => ?_)
          subst hv
          replace E := E.trans e25; replace h1 := h1.ext e25; replace h2 := h2.ext e25; replace ho1 := ho1.ext e25; replace ho2 := ho2.ext e25; replace ho4 := ho4.ext e25; replace ho5 := ho5.ext e25; replace ho6 := ho6.ext e25; replace h3 := h3.ext e25; replace ho7 := ho7.ext e25; replace ho9 := ho9.ext e25; replace ho10 := ho10.ext e25; replace ho11 := ho11.ext e25; replace ho12 := ho12.ext e25
          have z27 := e25.size
          refine J_gd rfl rfl (R_not rfl) rfl (J_st (R_pickF rfl rfl) rfl (J_st (R_move rfl) rfl ?_))
          refine J_if (gd := 85) rfl rfl (fun hg3 => ?_) (fun hg3 => ?_)
          · exact absurd hg3 (by first | (simp; done) | (simp only [nat_nlt] <;> simp) | (simp only [mkL_length, nat_nlt] <;> simp) | (simp only [mkL_length] <;> simp))
          · refine J_gd rfl rfl (R_move rfl) rfl (J_gd rfl rfl (R_move rfl) rfl ?_)
            refine J_ung rfl rfl ?_
            refine J_call Try.call12 rfl (c_eqCellS v6 ((improveM g xs x).2) v3 ((improveM g xs x).2) _ (Own.rd (by decide) ho10) (Own.rd (by decide) ho5)) rfl (fun _ w29 e26 hv => ?_)
            subst hv
            replace E := E.trans e26; replace h1 := h1.ext e26; replace h2 := h2.ext e26; replace ho1 := ho1.ext e26; replace ho2 := ho2.ext e26; replace ho4 := ho4.ext e26; replace ho5 := ho5.ext e26; replace ho6 := ho6.ext e26; replace h3 := h3.ext e26; replace ho7 := ho7.ext e26; replace ho9 := ho9.ext e26; replace ho10 := ho10.ext e26; replace ho11 := ho11.ext e26; replace ho12 := ho12.ext e26
            have z28 := e26.size
            refine J_gd rfl rfl (R_not rfl) rfl (J_st (R_pickF rfl rfl) rfl (J_cutEnd ⟨rfl, rfl, rfl, rfl, rfl, rfl, rfl, rfl, rfl, rfl, rfl, rfl, rfl, rfl, rfl, rfl, rfl, rfl, rfl, rfl, rfl, rfl, rfl, rfl, rfl, rfl, rfl, rfl, rfl, rfl, rfl, rfl, rfl, rfl, rfl, rfl, rfl, rfl, rfl, rfl, rfl, rfl, rfl, rfl, rfl, rfl, rfl, rfl, rfl, rfl, rfl, rfl, rfl, rfl, rfl, rfl, rfl, rfl, rfl, rfl, rfl, rfl, rfl, congrArg (fun b => some (Value.bool b)) (show (!(decide (((improveM g xs x).2) = ((improveM g xs x).2)))) = (((decide ((((numNs 1 g.nodes) + 4 * xs.length : Nat) : Int) < 0)) || (!(decide (((improveM g xs x).1) = ((improveM g xs x).1))))) || (!(decide (((improveM g xs x).2) = ((improveM g xs x).2))))) by first | (rw [hg2, hg3] <;> rfl) | (simp [hg2, hg3]; done) | (simp only [nat_nlt] <;> simp)), trivial⟩ ⟨E, (by omega), h1, h2, ho1, ho2, ho4, ho5, ho6, h3, ho7, ho9, ho10, ho11, ho12⟩))
      clear E h1 h2 ho1 ho2 ho4 ho5 ho6 h3 ho7 ho9 ho10 ho11 ho12
      rintro w27 ⟨E, z29, h1, h2, ho1, ho2, ho4, ho5, ho6, h3, ho7, ho9, ho10, ho11, ho12⟩
      refine J_done ?_
      refine S_condFe rfl (by first | (simp; done) | (simp only [nat_nlt] <;> simp) | (simp only [mkL_length, nat_nlt] <;> simp) | (simp only [mkL_length] <;> simp)) ?_
      refine S_skip ?_
      refine S_seq ?_
      refine S_reg [true] rfl rfl ?_
      refine J_st (R_assign rfl) rfl (J_done ?_)
      refine S_seq ?_
      refine S_reg [true, true, false, true] rfl rfl ?_
      refine J_st (R_move rfl) rfl (J_st (R_move rfl) rfl ?_)
      refine J_callR Try.call17 rfl rfl (markCellS v5 (bl v5) (bh v5) ((improveM g xs x).1) 1 _ (Own.tight ho9) (by first | omega | (simp only [mkL_length]; omega) | (rw [mkL_length]; done) | (simp only [mkL_length]; done))) rfl (fun _ w30 e27 hv => ?_)
      obtain ⟨rfl, ho9'⟩ := hv
      have e27c := ModR.loose e27 (Own.blk ho9)
      replace ho9 := Own.loose ho9' (Own.blk ho9)
      clear ho9'
      replace E := E.stepR e27c (by omega); replace h1 := h1.modR e27c (by omega); replace h2 := h2.modR e27c (by omega); replace ho1 := ho1.modR e27c (by omega); replace ho2 := ho2.modR e27c (by omega); replace ho4 := ho4.modR e27c (by omega); replace ho5 := ho5.modR e27c (by omega); replace ho6 := ho6.modR e27c (by omega); replace h3 := h3.modR e27c (by omega); replace ho7 := ho7.modR e27c (by omega); replace ho10 := Own.modRS ho10 e27 sp2.1.1; replace ho11 := ho11.modR e27c (by omega); replace ho12 := ho12.modR e27c (by omega)
      have z30 := e27c.size
      refine J_st (R_assign rfl) rfl (J_done ?_)
      refine S_seq ?_
      refine S_reg [true, true, false, true] rfl rfl ?_
      refine J_st (R_move rfl) rfl (J_st (R_move rfl) rfl ?_)
      refine J_callR Try.call17 rfl rfl (markCellS v6 (bl v6) (bh v6) ((improveM g xs x).2) (1 + 4 * ((improveM g xs x).1).length) _ (Own.tight ho10) (by first | omega | (simp only [mkL_length]; omega) | (rw [mkL_length]; done) | (simp only [mkL_length]; done))) rfl (fun _ w31 e28 hv => ?_)
      obtain ⟨rfl, ho10'⟩ := hv
      have e28c := ModR.loose e28 (Own.blk ho10)
      replace ho10 := Own.loose ho10' (Own.blk ho10)
      clear ho10'
      replace E := E.stepR e28c (by omega); replace h1 := h1.modR e28c (by omega); replace h2 := h2.modR e28c (by omega); replace ho1 := ho1.modR e28c (by omega); replace ho2 := ho2.modR e28c (by omega); replace ho4 := ho4.modR e28c (by omega); replace ho5 := ho5.modR e28c (by omega); replace ho6 := ho6.modR e28c (by omega); replace h3 := h3.modR e28c (by omega); replace ho7 := ho7.modR e28c (by omega); replace ho9 := Own.modRS ho9 e28 (sp2.1.1).symm; replace ho11 := ho11.modR e28c (by omega); replace ho12 := ho12.modR e28c (by omega)
      have z31 := e28c.size
      refine J_st (R_assign rfl) rfl (J_done ?_)
      refine S_seq ?_
      refine S_reg [true] rfl rfl ?_
      refine J_st (R_assign rfl) rfl (J_done ?_)
      refine S_seq ?_
      refine S_reg [true, true, false, true] rfl rfl ?_
      refine J_st (R_move rfl) rfl (J_st (R_move rfl) rfl ?_)
      refine J_call Try.call18 rfl (heldCellS v5 (mkL 4 mkCell 1 ((improveM g xs x).1).length) 1 _ (Own.rd (by decide) ho9) (by first | omega | (simp only [mkL_length]; omega) | (rw [mkL_length]; done) | (simp only [mkL_length]; done)) (by first | omega | (simp only [mkL_length]; omega) | (rw [mkL_length]; done) | (simp only [mkL_length]; done))) rfl (fun _ w32 e29 hv => ?_)
      subst hv
      replace E := E.trans e29; replace h1 := h1.ext e29; replace h2 := h2.ext e29; replace ho1 := ho1.ext e29; replace ho2 := ho2.ext e29; replace ho4 := ho4.ext e29; replace ho5 := ho5.ext e29; replace ho6 := ho6.ext e29; replace h3 := h3.ext e29; replace ho7 := ho7.ext e29; replace ho9 := ho9.ext e29; replace ho10 := ho10.ext e29; replace ho11 := ho11.ext e29; replace ho12 := ho12.ext e29
      have z32 := e29.size
      refine J_st (R_assign rfl) rfl (J_done ?_)
      refine S_seq ?_
      refine S_seq ?_
      refine S_reg [true, true] rfl rfl ?_
      refine J_st (R_move rfl) rfl (J_st (R_lss rfl rfl) rfl (J_done ?_))
      refine S_condFe rfl (by first | (simp; done) | (simp only [nat_nlt] <;> simp) | (simp only [mkL_length, nat_nlt] <;> simp) | (simp only [mkL_length] <;> simp)) ?_
      refine S_skip ?_
      refine S_seq ?_
      refine S_reg [true, true, false, true] rfl rfl ?_
      refine J_st (R_move rfl) rfl (J_st (R_move rfl) rfl ?_)
      refine J_call Try.call18 rfl (heldCellS v6 (mkL 4 mkCell (1 + 4 * ((improveM g xs x).1).length) ((improveM g xs x).2).length) (1 + 4 * (mkL 4 mkCell 1 ((improveM g xs x).1).length).length) _ (Own.rd (by decide) ho10) (by first | omega | (simp only [mkL_length]; omega) | (rw [mkL_length]; done) | (simp only [mkL_length]; done)) (by first | omega | (simp only [mkL_length]; omega) | (rw [mkL_length]; done) | (simp only [mkL_length]; done))) rfl (fun _ w33 e30 hv => ?_)
      subst hv
      replace E := E.trans e30; replace h1 := h1.ext e30; replace h2 := h2.ext e30; replace ho1 := ho1.ext e30; replace ho2 := ho2.ext e30; replace ho4 := ho4.ext e30; replace ho5 := ho5.ext e30; replace ho6 := ho6.ext e30; replace h3 := h3.ext e30; replace ho7 := ho7.ext e30; replace ho9 := ho9.ext e30; replace ho10 := ho10.ext e30; replace ho11 := ho11.ext e30; replace ho12 := ho12.ext e30
      have z33 := e30.size
      refine J_st (R_assign rfl) rfl (J_done ?_)
      refine S_seq ?_
      refine S_seq ?_
      refine S_reg [true, true] rfl rfl ?_
      refine J_st (R_move rfl) rfl (J_st (R_lss rfl rfl) rfl (J_done ?_))
      refine S_condFe rfl (by first | (simp; done) | (simp only [nat_nlt] <;> simp) | (simp only [mkL_length, nat_nlt] <;> simp) | (simp only [mkL_length] <;> simp)) ?_
      refine S_skip ?_
      refine S_seq ?_
      refine S_seq ?_
      refine S_reg [true, true, true] rfl rfl ?_
      refine J_st (R_move rfl) rfl (J_st (R_move rfl) rfl (J_st (R_neq rfl rfl) rfl (J_done ?_)))
      refine S_condFe rfl (by first | (simp; done) | (simp only [nat_nlt] <;> simp) | (simp only [mkL_length, nat_nlt] <;> simp) | (simp only [mkL_length] <;> simp)) ?_
      refine S_skip ?_
      refine S_seq ?_
      refine S_regD mixed [(0, true), (2, true), (4, true), (1, false), (3, false), (5, false), (6, false), (7, true), (8, true), (9, true), (10, true), (11, true)] (by decide +kernel) rfl (fun w34 e31 => ?_)
      replace E := E.trans e31; replace h1 := h1.ext e31; replace h2 := h2.ext e31; replace ho1 := ho1.ext e31; replace ho2 := ho2.ext e31; replace ho4 := ho4.ext e31; replace ho5 := ho5.ext e31; replace ho6 := ho6.ext e31; replace h3 := h3.ext e31; replace ho7 := ho7.ext e31; replace ho9 := ho9.ext e31; replace ho10 := ho10.ext e31; replace ho11 := ho11.ext e31; replace ho12 := ho12.ext e31
      have z34 := e31.size
      refine J_st (R_loadS st24 rfl h1.at rfl) rfl (J_st (R_move rfl) rfl (J_st (R_loadS st39 rfl h2.at rfl) rfl ?_))
      refine J_call Try.call8 rfl (c_toGraph [o1, .int .i64 g.workers, .int .i64 g.cap] g _ (Graph.mkR g (RdD.any (hd1.ext E))) (by first | omega | (simp only [mkL_length]; omega) | (rw [mkL_length]; done) | (simp only [mkL_length]; done))) rfl (fun _ w35 e32 ho13 => ?_)
      obtain ⟨o5, rfl, ho13⟩ := ho13
      have g_ho13 : w.heap.size ≤ w34.heap.size := E.size
      replace E := E.trans e32; replace h1 := h1.ext e32; replace h2 := h2.ext e32; replace ho1 := ho1.ext e32; replace ho2 := ho2.ext e32; replace ho4 := ho4.ext e32; replace ho5 := ho5.ext e32; replace ho6 := ho6.ext e32; replace h3 := h3.ext e32; replace ho7 := ho7.ext e32; replace ho9 := ho9.ext e32; replace ho10 := ho10.ext e32; replace ho11 := ho11.ext e32; replace ho12 := ho12.ext e32
      have z35 := e32.size
      refine J_call Try.call9 rfl (c_toCellS vxs xs _ (hxs.ext E) (by first | omega | (simp only [mkL_length]; omega) | (rw [mkL_length]; done) | (simp only [mkL_length]; done))) rfl (fun v8 w36 e33 ho14 => ?_)
      have g_ho14 : w.heap.size ≤ w35.heap.size := E.size
      replace E := E.trans e33; replace h1 := h1.ext e33; replace h2 := h2.ext e33; replace ho1 := ho1.ext e33; replace ho2 := ho2.ext e33; replace ho4 := ho4.ext e33; replace ho5 := ho5.ext e33; replace ho6 := ho6.ext e33; replace h3 := h3.ext e33; replace ho7 := ho7.ext e33; replace ho9 := ho9.ext e33; replace ho10 := ho10.ext e33; replace ho11 := ho11.ext e33; replace ho12 := ho12.ext e33; replace ho13 := ho13.ext e33
      have z36 := e33.size
      refine J_call Try.call14 rfl (c_toCell x _ ) rfl (fun _ w37 e34 hv => ?_)
      subst hv
      replace E := E.trans e34; replace h1 := h1.ext e34; replace h2 := h2.ext e34; replace ho1 := ho1.ext e34; replace ho2 := ho2.ext e34; replace ho4 := ho4.ext e34; replace ho5 := ho5.ext e34; replace ho6 := ho6.ext e34; replace h3 := h3.ext e34; replace ho7 := ho7.ext e34; replace ho9 := ho9.ext e34; replace ho10 := ho10.ext e34; replace ho11 := ho11.ext e34; replace ho12 := ho12.ext e34; replace ho13 := ho13.ext e34; replace ho14 := ho14.ext e34
      have z37 := e34.size
      refine J_call Try.call15 rfl (c_Improve [o5, .int .i64 g.workers, .int .i64 g.cap] g v8 xs x _ (Graph.mkR g (RdD.any (OwS.rd ho13))) (Own.rd (by decide) ho14) (by first | omega | (simp only [mkL_length]; omega) | (rw [mkL_length]; done) | (simp only [mkL_length]; done))) rfl (fun _ w38 e35 ho15 => ?_)
      obtain ⟨v9, v10, rfl, ho16, ho17, sp3⟩ := ho15
      have g_ho15 : w.heap.size ≤ w37.heap.size := E.size
      replace E := E.trans e35; replace h1 := h1.ext e35; replace h2 := h2.ext e35; replace ho1 := ho1.ext e35; replace ho2 := ho2.ext e35; replace ho4 := ho4.ext e35; replace ho5 := ho5.ext e35; replace ho6 := ho6.ext e35; replace h3 := h3.ext e35; replace ho7 := ho7.ext e35; replace ho9 := ho9.ext e35; replace ho10 := ho10.ext e35; replace ho11 := ho11.ext e35; replace ho12 := ho12.ext e35; replace ho13 := ho13.ext e35; replace ho14 := ho14.ext e35
      have z38 := e35.size
      refine J_st (R_move rfl) rfl (J_st (R_extract rfl rfl) rfl (J_st (R_extract rfl rfl) rfl (J_st (R_assign rfl) rfl (J_st (R_assign rfl) rfl (J_done ?_)))))
      refine S_seq ?_
      refine S_seq ?_
      refine S_reg [true, true, false, true, true, true, true, false, true, true] rfl rfl ?_
      refine J_st (R_move rfl) rfl (J_st (R_move rfl) rfl ?_)
      refine J_call Try.call12 rfl (c_eqCellS v9 ((improveM g xs x).1) v2 ((improveM g xs x).1) _ (Own.rd (by decide) ho16) (Own.rd (by decide) ho4)) rfl (fun _ w39 e36 hv => ?_)
      subst hv
      replace E := E.trans e36; replace h1 := h1.ext e36; replace h2 := h2.ext e36; replace ho1 := ho1.ext e36; replace ho2 := ho2.ext e36; replace ho4 := ho4.ext e36; replace ho5 := ho5.ext e36; replace ho6 := ho6.ext e36; replace h3 := h3.ext e36; replace ho7 := ho7.ext e36; replace ho9 := ho9.ext e36; replace ho10 := ho10.ext e36; replace ho11 := ho11.ext e36; replace ho12 := ho12.ext e36; replace ho13 := ho13.ext e36; replace ho14 := ho14.ext e36; replace ho16 := ho16.ext e36; replace ho17 := ho17.ext e36
      have z39 := e36.size
      refine J_st (R_not rfl) rfl (J_st (R_move rfl) rfl ?_)
      refine J_cut 5 [(0, .agg [o1, .int .i64 g.workers, .int .i64 g.cap].toArray), (1, vxs), (2, .agg (Enc.enc x).toArray), (3, .pointer (some ⟨b1, 0, none⟩)), (5, .pointer (some ⟨b2, 0, none⟩)), (6, .bool false), (7, .int .i64 (szM xs.length (szM (cntGraph g) 1048576))), (8, v2), (9, v3), (10, .pointer (some ⟨b3, 0, none⟩)), (11, v4), (12, v5), (13, v6), (14, .int .i64 (((numNs 1 g.nodes) + 4 * xs.length : Nat) : Int)), (15, .int .i64 (((1 + 4 * ((improveM g xs x).1).length) + 4 * ((improveM g xs x).2).length : Nat) : Int)), (16, .int .i64 (((1 + 4 * (mkL 4 mkCell 1 ((improveM g xs x).1).length).length) + 4 * (mkL 4 mkCell (1 + 4 * ((improveM g xs x).1).length) ((improveM g xs x).2).length).length : Nat) : Int)), (17, v9), (18, v10), (19, .agg [o1, .int .i64 g.workers, .int .i64 g.cap].toArray), (20, .int .i64 1048576), (21, .int .i64 (szM (cntGraph g) 1048576)), (22, .int .i64 (szM (cntGraph g) 1048576)), (23, .bool (decide ((szM (cntGraph g) 1048576) < 0))), (24, vxs), (25, .int .i64 (szM (cntGraph g) 1048576)), (26, .int .i64 (szM xs.length (szM (cntGraph g) 1048576))), (27, .int .i64 (szM xs.length (szM (cntGraph g) 1048576))), (28, .bool (decide ((szM xs.length (szM (cntGraph g) 1048576)) < 0))), (29, .tuple [v2, v3].toArray), (30, .agg [o1, .int .i64 g.workers, .int .i64 g.cap].toArray), (31, .agg [o2, .int .i64 g.workers, .int .i64 g.cap].toArray), (32, vxs), (33, v1), (34, .agg (Enc.enc x).toArray), (35, .agg (Enc.enc x).toArray), (36, .tuple [v2, v3].toArray), (37, v2), (38, v3), (39, .agg [o1, .int .i64 g.workers, .int .i64 g.cap].toArray), (40, .agg [o3, .int .i64 g.workers, .int .i64 g.cap].toArray), (41, vxs), (42, v4), (43, .tuple [v5, v6].toArray), (44, .agg [o3, .int .i64 g.workers, .int .i64 g.cap].toArray), (45, v4), (46, .agg (Enc.enc x).toArray), (47, .agg (Enc.enc x).toArray), (48, .tuple [v5, v6].toArray), (49, v5), (50, v6), (60, .bool ((!(decide (((improveM g xs x).1) = ((improveM g xs x).1)))) || (!(decide (((improveM g xs x).2) = ((improveM g xs x).2)))))), (61, .agg [o3, .int .i64 g.workers, .int .i64 g.cap].toArray), (62, .agg [o1, .int .i64 g.workers, .int .i64 g.cap].toArray), (63, .agg [o4, .int .i64 g.workers, .int .i64 g.cap].toArray), (64, .bool (decide (g = g))), (65, .bool (!(decide (g = g)))), (66, v4), (67, vxs), (68, v7), (69, .bool (decide (xs = xs))), (70, .bool (!(decide (xs = xs)))), (71, .agg [o3, .int .i64 g.workers, .int .i64 g.cap].toArray), (72, .int .i64 1), (73, .int .i64 ((numNs 1 g.nodes : Nat) : Int)), (74, v4), (75, .int .i64 ((numNs 1 g.nodes : Nat) : Int)), (76, .int .i64 (((numNs 1 g.nodes) + 4 * xs.length : Nat) : Int)), (90, .bool (((decide ((((numNs 1 g.nodes) + 4 * xs.length : Nat) : Int) < 0)) || (!(decide (((improveM g xs x).1) = ((improveM g xs x).1))))) || (!(decide (((improveM g xs x).2) = ((improveM g xs x).2)))))), (91, v5), (92, .int .i64 1), (93, .int .i64 ((1 + 4 * ((improveM g xs x).1).length : Nat) : Int)), (94, v6), (95, .int .i64 ((1 + 4 * ((improveM g xs x).1).length : Nat) : Int)), (96, .int .i64 (((1 + 4 * ((improveM g xs x).1).length) + 4 * ((improveM g xs x).2).length : Nat) : Int)), (97, v5), (98, .int .i64 1), (99, .int .i64 ((1 + 4 * (mkL 4 mkCell 1 ((improveM g xs x).1).length).length : Nat) : Int)), (100, .int .i64 ((1 + 4 * (mkL 4 mkCell 1 ((improveM g xs x).1).length).length : Nat) : Int)), (101, .bool (decide (((1 + 4 * (mkL 4 mkCell 1 ((improveM g xs x).1).length).length : Nat) : Int) < 0))), (102, v6), (103, .int .i64 ((1 + 4 * (mkL 4 mkCell 1 ((improveM g xs x).1).length).length : Nat) : Int)), (104, .int .i64 (((1 + 4 * (mkL 4 mkCell 1 ((improveM g xs x).1).length).length) + 4 * (mkL 4 mkCell (1 + 4 * ((improveM g xs x).1).length) ((improveM g xs x).2).length).length : Nat) : Int)), (105, .int .i64 (((1 + 4 * (mkL 4 mkCell 1 ((improveM g xs x).1).length).length) + 4 * (mkL 4 mkCell (1 + 4 * ((improveM g xs x).1).length) ((improveM g xs x).2).length).length : Nat) : Int)), (106, .bool (decide ((((1 + 4 * (mkL 4 mkCell 1 ((improveM g xs x).1).length).length) + 4 * (mkL 4 mkCell (1 + 4 * ((improveM g xs x).1).length) ((improveM g xs x).2).length).length : Nat) : Int) < 0))), (107, .int .i64 (((1 + 4 * (mkL 4 mkCell 1 ((improveM g xs x).1).length).length) + 4 * (mkL 4 mkCell (1 + 4 * ((improveM g xs x).1).length) ((improveM g xs x).2).length).length : Nat) : Int)), (108, .int .i64 (((1 + 4 * ((improveM g xs x).1).length) + 4 * ((improveM g xs x).2).length : Nat) : Int)), (109, .bool ((((1 + 4 * (mkL 4 mkCell 1 ((improveM g xs x).1).length).length) + 4 * (mkL 4 mkCell (1 + 4 * ((improveM g xs x).1).length) ((improveM g xs x).2).length).length : Nat) : Int) != (((1 + 4 * ((improveM g xs x).1).length) + 4 * ((improveM g xs x).2).length : Nat) : Int))), (110, .tuple [v9, v10].toArray), (111, .agg [o1, .int .i64 g.workers, .int .i64 g.cap].toArray), (112, .agg [o5, .int .i64 g.workers, .int .i64 g.cap].toArray), (113, vxs), (114, v8), (115, .agg (Enc.enc x).toArray), (116, .agg (Enc.enc x).toArray), (117, .tuple [v9, v10].toArray), (118, v9), (119, v10), (129, .bool ((!(decide (((improveM g xs x).1) = ((improveM g xs x).1)))) || (!(decide (((improveM g xs x).2) = ((improveM g xs x).2))))))] (fun w' => Ext w w' ∧ w39.heap.size ≤ w'.heap.size ∧ Blk w' b1 ([o1, .int .i64 g.workers, .int .i64 g.cap]) ∧ Blk w' b2 (Enc.enc x) ∧ OwS w' w5.heap.size w6.heap.size o2 g.nodes ∧ Own w' w6.heap.size w7.heap.size 4 v1 (List.flatMap (Enc.enc (α := Cell)) xs) ∧ Own w' w8.heap.size w9.heap.size 4 v2 (List.flatMap (Enc.enc (α := Cell)) ((improveM g xs x).1)) ∧ Own w' w8.heap.size w9.heap.size 4 v3 (List.flatMap (Enc.enc (α := Cell)) ((improveM g xs x).2)) ∧ OwS w' w9.heap.size w10.heap.size o3 (markNs 1 g.nodes) ∧ Blk w' b3 [o3, .int .i64 g.workers, .int .i64 g.cap] ∧ Own w' w12.heap.size w13.heap.size 4 v4 (List.flatMap (Enc.enc (α := Cell)) (mkL 4 mkCell (numNs 1 g.nodes) xs.length)) ∧ Own w' w15.heap.size w16.heap.size 4 v5 (List.flatMap (Enc.enc (α := Cell)) (mkL 4 mkCell 1 ((improveM g xs x).1).length)) ∧ Own w' w15.heap.size w16.heap.size 4 v6 (List.flatMap (Enc.enc (α := Cell)) (mkL 4 mkCell (1 + 4 * ((improveM g xs x).1).length) ((improveM g xs x).2).length)) ∧ OwS w' w20.heap.size w21.heap.size o4 g.nodes ∧ Own w' w22.heap.size w23.heap.size 4 v7 (List.flatMap (Enc.enc (α := Cell)) xs) ∧ OwS w' w34.heap.size w35.heap.size o5 g.nodes ∧ Own w' w35.heap.size w36.heap.size 4 v8 (List.flatMap (Enc.enc (α := Cell)) xs) ∧ Own w' w37.heap.size w38.heap.size 4 v9 (List.flatMap (Enc.enc (α := Cell)) ((improveM g xs x).1)) ∧ Own w' w37.heap.size w38.heap.size 4 v10 (List.flatMap (Enc.enc (α := Cell)) ((improveM g xs x).2))) ?_ ?_
      · refine J_if (gd := 124) rfl rfl (fun hg4 => ?_) (fun hg4 => ?_)
        · exact absurd hg4 (by first | (simp; done) | (simp only [nat_nlt] <;> simp) | (simp only [mkL_length, nat_nlt] <;> simp) | (simp only [mkL_length] <;> simp))
        · refine J_gd rfl rfl (R_move rfl) rfl (J_gd rfl rfl (R_move rfl) rfl ?_)
          refine J_ung rfl rfl ?_
          refine J_call Try.call12 rfl (c_eqCellS v10 ((improveM g xs x).2) v3 ((improveM g xs x).2) _ (Own.rd (by decide) ho17) (Own.rd (by decide) ho5)) rfl (fun _ w41 e37 hv => ?_)
          subst hv
          replace E := E.trans e37; replace h1 := h1.ext e37; replace h2 := h2.ext e37; replace ho1 := ho1.ext e37; replace ho2 := ho2.ext e37; replace ho4 := ho4.ext e37; replace ho5 := ho5.ext e37; replace ho6 := ho6.ext e37; replace h3 := h3.ext e37; replace ho7 := ho7.ext e37; replace ho9 := ho9.ext e37; replace ho10 := ho10.ext e37; replace ho11 := ho11.ext e37; replace ho12 := ho12.ext e37; replace ho13 := ho13.ext e37; replace ho14 := ho14.ext e37; replace ho16 := ho16.ext e37; replace ho17 := ho17.ext e37
          have z40 := e37.size
          refine J_gd rfl rfl (R_not rfl) rfl (J_st (R_pickF rfl rfl) rfl (J_cutEnd ⟨rfl, rfl, rfl, rfl, rfl, rfl, rfl, rfl, rfl, rfl, rfl, rfl, rfl, rfl, rfl, rfl, rfl, rfl, rfl, rfl, rfl, rfl, rfl, rfl, rfl, rfl, rfl, rfl, rfl, rfl, rfl, rfl, rfl, rfl, rfl, rfl, rfl, rfl, rfl, rfl, rfl, rfl, rfl, rfl, rfl, rfl, rfl, rfl, rfl, rfl, rfl, rfl, rfl, rfl, rfl, rfl, rfl, rfl, rfl, rfl, rfl, rfl, rfl, rfl, rfl, rfl, rfl, rfl, rfl, rfl, rfl, rfl, rfl, rfl, rfl, rfl, rfl, rfl, rfl, rfl, rfl, rfl, rfl, rfl, rfl, rfl, rfl, rfl, rfl, rfl, rfl, rfl, rfl, rfl, rfl, rfl, rfl, congrArg (fun b => some (Value.bool b)) (show (!(decide (((improveM g xs x).2) = ((improveM g xs x).2)))) = ((!(decide (((improveM g xs x).1) = ((improveM g xs x).1)))) || (!(decide (((improveM g xs x).2) = ((improveM g xs x).2))))) by first | (rw [hg4] <;> rfl) | (simp [hg4]; done) | (simp only [nat_nlt] <;> simp)), trivial⟩ ⟨E, (by omega), h1, h2, ho1, ho2, ho4, ho5, ho6, h3, ho7, ho9, ho10, ho11, ho12, ho13, ho14, ho16, ho17⟩))
      clear E h1 h2 ho1 ho2 ho4 ho5 ho6 h3 ho7 ho9 ho10 ho11 ho12 ho13 ho14 ho16 ho17
      rintro w40 ⟨E, z41, h1, h2, ho1, ho2, ho4, ho5, ho6, h3, ho7, ho9, ho10, ho11, ho12, ho13, ho14, ho16, ho17⟩
      refine J_done ?_
      refine S_condFe rfl (by first | (simp; done) | (simp only [nat_nlt] <;> simp) | (simp only [mkL_length, nat_nlt] <;> simp) | (simp only [mkL_length] <;> simp)) ?_
      refine S_skip ?_
      refine S_seq ?_
      refine S_reg [true] rfl rfl ?_
      refine J_st (R_assign rfl) rfl (J_done ?_)
      refine S_seq ?_
      refine S_reg [true, true, false, true] rfl rfl ?_
      refine J_st (R_move rfl) rfl (J_st (R_move rfl) rfl ?_)
      refine J_call Try.call18 rfl (heldCellS v5 (mkL 4 mkCell 1 ((improveM g xs x).1).length) 1 _ (Own.rd (by decide) ho9) (by first | omega | (simp only [mkL_length]; omega) | (rw [mkL_length]; done) | (simp only [mkL_length]; done)) (by first | omega | (simp only [mkL_length]; omega) | (rw [mkL_length]; done) | (simp only [mkL_length]; done))) rfl (fun _ w42 e38 hv => ?_)
      subst hv
      replace E := E.trans e38; replace h1 := h1.ext e38; replace h2 := h2.ext e38; replace ho1 := ho1.ext e38; replace ho2 := ho2.ext e38; replace ho4 := ho4.ext e38; replace ho5 := ho5.ext e38; replace ho6 := ho6.ext e38; replace h3 := h3.ext e38; replace ho7 := ho7.ext e38; replace ho9 := ho9.ext e38; replace ho10 := ho10.ext e38; replace ho11 := ho11.ext e38; replace ho12 := ho12.ext e38; replace ho13 := ho13.ext e38; replace ho14 := ho14.ext e38; replace ho16 := ho16.ext e38; replace ho17 := ho17.ext e38
      have z42 := e38.size
      refine J_st (R_assign rfl) rfl (J_done ?_)
      refine S_seq ?_
      refine S_seq ?_
      refine S_reg [true, true] rfl rfl ?_
      refine J_st (R_move rfl) rfl (J_st (R_lss rfl rfl) rfl (J_done ?_))
      refine S_condFe rfl (by first | (simp; done) | (simp only [nat_nlt] <;> simp) | (simp only [mkL_length, nat_nlt] <;> simp) | (simp only [mkL_length] <;> simp)) ?_
      refine S_skip ?_
      refine S_seq ?_
      refine S_reg [true, true, false, true] rfl rfl ?_
      refine J_st (R_move rfl) rfl (J_st (R_move rfl) rfl ?_)
      refine J_call Try.call18 rfl (heldCellS v6 (mkL 4 mkCell (1 + 4 * ((improveM g xs x).1).length) ((improveM g xs x).2).length) (1 + 4 * (mkL 4 mkCell 1 ((improveM g xs x).1).length).length) _ (Own.rd (by decide) ho10) (by first | omega | (simp only [mkL_length]; omega) | (rw [mkL_length]; done) | (simp only [mkL_length]; done)) (by first | omega | (simp only [mkL_length]; omega) | (rw [mkL_length]; done) | (simp only [mkL_length]; done))) rfl (fun _ w43 e39 hv => ?_)
      subst hv
      replace E := E.trans e39; replace h1 := h1.ext e39; replace h2 := h2.ext e39; replace ho1 := ho1.ext e39; replace ho2 := ho2.ext e39; replace ho4 := ho4.ext e39; replace ho5 := ho5.ext e39; replace ho6 := ho6.ext e39; replace h3 := h3.ext e39; replace ho7 := ho7.ext e39; replace ho9 := ho9.ext e39; replace ho10 := ho10.ext e39; replace ho11 := ho11.ext e39; replace ho12 := ho12.ext e39; replace ho13 := ho13.ext e39; replace ho14 := ho14.ext e39; replace ho16 := ho16.ext e39; replace ho17 := ho17.ext e39
      have z43 := e39.size
      refine J_st (R_assign rfl) rfl (J_done ?_)
      refine S_seq ?_
      refine S_seq ?_
      refine S_reg [true, true] rfl rfl ?_
      refine J_st (R_move rfl) rfl (J_st (R_lss rfl rfl) rfl (J_done ?_))
      refine S_condFe rfl (by first | (simp; done) | (simp only [nat_nlt] <;> simp) | (simp only [mkL_length, nat_nlt] <;> simp) | (simp only [mkL_length] <;> simp)) ?_
      refine S_skip ?_
      refine S_seq ?_
      refine S_seq ?_
      refine S_reg [true, true, true] rfl rfl ?_
      refine J_st (R_move rfl) rfl (J_st (R_move rfl) rfl (J_st (R_neq rfl rfl) rfl (J_done ?_)))
      refine S_condFe rfl (by first | (simp; done) | (simp only [nat_nlt] <;> simp) | (simp only [mkL_length, nat_nlt] <;> simp) | (simp only [mkL_length] <;> simp)) ?_
      refine S_skip ?_
      refine S_seq ?_
      refine S_reg [true] rfl rfl ?_
      refine J_st (R_assign rfl) rfl (J_done ?_)
      refine S_ret (E_done1 rfl rfl E ?_)
      rfl

end Go.Proofs.Ytajenejdlmenfaa
