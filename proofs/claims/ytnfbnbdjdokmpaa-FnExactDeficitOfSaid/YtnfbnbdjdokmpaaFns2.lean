/- What the functions that the laws call come to: a contract each; no condition. -/
import Derived.Test.YtnfbnbdjdokmpaaFns
namespace Go.Proofs.Ytnfbnbdjdokmpaa
open Go Go.Proofs.Ytnfbnbdjdokmpaa.X Go.Proofs
set_option maxRecDepth 20000 in
theorem c_eqCluster (cx : List Value) (x : Cluster) (cy : List Value) (y : Cluster) (w : World) (hx : Dat.R w 0 w.heap.size cx x) (hy : Dat.R w 0 w.heap.size cy y) : Ct Try.prog 10 [.agg cx.toArray, .agg cy.toArray] w (fun v _ => v = .bool (decide (x = y))) := by
  refine ct_of Try.func10 rfl Try.ntmps10 rfl ?_
  obtain ⟨o1, o2, o3, o4, o5, rfl, hd1, hd2, hd3, hd4, hd5⟩ := Cluster.op hx
  obtain ⟨o6, o7, o8, o9, o10, rfl, hd6, hd7, hd8, hd9, hd10⟩ := Cluster.op hy
  refine S_sub [(0, .agg [o1, .int .i64 x.graph.workers, .int .i64 x.graph.cap, o2, o3, o4, o5].toArray), (1, .agg [o6, .int .i64 y.graph.workers, .int .i64 y.graph.cap, o7, o8, o9, o10].toArray)] ⟨rfl, rfl, trivial⟩ ?_
  have E : Ext w w := Ext.refl w
  refine S_seq ?_
  refine S_reg [false, false, true] rfl rfl ?_
  refine J_box rfl rfl (fun b1 w1 e1 s1 h1 => ?_)
  have g_b1 : w.heap.size ≤ b1 := by have := E.size; omega
  have y_b1 := h1.lt
  replace E := E.trans e1
  have z1 := e1.size
  refine J_box rfl rfl (fun b2 w2 e2 s2 h2 => ?_)
  have g_b2 : w.heap.size ≤ b2 := by have := E.size; omega
  have y_b2 := h2.lt
  replace E := E.trans e2; replace h1 := h1.ext e2
  have z2 := e2.size
  refine J_st (R_assign rfl) rfl (J_done ?_)
  refine S_seq ?_
  refine S_seq ?_
  refine S_reg [true, true, true, true, false, true] rfl rfl ?_
  refine J_st (R_fieldAddr0 fl41_0 rfl) rfl (J_st (R_loadS st35 rfl (h1.part 0 [o1, .int .i64 x.graph.workers, .int .i64 x.graph.cap] rfl) rfl) rfl (J_st (R_fieldAddr0 fl41_0 rfl) rfl (J_st (R_loadS st35 rfl (h2.part 0 [o6, .int .i64 y.graph.workers, .int .i64 y.graph.cap] rfl) rfl) rfl ?_)))
  refine J_call Try.call25 rfl (c_eqGraph [o1, .int .i64 x.graph.workers, .int .i64 x.graph.cap] x.graph [o6, .int .i64 y.graph.workers, .int .i64 y.graph.cap] y.graph _ (Graph.mkR x.graph (RdD.any (hd1.ext E))) (Graph.mkR y.graph (RdD.any (hd6.ext E)))) rfl (fun _ w3 e3 hv => ?_)
  subst hv
  replace E := E.trans e3; replace h1 := h1.ext e3; replace h2 := h2.ext e3
  have z3 := e3.size
  refine J_st (R_not rfl) rfl (J_done ?_)
  refine S_cond rfl (fun hc1 => ?_) (fun hc1 => ?_)
  · refine S_seq ?_
    refine S_reg [true] rfl rfl ?_
    refine J_st (R_assign rfl) rfl (J_done ?_)
    refine S_ret (E_done1 rfl rfl E ?_)
    cases x; cases y; simp_all
  · refine S_skip ?_
    refine S_seq ?_
    refine S_seq ?_
    refine S_reg [true, true, true, true, false, true] rfl rfl ?_
    refine J_st (R_fieldAddr0 fl41_1 rfl) rfl (J_st (R_load sc36 rfl (h1.one 3 rfl)) rfl (J_st (R_fieldAddr0 fl41_1 rfl) rfl (J_st (R_load sc36 rfl (h2.one 3 rfl)) rfl ?_)))
    refine J_call Try.call26 rfl (c_eqWorkerS o2 x.workers o7 y.workers _ (RdD.any (hd2.ext E)) (RdD.any (hd7.ext E))) rfl (fun _ w4 e4 hv => ?_)
    subst hv
    replace E := E.trans e4; replace h1 := h1.ext e4; replace h2 := h2.ext e4
    have z4 := e4.size
    refine J_st (R_not rfl) rfl (J_done ?_)
    refine S_cond rfl (fun hc2 => ?_) (fun hc2 => ?_)
    · refine S_seq ?_
      refine S_reg [true] rfl rfl ?_
      refine J_st (R_assign rfl) rfl (J_done ?_)
      refine S_ret (E_done1 rfl rfl E ?_)
      cases x; cases y; simp_all
    · refine S_skip ?_
      refine S_seq ?_
      refine S_seq ?_
      refine S_reg [true, true, true, true, false, true] rfl rfl ?_
      refine J_st (R_fieldAddr0 fl41_2 rfl) rfl (J_st (R_load sc37 rfl (h1.one 4 rfl)) rfl (J_st (R_fieldAddr0 fl41_2 rfl) rfl (J_st (R_load sc37 rfl (h2.one 4 rfl)) rfl ?_)))
      refine J_call Try.call27 rfl (c_eqLinkS o3 x.links o8 y.links _ (RdD.any (hd3.ext E)) (RdD.any (hd8.ext E))) rfl (fun _ w5 e5 hv => ?_)
      subst hv
      replace E := E.trans e5; replace h1 := h1.ext e5; replace h2 := h2.ext e5
      have z5 := e5.size
      refine J_st (R_not rfl) rfl (J_done ?_)
      refine S_cond rfl (fun hc3 => ?_) (fun hc3 => ?_)
      · refine S_seq ?_
        refine S_reg [true] rfl rfl ?_
        refine J_st (R_assign rfl) rfl (J_done ?_)
        refine S_ret (E_done1 rfl rfl E ?_)
        cases x; cases y; simp_all
      · refine S_skip ?_
        refine S_seq ?_
        refine S_seq ?_
        refine S_reg [true, true, true, true, false, true] rfl rfl ?_
        refine J_st (R_fieldAddr0 fl41_3 rfl) rfl (J_st (R_load sc38 rfl (h1.one 5 rfl)) rfl (J_st (R_fieldAddr0 fl41_3 rfl) rfl (J_st (R_load sc38 rfl (h2.one 5 rfl)) rfl ?_)))
        refine J_call Try.call28 rfl (c_eqTokenS o4 x.tokens o9 y.tokens _ (hd4.rd.ext E) (hd9.rd.ext E)) rfl (fun _ w6 e6 hv => ?_)
        subst hv
        replace E := E.trans e6; replace h1 := h1.ext e6; replace h2 := h2.ext e6
        have z6 := e6.size
        refine J_st (R_not rfl) rfl (J_done ?_)
        refine S_cond rfl (fun hc4 => ?_) (fun hc4 => ?_)
        · refine S_seq ?_
          refine S_reg [true] rfl rfl ?_
          refine J_st (R_assign rfl) rfl (J_done ?_)
          refine S_ret (E_done1 rfl rfl E ?_)
          cases x; cases y; simp_all
        · refine S_skip ?_
          refine S_seq ?_
          refine S_seq ?_
          refine S_reg [true, true, true, true, false, true] rfl rfl ?_
          refine J_st (R_fieldAddr0 fl41_4 rfl) rfl (J_st (R_load sc39 rfl (h1.one 6 rfl)) rfl (J_st (R_fieldAddr0 fl41_4 rfl) rfl (J_st (R_load sc39 rfl (h2.one 6 rfl)) rfl ?_)))
          refine J_call Try.call29 rfl (c_eqNewsS o5 x.news o10 y.news _ (hd5.rd.ext E) (hd10.rd.ext E)) rfl (fun _ w7 e7 hv => ?_)
          subst hv
          replace E := E.trans e7; replace h1 := h1.ext e7; replace h2 := h2.ext e7
          have z7 := e7.size
          refine J_st (R_not rfl) rfl (J_done ?_)
          refine S_cond rfl (fun hc5 => ?_) (fun hc5 => ?_)
          · refine S_seq ?_
            refine S_reg [true] rfl rfl ?_
            refine J_st (R_assign rfl) rfl (J_done ?_)
            refine S_ret (E_done1 rfl rfl E ?_)
            cases x; cases y; simp_all
          · refine S_skip ?_
            refine S_seq ?_
            refine S_reg [true] rfl rfl ?_
            refine J_st (R_assign rfl) rfl (J_done ?_)
            refine S_ret (E_done1 rfl rfl E ?_)
            cases x; cases y; simp_all

set_option maxRecDepth 20000 in
theorem c_toCluster (cx : List Value) (x : Cluster) (w : World) (hx : Dat.R w 0 w.heap.size cx x) (hb : cntCluster x ≤ 1048576) : Ct Try.prog 8 [.agg cx.toArray] w (fun v w' => ∃ cs, v = .agg cs.toArray ∧ Dat.R w' w.heap.size w'.heap.size cs x) := by
  unfold cntCluster at hb
  refine ct_of Try.func8 rfl Try.ntmps8 rfl ?_
  obtain ⟨o1, o2, o3, o4, o5, rfl, hd1, hd2, hd3, hd4, hd5⟩ := Cluster.op hx
  refine S_sub [(0, .agg [o1, .int .i64 x.graph.workers, .int .i64 x.graph.cap, o2, o3, o4, o5].toArray)] ⟨rfl, trivial⟩ ?_
  have E : Ext w w := Ext.refl w
  refine S_seq ?_
  refine S_reg [false, false] rfl rfl ?_
  refine J_box rfl rfl (fun b1 w1 e1 s1 h1 => ?_)
  have g_b1 : w.heap.size ≤ b1 := by have := E.size; omega
  have y_b1 := h1.lt
  replace E := E.trans e1
  have z1 := e1.size
  refine J_alloc st41 rfl (fun b2 w2 e2 s2 h2 => ?_)
  have g_b2 : w.heap.size ≤ b2 := by have := E.size; omega
  have y_b2 := h2.lt
  replace E := E.trans e2; replace h1 := h1.ext e2
  have z2 := e2.size
  refine J_done ?_
  refine S_seq ?_
  refine S_reg [false] rfl rfl ?_
  refine J_alloc st41 rfl (fun b3 w3 e3 s3 h3 => ?_)
  have g_b3 : w.heap.size ≤ b3 := by have := E.size; omega
  have y_b3 := h3.lt
  replace E := E.trans e3; replace h1 := h1.ext e3; replace h2 := h2.ext e3
  have z3 := e3.size
  refine J_done ?_
  refine S_seq ?_
  refine S_reg [true, true, false, true, false] rfl rfl ?_
  refine J_st (R_fieldAddr0 fl30_0 rfl) rfl (J_st (R_loadS st24 rfl (h1.part 0 [o1, .int .i64 x.graph.workers, .int .i64 x.graph.cap] rfl) rfl) rfl ?_)
  refine J_call Try.call20 rfl (c_toGraph [o1, .int .i64 x.graph.workers, .int .i64 x.graph.cap] x.graph _ (Graph.mkR x.graph (RdD.any (hd1.ext E))) (by first | omega | (simp only [mkL_length]; omega) | (rw [mkL_length]))) rfl (fun _ w4 e4 ho1 => ?_)
  obtain ⟨o6, rfl, ho1⟩ := ho1
  have g_ho1 : w.heap.size ≤ w3.heap.size := E.size
  replace E := E.trans e4; replace h1 := h1.ext e4; replace h2 := h2.ext e4; replace h3 := h3.ext e4
  have z4 := e4.size
  refine J_st (R_fieldAddr0 fl41_0 rfl) rfl ?_
  refine J_storeS' (cs' := [o6, .int .i64 x.graph.workers, .int .i64 x.graph.cap, .slice none 0 0, .slice none 0 0, .slice none 0 0, .slice none 0 0]) st35 rfl rfl rfl (all_cons (RdD.one (OwS.rd ho1)) (all_cons rfl (all_cons rfl rfl))) h3 (Nat.le_of_ble_eq_true rfl) rfl (fun w5 m1 h3' => ?_)
  replace h3 := h3'
  replace E := E.step m1 (fun g hg => by cases hg; omega); replace h1 := h1.mod m1 (fun g hg => by cases hg; omega); replace h2 := h2.mod m1 (fun g hg => by cases hg; omega); replace ho1 := ho1.mod m1 (fun g hg => by cases hg; omega)
  have z5 := m1.size
  refine J_done ?_
  refine S_seq ?_
  refine S_reg [true, true, false, true, false] rfl rfl ?_
  refine J_st (R_fieldAddr0 fl30_1 rfl) rfl (J_st (R_load sc25 rfl (h1.one 3 rfl)) rfl ?_)
  refine J_call Try.call21 rfl (c_toWorkerS o2 x.workers _ (RdD.any (hd2.ext E)) (by first | omega | (simp only [mkL_length]; omega) | (rw [mkL_length]))) rfl (fun v1 w6 e5 ho2 => ?_)
  have g_ho2 : w.heap.size ≤ w5.heap.size := E.size
  replace E := E.trans e5; replace h1 := h1.ext e5; replace h2 := h2.ext e5; replace h3 := h3.ext e5; replace ho1 := ho1.ext e5
  have z6 := e5.size
  refine J_st (R_fieldAddr0 fl41_1 rfl) rfl ?_
  refine J_store' (cs' := [o6, .int .i64 x.graph.workers, .int .i64 x.graph.cap, v1, .slice none 0 0, .slice none 0 0, .slice none 0 0]) sc36 rfl rfl (RdD.one (OwS.rd ho2)) h3 (Nat.le_of_ble_eq_true rfl) rfl (fun w7 m2 h3' => ?_)
  replace h3 := h3'
  replace E := E.step m2 (fun g hg => by cases hg; omega); replace h1 := h1.mod m2 (fun g hg => by cases hg; omega); replace h2 := h2.mod m2 (fun g hg => by cases hg; omega); replace ho1 := ho1.mod m2 (fun g hg => by cases hg; omega); replace ho2 := ho2.mod m2 (fun g hg => by cases hg; omega)
  have z7 := m2.size
  refine J_done ?_
  refine S_seq ?_
  refine S_reg [true, true, false, true, false] rfl rfl ?_
  refine J_st (R_fieldAddr0 fl30_2 rfl) rfl (J_st (R_load sc26 rfl (h1.one 4 rfl)) rfl ?_)
  refine J_call Try.call22 rfl (c_toLinkS o3 x.links _ (RdD.any (hd3.ext E)) (by first | omega | (simp only [mkL_length]; omega) | (rw [mkL_length]))) rfl (fun v2 w8 e6 ho3 => ?_)
  have g_ho3 : w.heap.size ≤ w7.heap.size := E.size
  replace E := E.trans e6; replace h1 := h1.ext e6; replace h2 := h2.ext e6; replace h3 := h3.ext e6; replace ho1 := ho1.ext e6; replace ho2 := ho2.ext e6
  have z8 := e6.size
  refine J_st (R_fieldAddr0 fl41_2 rfl) rfl ?_
  refine J_store' (cs' := [o6, .int .i64 x.graph.workers, .int .i64 x.graph.cap, v1, v2, .slice none 0 0, .slice none 0 0]) sc37 rfl rfl (RdD.one (OwS.rd ho3)) h3 (Nat.le_of_ble_eq_true rfl) rfl (fun w9 m3 h3' => ?_)
  replace h3 := h3'
  replace E := E.step m3 (fun g hg => by cases hg; omega); replace h1 := h1.mod m3 (fun g hg => by cases hg; omega); replace h2 := h2.mod m3 (fun g hg => by cases hg; omega); replace ho1 := ho1.mod m3 (fun g hg => by cases hg; omega); replace ho2 := ho2.mod m3 (fun g hg => by cases hg; omega); replace ho3 := ho3.mod m3 (fun g hg => by cases hg; omega)
  have z9 := m3.size
  refine J_done ?_
  refine S_seq ?_
  refine S_reg [true, true, false, true, false] rfl rfl ?_
  refine J_st (R_fieldAddr0 fl30_3 rfl) rfl (J_st (R_load sc27 rfl (h1.one 5 rfl)) rfl ?_)
  refine J_call Try.call23 rfl (c_toTokenS o4 x.tokens _ (hd4.rd.ext E) (by first | omega | (simp only [mkL_length]; omega) | (rw [mkL_length]))) rfl (fun v3 w10 e7 ho4 => ?_)
  have g_ho4 : w.heap.size ≤ w9.heap.size := E.size
  replace E := E.trans e7; replace h1 := h1.ext e7; replace h2 := h2.ext e7; replace h3 := h3.ext e7; replace ho1 := ho1.ext e7; replace ho2 := ho2.ext e7; replace ho3 := ho3.ext e7
  have z10 := e7.size
  refine J_st (R_fieldAddr0 fl41_3 rfl) rfl ?_
  refine J_store' (cs' := [o6, .int .i64 x.graph.workers, .int .i64 x.graph.cap, v1, v2, v3, .slice none 0 0]) sc38 rfl rfl ho4.one h3 (Nat.le_of_ble_eq_true rfl) rfl (fun w11 m4 h3' => ?_)
  replace h3 := h3'
  replace E := E.step m4 (fun g hg => by cases hg; omega); replace h1 := h1.mod m4 (fun g hg => by cases hg; omega); replace h2 := h2.mod m4 (fun g hg => by cases hg; omega); replace ho1 := ho1.mod m4 (fun g hg => by cases hg; omega); replace ho2 := ho2.mod m4 (fun g hg => by cases hg; omega); replace ho3 := ho3.mod m4 (fun g hg => by cases hg; omega); replace ho4 := ho4.mod m4 (fun g hg => by cases hg; omega)
  have z11 := m4.size
  refine J_done ?_
  refine S_seq ?_
  refine S_reg [true, true, false, true, false] rfl rfl ?_
  refine J_st (R_fieldAddr0 fl30_4 rfl) rfl (J_st (R_load sc28 rfl (h1.one 6 rfl)) rfl ?_)
  refine J_call Try.call24 rfl (c_toNewsS o5 x.news _ (hd5.rd.ext E) (by first | omega | (simp only [mkL_length]; omega) | (rw [mkL_length]))) rfl (fun v4 w12 e8 ho5 => ?_)
  have g_ho5 : w.heap.size ≤ w11.heap.size := E.size
  replace E := E.trans e8; replace h1 := h1.ext e8; replace h2 := h2.ext e8; replace h3 := h3.ext e8; replace ho1 := ho1.ext e8; replace ho2 := ho2.ext e8; replace ho3 := ho3.ext e8; replace ho4 := ho4.ext e8
  have z12 := e8.size
  refine J_st (R_fieldAddr0 fl41_4 rfl) rfl ?_
  refine J_store' (cs' := [o6, .int .i64 x.graph.workers, .int .i64 x.graph.cap, v1, v2, v3, v4]) sc39 rfl rfl ho5.one h3 (Nat.le_of_ble_eq_true rfl) rfl (fun w13 m5 h3' => ?_)
  replace h3 := h3'
  replace E := E.step m5 (fun g hg => by cases hg; omega); replace h1 := h1.mod m5 (fun g hg => by cases hg; omega); replace h2 := h2.mod m5 (fun g hg => by cases hg; omega); replace ho1 := ho1.mod m5 (fun g hg => by cases hg; omega); replace ho2 := ho2.mod m5 (fun g hg => by cases hg; omega); replace ho3 := ho3.mod m5 (fun g hg => by cases hg; omega); replace ho4 := ho4.mod m5 (fun g hg => by cases hg; omega); replace ho5 := ho5.mod m5 (fun g hg => by cases hg; omega)
  have z13 := m5.size
  refine J_done ?_
  refine S_seq ?_
  refine S_reg [true, false] rfl rfl ?_
  refine J_st (R_loadS st41 rfl h3.at rfl) rfl ?_
  refine J_storeS' (cs' := [o6, .int .i64 x.graph.workers, .int .i64 x.graph.cap, v1, v2, v3, v4]) st41 rfl rfl rfl (all_cons (RdD.one (OwS.rd ho1)) (all_cons rfl (all_cons rfl (all_cons (RdD.one (OwS.rd ho2)) (all_cons (RdD.one (OwS.rd ho3)) (all_cons ho4.one (all_cons ho5.one rfl))))))) h2 (Nat.le_of_ble_eq_true rfl) rfl (fun w14 m6 h2' => ?_)
  replace h2 := h2'
  replace E := E.step m6 (fun g hg => by cases hg; omega); replace h1 := h1.mod m6 (fun g hg => by cases hg; omega); replace h3 := h3.mod m6 (fun g hg => by cases hg; omega); replace ho1 := ho1.mod m6 (fun g hg => by cases hg; omega); replace ho2 := ho2.mod m6 (fun g hg => by cases hg; omega); replace ho3 := ho3.mod m6 (fun g hg => by cases hg; omega); replace ho4 := ho4.mod m6 (fun g hg => by cases hg; omega); replace ho5 := ho5.mod m6 (fun g hg => by cases hg; omega)
  have z14 := m6.size
  refine J_done ?_
  refine S_ret (E_doneC rfl rfl (run_loadVar_st st41 h2.at rfl) E ?_)
  exact ⟨_, rfl, Cluster.mkR _ (RdD.widen (OwS.rd ho1) (by have := E.size; omega) (by omega)) (RdD.widen (OwS.rd ho2) (by have := E.size; omega) (by omega)) (RdD.widen (OwS.rd ho3) (by have := E.size; omega) (by omega)) (RdD.widen (Own.rdD ho4) (by have := E.size; omega) (by omega)) (RdD.widen (Own.rdD ho5) (by have := E.size; omega) (by omega))⟩

set_option maxRecDepth 20000 in
theorem s_DeficitOf (cx : List Value) (x : Cluster) (e : Int) (w : World) (hx : Dat.R w 0 w.heap.size cx x) : Ct Try.prog 11 [.agg cx.toArray, .int .i64 e] w (fun v _ => v = .int .i64 (defTo x e x.workers.length)) := by
  refine ct_of Try.func11 rfl Try.ntmps11 rfl ?_
  obtain ⟨o1, o2, o3, o4, o5, rfl, hd1, hd2, hd3, hd4, hd5⟩ := Cluster.op hx
  refine S_sub [(0, .agg [o1, .int .i64 x.graph.workers, .int .i64 x.graph.cap, o2, o3, o4, o5].toArray), (1, .int .i64 e)] ⟨rfl, rfl, trivial⟩ ?_
  have E : Ext w w := Ext.refl w
  refine S_seq ?_
  refine S_reg [false, true] rfl rfl ?_
  refine J_box rfl rfl (fun b1 w1 e1 s1 h1 => ?_)
  have g_b1 : w.heap.size ≤ b1 := by have := E.size; omega
  have y_b1 := h1.lt
  replace E := E.trans e1
  have z1 := e1.size
  refine J_st (R_assign rfl) rfl (J_done ?_)
  refine S_seq ?_
  refine S_reg [true] rfl rfl ?_
  refine J_st (R_assign rfl) rfl (J_done ?_)
  refine S_seq ?_
  refine S_seq ?_
  refine S_reg [true] rfl rfl ?_
  refine J_st (R_assign rfl) rfl (J_done ?_)
  refine S_block ?_
  refine S_loop (fun (xq : Nat × Int) => let ⟨k, n⟩ := xq; [(1, .int .i64 e), (2, .pointer (some ⟨b1, 0, none⟩)), (4, .int .i64 0), (5, .int .i64 n), (6, .int .i64 ((k : Nat) : Int))]) (fun (xq : Nat × Int) w' => let ⟨k, n⟩ := xq; Ext w w' ∧ w1.heap.size ≤ w'.heap.size ∧ Blk w' b1 ([o1, .int .i64 x.graph.workers, .int .i64 x.graph.cap, o2, o3, o4, o5]) ∧ k ≤ x.workers.length ∧ n = defTo x e k) (fun (xq : Nat × Int) => let ⟨k, n⟩ := xq; x.workers.length - k) (0, 0) ⟨rfl, rfl, rfl, rfl, rfl, trivial⟩ ⟨E, Nat.le_refl _, h1, Nat.zero_le _, rfl⟩ ?_
  clear E h1
  rintro ⟨k, n⟩ w2 ⟨E, z2, h1, hk, hq⟩
  refine S_sub [(1, .int .i64 e), (2, .pointer (some ⟨b1, 0, none⟩)), (4, .int .i64 0), (5, .int .i64 n), (6, .int .i64 ((k : Nat) : Int))] ⟨rfl, rfl, rfl, rfl, rfl, trivial⟩ ?_
  refine S_seq ?_
  refine S_seq ?_
  refine S_reg [true, true, true, true, true] rfl rfl ?_
  refine J_st (R_move rfl) rfl (J_st (R_fieldAddr0 fl41_1 rfl) rfl (J_st (R_load sc36 rfl (h1.one 3 rfl)) rfl (J_st (R_len Try.underlying36 rfl (hd2.ext E).len) rfl (J_st (R_lss rfl rfl) rfl (J_done ?_)))))
  refine S_cond rfl (fun hc1 => ?_) (fun hc1 => ?_)
  · have hc1n : k < x.workers.length := by first | (have h := of_decide_eq_true hc1; omega) | (have h := hc1; simp at h; omega)
    refine S_skip ?_
    refine S_seq ?_
    refine S_block ?_
    refine S_seq ?_
    refine S_reg [true, true, true, true, true, true, true, true, true, false] rfl rfl ?_
    refine J_st (R_move rfl) rfl (J_st (R_fieldAddr0 fl41_1 rfl) rfl (J_st (R_load sc36 rfl (h1.one 3 rfl)) rfl (J_st (R_move rfl) rfl ?_)))
    have hi1 : k < x.workers.length := (by first | assumption | omega)
    obtain ⟨_, hr1, ha1⟩ := RdD.get hd2 hi1
    obtain ⟨o6, o7, o8, o9, o10, o11, o12, o13, rfl, hd6, hd7, hd8, hd9, hd10, hd11, hd12, hd13⟩ := Worker.op hr1
    replace ha1 : At w (sblk o2) (soff o2 + k * 8) [o6, o7, o8, o9, o10, o11, o12, o13] := ha1
    refine J_st (R_index (i := k) sl36 rfl rfl (hd2.ext E).1 hi1) rfl (J_st (R_fieldAddr fl72_4 rfl) rfl (J_st (R_load sc68 rfl ((ha1.ext E).one 4 rfl)) rfl (J_st (R_len Try.underlying68 rfl (hd10.ext E).len) rfl (J_st (R_sub rfl rfl rfl) rfl ?_))))
    refine J_call Try.call30 rfl (s_l01In e 0 (IntKind.i64.wrap (((((x.workers[k]'hi1).sums).length : Nat) : Int) - 1)) _ ) rfl (fun _ w3 e2 hv => ?_)
    subst hv
    replace E := E.trans e2; replace h1 := h1.ext e2
    have z3 := e2.size
    refine J_done ?_
    refine S_cond rfl (fun hc2 => ?_) (fun hc2 => ?_)
    · have hse := sent_of (hd10.1.1) hc2
      refine S_reg [true, true, true, true, true, true, true, true, true, true, true, true] rfl rfl ?_
      refine J_st (R_move rfl) rfl (J_st (R_fieldAddr0 fl41_1 rfl) rfl (J_st (R_load sc36 rfl (h1.one 3 rfl)) rfl (J_st (R_move rfl) rfl (J_st (R_index (i := k) sl36 rfl rfl (hd2.ext E).1 hi1) rfl (J_st (R_fieldAddr fl72_4 rfl) rfl (J_st (R_load sc68 rfl ((ha1.ext E).one 4 rfl)) rfl (J_st (R_move rfl) rfl ?_)))))))
      have hi2 : (Int.toNat e) < ((x.workers[k]'hi1).sums).length := (by first | assumption | omega)
      refine J_st (R_indexZ (i := (Int.toNat e)) sl68 rfl rfl (hd10.rd.ext E) (by omega) hi2) rfl (J_st (R_load sc3 rfl (((hd10.rd.ext E).get hi2).one 0 rfl)) rfl (J_st (R_add rfl rfl rfl) rfl (J_st (R_assign rfl) rfl (J_done ?_))))
      refine S_nil (E_inB ?_)
      refine S_reg [true, true, true] rfl rfl ?_
      refine J_st (R_move rfl) rfl (J_st (R_add rfl rfl (add_one hc1n (hd2.ext E).1.1)) rfl (J_st (R_assign rfl) rfl (J_done ?_)))
      refine S_nil (E_again (k + 1, IntKind.i64.wrap (n + (((x.workers[k]'hi1).sums)[(Int.toNat e)]'hi2))) (by simp; omega) ⟨rfl, rfl, rfl, rfl, rfl, trivial⟩ ⟨E, (by omega), h1, (by omega), (def_yes hq hi1 hse)⟩)
    · refine S_skip ?_
      refine S_nil (E_inB ?_)
      refine S_reg [true, true, true] rfl rfl ?_
      refine J_st (R_move rfl) rfl (J_st (R_add rfl rfl (add_one hc1n (hd2.ext E).1.1)) rfl (J_st (R_assign rfl) rfl (J_done ?_)))
      refine S_nil (E_again (k + 1, n) (by simp; omega) ⟨rfl, rfl, rfl, rfl, rfl, trivial⟩ ⟨E, (by omega), h1, (by omega), (def_no hq hi1 (hd10.1.1) hc2)⟩)
  · have hc1n : ¬ k < x.workers.length := by first | (have h := of_decide_eq_false hc1; omega) | (have h := hc1; simp at h; omega)
    refine S_exit (E_lp_exit (E_inB_exit ?_))
    refine S_seq ?_
    refine S_reg [true, true] rfl rfl ?_
    refine J_st (R_move rfl) rfl (J_st (R_assign rfl) rfl (J_done ?_))
    refine S_ret (E_done1 rfl rfl E ?_)
    rw [hq, show k = x.workers.length from by omega]

set_option maxRecDepth 20000 in
theorem c_DeficitOf (cx : List Value) (x : Cluster) (e : Int) (w : World) (hx : Dat.R w 0 w.heap.size cx x) : Ct Try.prog 12 [.agg cx.toArray, .int .i64 e] w (fun v _ => v = .int .i64 (defTo x e x.workers.length)) := by
  refine ct_of Try.func12 rfl Try.ntmps12 rfl ?_
  obtain ⟨o1, o2, o3, o4, o5, rfl, hd1, hd2, hd3, hd4, hd5⟩ := Cluster.op hx
  refine S_sub [(0, .agg [o1, .int .i64 x.graph.workers, .int .i64 x.graph.cap, o2, o3, o4, o5].toArray), (1, .int .i64 e)] ⟨rfl, rfl, trivial⟩ ?_
  have E : Ext w w := Ext.refl w
  refine S_seq ?_
  refine S_reg [false, true] rfl rfl ?_
  refine J_box rfl rfl (fun b1 w1 e1 s1 h1 => ?_)
  have g_b1 : w.heap.size ≤ b1 := by have := E.size; omega
  have y_b1 := h1.lt
  replace E := E.trans e1
  have z1 := e1.size
  refine J_st (R_assign rfl) rfl (J_done ?_)
  refine S_seq ?_
  refine S_reg [true] rfl rfl ?_
  refine J_st (R_assign rfl) rfl (J_done ?_)
  refine S_seq ?_
  refine S_seq ?_
  refine S_reg [true, true, true, true] rfl rfl ?_
  refine J_st (R_fieldAddr0 fl41_1 rfl) rfl (J_st (R_load sc36 rfl (h1.one 3 rfl)) rfl (J_st (R_len Try.underlying36 rfl (hd2.ext E).len) rfl (J_st (R_move rfl) rfl (J_done ?_))))
  refine S_block ?_
  refine S_loop (fun (xq : Nat × Int) => let ⟨k, n⟩ := xq; [(1, .int .i64 e), (4, .int .i64 0), (5, .int .i64 n), (9, o2), (10, .int .i64 ((x.workers.length : Nat) : Int)), (11, .int .i64 ((k : Nat) : Int))]) (fun (xq : Nat × Int) w' => let ⟨k, n⟩ := xq; Ext w w' ∧ w1.heap.size ≤ w'.heap.size ∧ Blk w' b1 ([o1, .int .i64 x.graph.workers, .int .i64 x.graph.cap, o2, o3, o4, o5]) ∧ k ≤ x.workers.length ∧ n = defTo x e k) (fun (xq : Nat × Int) => let ⟨k, n⟩ := xq; x.workers.length - k) (0, 0) ⟨rfl, rfl, rfl, rfl, rfl, rfl, trivial⟩ ⟨E, Nat.le_refl _, h1, Nat.zero_le _, rfl⟩ ?_
  clear E h1
  rintro ⟨k, n⟩ w2 ⟨E, z2, h1, hk, hq⟩
  refine S_sub [(1, .int .i64 e), (4, .int .i64 0), (5, .int .i64 n), (9, o2), (10, .int .i64 ((x.workers.length : Nat) : Int)), (11, .int .i64 ((k : Nat) : Int))] ⟨rfl, rfl, rfl, rfl, rfl, rfl, trivial⟩ ?_
  refine S_seq ?_
  refine S_reg [true] rfl rfl ?_
  refine J_st (R_lss rfl rfl) rfl (J_done ?_)
  refine S_seq ?_
  refine S_cond rfl (fun hc1 => ?_) (fun hc1 => ?_)
  · have hc1n : k < x.workers.length := by first | (have h := of_decide_eq_true hc1; omega) | (have h := hc1; simp at h; omega)
    refine S_skip ?_
    refine S_seq ?_
    refine S_block ?_
    refine S_seq ?_
    refine S_reg [true, true, false, false] rfl rfl ?_
    have hi1 : k < x.workers.length := (by first | assumption | omega)
    obtain ⟨_, hr1, ha1⟩ := RdD.get hd2 hi1
    obtain ⟨o6, o7, o8, o9, o10, o11, o12, o13, rfl, hd6, hd7, hd8, hd9, hd10, hd11, hd12, hd13⟩ := Worker.op hr1
    replace ha1 : At w (sblk o2) (soff o2 + k * 8) [o6, o7, o8, o9, o10, o11, o12, o13] := ha1
    refine J_st (R_index (i := k) sl36 rfl rfl (hd2.ext E).1 hi1) rfl (J_st (R_loadS st72 rfl (ha1.ext E) rfl) rfl ?_)
    refine J_alloc st72 rfl (fun b2 w3 e2 s2 h2 => ?_)
    have g_b2 : w.heap.size ≤ b2 := by have := E.size; omega
    have y_b2 := h2.lt
    replace E := E.trans e2; replace h1 := h1.ext e2
    have z3 := e2.size
    refine J_storeS' (cs' := [o6, o7, o8, o9, o10, o11, o12, o13]) st72 rfl rfl rfl (all_cons (RdD.one (hd6.ext E)) (all_cons (RdD.one (hd7.ext E)) (all_cons (RdD.one (hd8.ext E)) (all_cons (RdD.one (hd9.ext E)) (all_cons (RdD.one (hd10.ext E)) (all_cons (RdD.one (hd11.ext E)) (all_cons (RdD.one (hd12.ext E)) (all_cons (RdD.one (hd13.ext E)) rfl)))))))) h2 (Nat.le_of_ble_eq_true rfl) rfl (fun w4 m1 h2' => ?_)
    replace h2 := h2'
    replace E := E.step m1 (fun g hg => by cases hg; omega); replace h1 := h1.mod m1 (fun g hg => by cases hg; omega)
    have z4 := m1.size
    refine J_done ?_
    refine S_seq ?_
    refine S_reg [true, true, true, true, true, false] rfl rfl ?_
    refine J_st (R_move rfl) rfl (J_st (R_fieldAddr0 fl72_4 rfl) rfl (J_st (R_load sc68 rfl (h2.one 4 rfl)) rfl (J_st (R_len Try.underlying68 rfl (hd10.ext E).len) rfl (J_st (R_sub rfl rfl rfl) rfl ?_))))
    refine J_call Try.call31 rfl (c_within e 0 (IntKind.i64.wrap (((((x.workers[k]'hi1).sums).length : Nat) : Int) - 1)) _ ) rfl (fun _ w5 e3 hv => ?_)
    subst hv
    replace E := E.trans e3; replace h1 := h1.ext e3; replace h2 := h2.ext e3
    have z5 := e3.size
    refine J_done ?_
    refine S_cond rfl (fun hc2 => ?_) (fun hc2 => ?_)
    · have hse := sent_of (hd10.1.1) hc2
      refine S_reg [true, true, true, true, true, true, true, true] rfl rfl ?_
      refine J_st (R_move rfl) rfl (J_st (R_fieldAddr0 fl72_4 rfl) rfl (J_st (R_load sc68 rfl (h2.one 4 rfl)) rfl (J_st (R_move rfl) rfl ?_)))
      have hi2 : (Int.toNat e) < ((x.workers[k]'hi1).sums).length := (by first | assumption | omega)
      refine J_st (R_indexZ (i := (Int.toNat e)) sl68 rfl rfl (hd10.rd.ext E) (by omega) hi2) rfl (J_st (R_load sc3 rfl (((hd10.rd.ext E).get hi2).one 0 rfl)) rfl (J_st (R_add rfl rfl rfl) rfl (J_st (R_assign rfl) rfl (J_done ?_))))
      refine S_nil (E_inB ?_)
      refine S_reg [true, true] rfl rfl ?_
      refine J_st (R_add rfl rfl (add_one hc1n (hd2.ext E).1.1)) rfl (J_st (R_move rfl) rfl (J_done ?_))
      refine S_nil (E_again (k + 1, IntKind.i64.wrap (n + (((x.workers[k]'hi1).sums)[(Int.toNat e)]'hi2))) (by simp; omega) ⟨rfl, rfl, rfl, rfl, rfl, rfl, trivial⟩ ⟨E, (by omega), h1, (by omega), (def_yes hq hi1 hse)⟩)
    · refine S_skip ?_
      refine S_nil (E_inB ?_)
      refine S_reg [true, true] rfl rfl ?_
      refine J_st (R_add rfl rfl (add_one hc1n (hd2.ext E).1.1)) rfl (J_st (R_move rfl) rfl (J_done ?_))
      refine S_nil (E_again (k + 1, n) (by simp; omega) ⟨rfl, rfl, rfl, rfl, rfl, rfl, trivial⟩ ⟨E, (by omega), h1, (by omega), (def_no hq hi1 (hd10.1.1) hc2)⟩)
  · have hc1n : ¬ k < x.workers.length := by first | (have h := of_decide_eq_false hc1; omega) | (have h := hc1; simp at h; omega)
    refine S_exit (E_lp_exit (E_inB_exit ?_))
    refine S_seq ?_
    refine S_reg [true, true] rfl rfl ?_
    refine J_st (R_move rfl) rfl (J_st (R_assign rfl) rfl (J_done ?_))
    refine S_ret (E_done1 rfl rfl E ?_)
    rw [hq, show k = x.workers.length from by omega]

set_option maxRecDepth 20000 in
theorem l_DeficitOf (cx : List Value) (x : Cluster) (e : Int) (w : World) (hx : Dat.R w 0 w.heap.size cx x) (_kx : okCluster x) (_ke : rg e) : Ct Try.prog 4 [.agg cx.toArray, .int .i64 e] w (fun v _ => v = .bool true) := by
  refine ct_of Try.func4 rfl Try.ntmps4 rfl ?_
  obtain ⟨o1, o2, o3, o4, o5, rfl, hd1, hd2, hd3, hd4, hd5⟩ := Cluster.op hx
  refine S_sub [(0, .agg [o1, .int .i64 x.graph.workers, .int .i64 x.graph.cap, o2, o3, o4, o5].toArray), (1, .int .i64 e)] ⟨rfl, rfl, trivial⟩ ?_
  have E : Ext w w := Ext.refl w
  refine S_seq ?_
  refine S_reg [false, true] rfl rfl ?_
  refine J_box rfl rfl (fun b1 w1 e1 s1 h1 => ?_)
  have g_b1 : w.heap.size ≤ b1 := by have := E.size; omega
  have y_b1 := h1.lt
  replace E := E.trans e1
  have z1 := e1.size
  refine J_st (R_assign rfl) rfl (J_done ?_)
  refine S_seq ?_
  refine S_reg [true] rfl rfl ?_
  refine J_st (R_assign rfl) rfl (J_done ?_)
  refine S_seq ?_
  refine S_reg [true, true, false, true] rfl rfl ?_
  refine J_st (R_loadS st30 rfl h1.at rfl) rfl (J_st (R_move rfl) rfl ?_)
  refine J_call Try.call6 rfl (c_szCluster [o1, .int .i64 x.graph.workers, .int .i64 x.graph.cap, o2, o3, o4, o5] x 1048576 _ (Cluster.mkR x (RdD.any (hd1.ext E)) (RdD.any (hd2.ext E)) (RdD.any (hd3.ext E)) (RdD.any (hd4.ext E)) (RdD.any (hd5.ext E))) (by first | omega | (simp only [mkL_length]; omega) | (rw [mkL_length]))) rfl (fun _ w2 e2 hv => ?_)
  subst hv
  replace E := E.trans e2; replace h1 := h1.ext e2
  have z2 := e2.size
  refine J_st (R_assign rfl) rfl (J_done ?_)
  refine S_seq ?_
  refine S_seq ?_
  refine S_reg [true, true] rfl rfl ?_
  refine J_st (R_move rfl) rfl (J_st (R_lss rfl rfl) rfl (J_done ?_))
  refine S_cond rfl (fun hc1 => ?_) (fun hc1 => ?_)
  · have q1 := szM_no hc1 (by omega)
    refine S_seq ?_
    refine S_reg [true] rfl rfl ?_
    refine J_st (R_assign rfl) rfl (J_done ?_)
    refine S_ret (E_done1 rfl rfl E ?_)
    rfl
  · have q2 := szM_ok hc1 (by omega)
    refine S_skip ?_
    refine S_seq ?_
    refine S_reg [true, false, true, false, true] rfl rfl ?_
    refine J_st (R_loadS st30 rfl h1.at rfl) rfl ?_
    refine J_call Try.call8 rfl (c_toCluster [o1, .int .i64 x.graph.workers, .int .i64 x.graph.cap, o2, o3, o4, o5] x _ (Cluster.mkR x (RdD.any (hd1.ext E)) (RdD.any (hd2.ext E)) (RdD.any (hd3.ext E)) (RdD.any (hd4.ext E)) (RdD.any (hd5.ext E))) (by first | omega | (simp only [mkL_length]; omega) | (rw [mkL_length]))) rfl (fun v1 w3 e3 ho1 => ?_)
    obtain ⟨_, rfl, ho1⟩ := ho1
    obtain ⟨o6, o7, o8, o9, o10, rfl, hd6, hd7, hd8, hd9, hd10⟩ := Cluster.op ho1
    replace E := E.trans e3; replace h1 := h1.ext e3
    have z3 := e3.size
    refine J_st (R_move rfl) rfl ?_
    refine J_call Try.call11 rfl (s_DeficitOf [o6, .int .i64 x.graph.workers, .int .i64 x.graph.cap, o7, o8, o9, o10] x e _ (Cluster.mkR x (RdD.any hd6) (RdD.any hd7) (RdD.any hd8) (RdD.any hd9) (RdD.any hd10))) rfl (fun _ w4 e4 hv => ?_)
    subst hv
    replace E := E.trans e4; replace h1 := h1.ext e4; replace hd6 := hd6.ext e4; replace hd7 := hd7.ext e4; replace hd8 := hd8.ext e4; replace hd9 := hd9.ext e4; replace hd10 := hd10.ext e4
    have z4 := e4.size
    refine J_st (R_assign rfl) rfl (J_done ?_)
    refine S_seq ?_
    refine S_reg [true, false, false, false] rfl rfl ?_
    refine J_st (R_loadS st30 rfl h1.at rfl) rfl ?_
    refine J_call Try.call8 rfl (c_toCluster [o1, .int .i64 x.graph.workers, .int .i64 x.graph.cap, o2, o3, o4, o5] x _ (Cluster.mkR x (RdD.any (hd1.ext E)) (RdD.any (hd2.ext E)) (RdD.any (hd3.ext E)) (RdD.any (hd4.ext E)) (RdD.any (hd5.ext E))) (by first | omega | (simp only [mkL_length]; omega) | (rw [mkL_length]))) rfl (fun v2 w5 e5 ho2 => ?_)
    obtain ⟨_, rfl, ho2⟩ := ho2
    obtain ⟨o11, o12, o13, o14, o15, rfl, hd11, hd12, hd13, hd14, hd15⟩ := Cluster.op ho2
    replace E := E.trans e5; replace h1 := h1.ext e5; replace hd6 := hd6.ext e5; replace hd7 := hd7.ext e5; replace hd8 := hd8.ext e5; replace hd9 := hd9.ext e5; replace hd10 := hd10.ext e5
    have z5 := e5.size
    refine J_alloc st41 rfl (fun b2 w6 e6 s2 h2 => ?_)
    have g_b2 : w.heap.size ≤ b2 := by have := E.size; omega
    have y_b2 := h2.lt
    replace E := E.trans e6; replace h1 := h1.ext e6; replace hd6 := hd6.ext e6; replace hd7 := hd7.ext e6; replace hd8 := hd8.ext e6; replace hd9 := hd9.ext e6; replace hd10 := hd10.ext e6; replace hd11 := hd11.ext e6; replace hd12 := hd12.ext e6; replace hd13 := hd13.ext e6; replace hd14 := hd14.ext e6; replace hd15 := hd15.ext e6
    have z6 := e6.size
    refine J_storeS' (cs' := [o11, .int .i64 x.graph.workers, .int .i64 x.graph.cap, o12, o13, o14, o15]) st41 rfl rfl rfl (all_cons (RdD.one hd11) (all_cons rfl (all_cons rfl (all_cons (RdD.one hd12) (all_cons (RdD.one hd13) (all_cons (RdD.one hd14) (all_cons (RdD.one hd15) rfl))))))) h2 (Nat.le_of_ble_eq_true rfl) rfl (fun w7 m1 h2' => ?_)
    replace h2 := h2'
    replace E := E.step m1 (fun g hg => by cases hg; omega); replace h1 := h1.mod m1 (fun g hg => by cases hg; omega); replace hd6 := hd6.mod m1 (fun g hg => by cases hg; omega); replace hd7 := hd7.mod m1 (fun g hg => by cases hg; omega); replace hd8 := hd8.mod m1 (fun g hg => by cases hg; omega); replace hd9 := hd9.mod m1 (fun g hg => by cases hg; omega); replace hd10 := hd10.mod m1 (fun g hg => by cases hg; omega); replace hd11 := hd11.mod m1 (fun g hg => by cases hg; omega); replace hd12 := hd12.mod m1 (fun g hg => by cases hg; omega); replace hd13 := hd13.mod m1 (fun g hg => by cases hg; omega); replace hd14 := hd14.mod m1 (fun g hg => by cases hg; omega); replace hd15 := hd15.mod m1 (fun g hg => by cases hg; omega)
    have z7 := m1.size
    refine J_done ?_
    refine S_seq ?_
    refine S_reg [true, true, false, true] rfl rfl ?_
    refine J_st (R_loadS st41 rfl h2.at rfl) rfl (J_st (R_move rfl) rfl ?_)
    refine J_call Try.call12 rfl (c_DeficitOf [o11, .int .i64 x.graph.workers, .int .i64 x.graph.cap, o12, o13, o14, o15] x e _ (Cluster.mkR x (RdD.any hd11) (RdD.any hd12) (RdD.any hd13) (RdD.any hd14) (RdD.any hd15))) rfl (fun _ w8 e7 hv => ?_)
    subst hv
    replace E := E.trans e7; replace h1 := h1.ext e7; replace hd6 := hd6.ext e7; replace hd7 := hd7.ext e7; replace hd8 := hd8.ext e7; replace hd9 := hd9.ext e7; replace hd10 := hd10.ext e7; replace hd11 := hd11.ext e7; replace hd12 := hd12.ext e7; replace hd13 := hd13.ext e7; replace hd14 := hd14.ext e7; replace hd15 := hd15.ext e7; replace h2 := h2.ext e7
    have z8 := e7.size
    refine J_st (R_assign rfl) rfl (J_done ?_)
    refine S_seq ?_
    refine S_seq ?_
    refine S_reg [true, true, true] rfl rfl ?_
    refine J_st (R_move rfl) rfl (J_st (R_move rfl) rfl (J_st (R_neq rfl rfl) rfl (J_done ?_)))
    refine S_condFe rfl (by first | (simp; done) | (simp only [nat_nlt] <;> simp) | (simp only [mkL_length, nat_nlt] <;> simp) | (simp only [mkL_length] <;> simp)) ?_
    refine S_skip ?_
    refine S_seq ?_
    refine S_seq ?_
    refine S_regD mixed [(0, true), (1, true), (2, false), (3, false), (4, true)] (by decide +kernel) rfl (fun w9 e8 => ?_)
    replace E := E.trans e8; replace h1 := h1.ext e8; replace hd6 := hd6.ext e8; replace hd7 := hd7.ext e8; replace hd8 := hd8.ext e8; replace hd9 := hd9.ext e8; replace hd10 := hd10.ext e8; replace hd11 := hd11.ext e8; replace hd12 := hd12.ext e8; replace hd13 := hd13.ext e8; replace hd14 := hd14.ext e8; replace hd15 := hd15.ext e8; replace h2 := h2.ext e8
    have z9 := e8.size
    refine J_st (R_loadS st41 rfl h2.at rfl) rfl (J_st (R_loadS st30 rfl h1.at rfl) rfl ?_)
    refine J_call Try.call8 rfl (c_toCluster [o1, .int .i64 x.graph.workers, .int .i64 x.graph.cap, o2, o3, o4, o5] x _ (Cluster.mkR x (RdD.any (hd1.ext E)) (RdD.any (hd2.ext E)) (RdD.any (hd3.ext E)) (RdD.any (hd4.ext E)) (RdD.any (hd5.ext E))) (by first | omega | (simp only [mkL_length]; omega) | (rw [mkL_length]))) rfl (fun v3 w10 e9 ho3 => ?_)
    obtain ⟨_, rfl, ho3⟩ := ho3
    obtain ⟨o16, o17, o18, o19, o20, rfl, hd16, hd17, hd18, hd19, hd20⟩ := Cluster.op ho3
    replace E := E.trans e9; replace h1 := h1.ext e9; replace hd6 := hd6.ext e9; replace hd7 := hd7.ext e9; replace hd8 := hd8.ext e9; replace hd9 := hd9.ext e9; replace hd10 := hd10.ext e9; replace hd11 := hd11.ext e9; replace hd12 := hd12.ext e9; replace hd13 := hd13.ext e9; replace hd14 := hd14.ext e9; replace hd15 := hd15.ext e9; replace h2 := h2.ext e9
    have z10 := e9.size
    refine J_call Try.call10 rfl (c_eqCluster [o11, .int .i64 x.graph.workers, .int .i64 x.graph.cap, o12, o13, o14, o15] x [o16, .int .i64 x.graph.workers, .int .i64 x.graph.cap, o17, o18, o19, o20] x _ (Cluster.mkR x (RdD.any hd11) (RdD.any hd12) (RdD.any hd13) (RdD.any hd14) (RdD.any hd15)) (Cluster.mkR x (RdD.any hd16) (RdD.any hd17) (RdD.any hd18) (RdD.any hd19) (RdD.any hd20))) rfl (fun _ w11 e10 hv => ?_)
    subst hv
    replace E := E.trans e10; replace h1 := h1.ext e10; replace hd6 := hd6.ext e10; replace hd7 := hd7.ext e10; replace hd8 := hd8.ext e10; replace hd9 := hd9.ext e10; replace hd10 := hd10.ext e10; replace hd11 := hd11.ext e10; replace hd12 := hd12.ext e10; replace hd13 := hd13.ext e10; replace hd14 := hd14.ext e10; replace hd15 := hd15.ext e10; replace h2 := h2.ext e10; replace hd16 := hd16.ext e10; replace hd17 := hd17.ext e10; replace hd18 := hd18.ext e10; replace hd19 := hd19.ext e10; replace hd20 := hd20.ext e10
    have z11 := e10.size
    refine J_st (R_not rfl) rfl (J_done ?_)
    refine S_condFe rfl (by first | (simp; done) | (simp only [nat_nlt] <;> simp) | (simp only [mkL_length, nat_nlt] <;> simp) | (simp only [mkL_length] <;> simp)) ?_
    refine S_skip ?_
    refine S_seq ?_
    refine S_reg [true] rfl rfl ?_
    refine J_st (R_assign rfl) rfl (J_done ?_)
    refine S_ret (E_done1 rfl rfl E ?_)
    rfl

end Go.Proofs.Ytnfbnbdjdokmpaa
