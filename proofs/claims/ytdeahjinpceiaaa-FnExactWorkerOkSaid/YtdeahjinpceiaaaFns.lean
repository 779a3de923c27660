/- What the functions that the laws call come to: a contract each; no condition. -/
import Derived.Test.YtdeahjinpceiaaaTypes
namespace Go.Proofs.Ytdeahjinpceiaaa
open Go Go.Proofs.Ytdeahjinpceiaaa.X Go.Proofs
set_option maxRecDepth 20000 in
theorem c_l02Order (a : Int) (b : Int) (w : World)  : Ct Try.prog 54 [.int .i64 a, .int .i64 b] w (fun v _ => v = .int .i64 (ordI a b)) := by
  refine ct_of Try.func54 rfl Try.ntmps54 rfl ?_
  refine S_sub [(0, .int .i64 a), (1, .int .i64 b)] ⟨rfl, rfl, trivial⟩ ?_
  have E : Ext w w := Ext.refl w
  refine S_seq ?_
  refine S_reg [true] rfl rfl ?_
  refine J_st (R_assign rfl) rfl (J_done ?_)
  refine S_seq ?_
  refine S_block ?_
  refine S_seq ?_
  refine S_reg [true, true, true, true] rfl rfl ?_
  refine J_st (R_move rfl) rfl (J_st (R_move rfl) rfl (J_st (R_lss rfl rfl) rfl (J_st (R_assign rfl) rfl (J_done ?_))))
  refine S_cond rfl (fun hc1 => ?_) (fun hc1 => ?_)
  · refine S_seq ?_
    refine S_reg [true] rfl rfl ?_
    refine J_st (R_assign rfl) rfl (J_done ?_)
    refine S_ret (E_inB_ret (E_done1 rfl rfl E ?_))
    refine congrArg (Value.int .i64) ?_
    simp at *
    unfold ordI; (repeat' split) <;> first | rfl | omega
  · refine S_seq ?_
    refine S_reg [true, true, true, true] rfl rfl ?_
    refine J_st (R_move rfl) rfl (J_st (R_move rfl) rfl (J_st (R_gtr rfl rfl) rfl (J_st (R_assign rfl) rfl (J_done ?_))))
    refine S_cond rfl (fun hc2 => ?_) (fun hc2 => ?_)
    · refine S_seq ?_
      refine S_reg [true] rfl rfl ?_
      refine J_st (R_assign rfl) rfl (J_done ?_)
      refine S_ret (E_inB_ret (E_done1 rfl rfl E ?_))
      refine congrArg (Value.int .i64) ?_
      simp at *
      unfold ordI; (repeat' split) <;> first | rfl | omega
    · refine S_skip ?_
      refine S_nil (E_inB ?_)
      refine S_seq ?_
      refine S_reg [true] rfl rfl ?_
      refine J_st (R_assign rfl) rfl (J_done ?_)
      refine S_ret (E_done1 rfl rfl E ?_)
      refine congrArg (Value.int .i64) ?_
      simp at *
      unfold ordI; (repeat' split) <;> first | rfl | omega

set_option maxRecDepth 20000 in
theorem c_toCell (x : Cell) (w : World)  : Ct Try.prog 42 [.agg (Enc.enc x).toArray] w (fun v _ => v = .agg (Enc.enc x).toArray) := by
  refine ct_of Try.func42 rfl Try.ntmps42 rfl ?_
  refine S_sub [(0, .agg (Enc.enc x).toArray)] ⟨rfl, trivial⟩ ?_
  have E : Ext w w := Ext.refl w
  refine S_seq ?_
  refine S_reg [false, false] rfl rfl ?_
  refine J_box rfl rfl (fun b1 w1 e1 s1 h1 => ?_)
  have g_b1 : w.heap.size ≤ b1 := by have := E.size; omega
  have y_b1 := h1.lt
  replace E := E.trans e1
  have z1 := e1.size
  refine J_alloc st82 rfl (fun b2 w2 e2 s2 h2 => ?_)
  have g_b2 : w.heap.size ≤ b2 := by have := E.size; omega
  have y_b2 := h2.lt
  replace E := E.trans e2; replace h1 := h1.ext e2
  have z2 := e2.size
  refine J_done ?_
  refine S_seq ?_
  refine S_reg [false] rfl rfl ?_
  refine J_alloc st82 rfl (fun b3 w3 e3 s3 h3 => ?_)
  have g_b3 : w.heap.size ≤ b3 := by have := E.size; omega
  have y_b3 := h3.lt
  replace E := E.trans e3; replace h1 := h1.ext e3; replace h2 := h2.ext e3
  have z3 := e3.size
  refine J_done ?_
  refine S_seq ?_
  refine S_reg [true, true, true, false] rfl rfl ?_
  refine J_st (R_fieldAddr0 fl90_0 rfl) rfl (J_st (R_load sc3 rfl (h1.one 0 rfl)) rfl (J_st (R_fieldAddr0 fl82_0 rfl) rfl ?_))
  refine J_store' (cs' := [.int .i64 x.op, .int .i64 0, .int .i64 0, .int .i64 0]) sc3 rfl rfl rfl h3 (Nat.le_of_ble_eq_true rfl) rfl (fun w4 m1 h3' => ?_)
  replace h3 := h3'
  replace E := E.step m1 (fun g hg => by cases hg; omega); replace h1 := h1.mod m1 (fun g hg => by cases hg; omega); replace h2 := h2.mod m1 (fun g hg => by cases hg; omega)
  have z4 := m1.size
  refine J_done ?_
  refine S_seq ?_
  refine S_reg [true, true, true, false] rfl rfl ?_
  refine J_st (R_fieldAddr0 fl90_1 rfl) rfl (J_st (R_load sc3 rfl (h1.one 1 rfl)) rfl (J_st (R_fieldAddr0 fl82_1 rfl) rfl ?_))
  refine J_store' (cs' := [.int .i64 x.op, .int .i64 x.epoch, .int .i64 0, .int .i64 0]) sc3 rfl rfl rfl h3 (Nat.le_of_ble_eq_true rfl) rfl (fun w5 m2 h3' => ?_)
  replace h3 := h3'
  replace E := E.step m2 (fun g hg => by cases hg; omega); replace h1 := h1.mod m2 (fun g hg => by cases hg; omega); replace h2 := h2.mod m2 (fun g hg => by cases hg; omega)
  have z5 := m2.size
  refine J_done ?_
  refine S_seq ?_
  refine S_reg [true, true, true, false] rfl rfl ?_
  refine J_st (R_fieldAddr0 fl90_2 rfl) rfl (J_st (R_load sc3 rfl (h1.one 2 rfl)) rfl (J_st (R_fieldAddr0 fl82_2 rfl) rfl ?_))
  refine J_store' (cs' := [.int .i64 x.op, .int .i64 x.epoch, .int .i64 x.key, .int .i64 0]) sc3 rfl rfl rfl h3 (Nat.le_of_ble_eq_true rfl) rfl (fun w6 m3 h3' => ?_)
  replace h3 := h3'
  replace E := E.step m3 (fun g hg => by cases hg; omega); replace h1 := h1.mod m3 (fun g hg => by cases hg; omega); replace h2 := h2.mod m3 (fun g hg => by cases hg; omega)
  have z6 := m3.size
  refine J_done ?_
  refine S_seq ?_
  refine S_reg [true, true, true, false] rfl rfl ?_
  refine J_st (R_fieldAddr0 fl90_3 rfl) rfl (J_st (R_load sc3 rfl (h1.one 3 rfl)) rfl (J_st (R_fieldAddr0 fl82_3 rfl) rfl ?_))
  refine J_store' (cs' := [.int .i64 x.op, .int .i64 x.epoch, .int .i64 x.key, .int .i64 x.val]) sc3 rfl rfl rfl h3 (Nat.le_of_ble_eq_true rfl) rfl (fun w7 m4 h3' => ?_)
  replace h3 := h3'
  replace E := E.step m4 (fun g hg => by cases hg; omega); replace h1 := h1.mod m4 (fun g hg => by cases hg; omega); replace h2 := h2.mod m4 (fun g hg => by cases hg; omega)
  have z7 := m4.size
  refine J_done ?_
  refine S_seq ?_
  refine S_reg [true, false] rfl rfl ?_
  refine J_st (R_loadS st82 rfl h3.at rfl) rfl ?_
  refine J_storeS' (cs' := [.int .i64 x.op, .int .i64 x.epoch, .int .i64 x.key, .int .i64 x.val]) st82 rfl rfl rfl rfl h2 (Nat.le_of_ble_eq_true rfl) rfl (fun w8 m5 h2' => ?_)
  replace h2 := h2'
  replace E := E.step m5 (fun g hg => by cases hg; omega); replace h1 := h1.mod m5 (fun g hg => by cases hg; omega); replace h3 := h3.mod m5 (fun g hg => by cases hg; omega)
  have z8 := m5.size
  refine J_done ?_
  refine S_ret (E_doneC rfl rfl (run_loadVar_st st82 h2.at rfl) E ?_)
  rfl

set_option maxRecDepth 20000 in
theorem c_eqCell (x : Cell) (y : Cell) (w : World)  : Ct Try.prog 51 [.agg (Enc.enc x).toArray, .agg (Enc.enc y).toArray] w (fun v _ => v = .bool (decide (x = y))) := by
  refine ct_of Try.func51 rfl Try.ntmps51 rfl ?_
  refine S_sub [(0, .agg (Enc.enc x).toArray), (1, .agg (Enc.enc y).toArray)] ⟨rfl, rfl, trivial⟩ ?_
  have E : Ext w w := Ext.refl w
  refine S_seq ?_
  refine S_reg [false, false, true] rfl rfl ?_
  refine J_box rfl rfl (fun b1 w1 e1 s1 h1 => ?_)
  have g_b1 : w.heap.size ≤ b1 := by have := E.size; omega
  have y_b1 := h1.lt
  replace E := E.trans e1
  have z1 := e1.size
  refine J_box rfl rfl (fun b2 w2 e2 s2 h2 => ?_)
  have g_b2 : w.heap.size ≤ b2 := by have := E.size; omega
  have y_b2 := h2.lt
  replace E := E.trans e2; replace h1 := h1.ext e2
  have z2 := e2.size
  refine J_st (R_assign rfl) rfl (J_done ?_)
  refine S_seq ?_
  refine S_seq ?_
  refine S_reg [true, true, true, true, true] rfl rfl ?_
  refine J_st (R_fieldAddr0 fl82_0 rfl) rfl (J_st (R_load sc3 rfl (h1.one 0 rfl)) rfl (J_st (R_fieldAddr0 fl82_0 rfl) rfl (J_st (R_load sc3 rfl (h2.one 0 rfl)) rfl (J_st (R_neq rfl rfl) rfl (J_done ?_)))))
  refine S_cond rfl (fun hc1 => ?_) (fun hc1 => ?_)
  · refine S_seq ?_
    refine S_reg [true] rfl rfl ?_
    refine J_st (R_assign rfl) rfl (J_done ?_)
    refine S_ret (E_done1 rfl rfl E ?_)
    cases x; cases y; simp_all
  · refine S_skip ?_
    refine S_seq ?_
    refine S_seq ?_
    refine S_reg [true, true, true, true, true] rfl rfl ?_
    refine J_st (R_fieldAddr0 fl82_1 rfl) rfl (J_st (R_load sc3 rfl (h1.one 1 rfl)) rfl (J_st (R_fieldAddr0 fl82_1 rfl) rfl (J_st (R_load sc3 rfl (h2.one 1 rfl)) rfl (J_st (R_neq rfl rfl) rfl (J_done ?_)))))
    refine S_cond rfl (fun hc2 => ?_) (fun hc2 => ?_)
    · refine S_seq ?_
      refine S_reg [true] rfl rfl ?_
      refine J_st (R_assign rfl) rfl (J_done ?_)
      refine S_ret (E_done1 rfl rfl E ?_)
      cases x; cases y; simp_all
    · refine S_skip ?_
      refine S_seq ?_
      refine S_seq ?_
      refine S_reg [true, true, true, true, true] rfl rfl ?_
      refine J_st (R_fieldAddr0 fl82_2 rfl) rfl (J_st (R_load sc3 rfl (h1.one 2 rfl)) rfl (J_st (R_fieldAddr0 fl82_2 rfl) rfl (J_st (R_load sc3 rfl (h2.one 2 rfl)) rfl (J_st (R_neq rfl rfl) rfl (J_done ?_)))))
      refine S_cond rfl (fun hc3 => ?_) (fun hc3 => ?_)
      · refine S_seq ?_
        refine S_reg [true] rfl rfl ?_
        refine J_st (R_assign rfl) rfl (J_done ?_)
        refine S_ret (E_done1 rfl rfl E ?_)
        cases x; cases y; simp_all
      · refine S_skip ?_
        refine S_seq ?_
        refine S_seq ?_
        refine S_reg [true, true, true, true, true] rfl rfl ?_
        refine J_st (R_fieldAddr0 fl82_3 rfl) rfl (J_st (R_load sc3 rfl (h1.one 3 rfl)) rfl (J_st (R_fieldAddr0 fl82_3 rfl) rfl (J_st (R_load sc3 rfl (h2.one 3 rfl)) rfl (J_st (R_neq rfl rfl) rfl (J_done ?_)))))
        refine S_cond rfl (fun hc4 => ?_) (fun hc4 => ?_)
        · refine S_seq ?_
          refine S_reg [true] rfl rfl ?_
          refine J_st (R_assign rfl) rfl (J_done ?_)
          refine S_ret (E_done1 rfl rfl E ?_)
          cases x; cases y; simp_all
        · refine S_skip ?_
          refine S_seq ?_
          refine S_reg [true] rfl rfl ?_
          refine J_st (R_assign rfl) rfl (J_done ?_)
          refine S_ret (E_done1 rfl rfl E ?_)
          cases x; cases y; simp_all

set_option maxRecDepth 20000 in
theorem c_szCellS (vxs : Value) (xs : List Cell) (n : Int) (w : World) (hxs : RdS w vxs xs) (h0 : 0 ≤ n ∧ n ≤ 1048576) : Ct Try.prog 14 [vxs, .int .i64 n] w (fun v _ => v = .int .i64 (szM xs.length n)) := by
  refine ct_of Try.func14 rfl Try.ntmps14 rfl ?_
  refine S_sub [(0, vxs), (1, .int .i64 n)] ⟨rfl, rfl, trivial⟩ ?_
  have E : Ext w w := Ext.refl w
  refine S_seq ?_
  refine S_reg [true] rfl rfl ?_
  refine J_st (R_assign rfl) rfl (J_done ?_)
  refine S_seq ?_
  refine S_reg [true, true, true, true, true] rfl rfl ?_
  refine J_st (R_move rfl) rfl (J_st (R_move rfl) rfl (J_st (R_len Try.underlying26 rfl (hxs.ext E).len) rfl (J_st (R_sub rfl rfl rfl) rfl (J_st (R_assign rfl) rfl (J_done ?_)))))
  refine S_seq ?_
  refine S_seq ?_
  refine S_reg [true, true] rfl rfl ?_
  refine J_st (R_move rfl) rfl (J_st (R_lss rfl rfl) rfl (J_done ?_))
  refine S_cond rfl (fun hc1 => ?_) (fun hc1 => ?_)
  · refine S_seq ?_
    refine S_reg [true] rfl rfl ?_
    refine J_st (R_assign rfl) rfl (J_done ?_)
    refine S_ret (E_done1 rfl rfl E ?_)
    exact sz_no h0.2 h0.1 hxs.1 hc1
  · refine S_skip ?_
    refine S_seq ?_
    refine S_reg [true, true] rfl rfl ?_
    refine J_st (R_move rfl) rfl (J_st (R_assign rfl) rfl (J_done ?_))
    refine S_ret (E_done1 rfl rfl E ?_)
    exact sz_yes h0.2 h0.1 hxs.1 hc1

set_option maxRecDepth 20000 in
theorem c_eqCellS (vxs : Value) (xs : List Cell) (vys : Value) (ys : List Cell) (w : World) (hxs : RdS w vxs xs) (hys : RdS w vys ys) : Ct Try.prog 33 [vxs, vys] w (fun v _ => v = .bool (decide (xs = ys))) := by
  refine ct_of Try.func33 rfl Try.ntmps33 rfl ?_
  refine S_sub [(0, vxs), (1, vys)] ⟨rfl, rfl, trivial⟩ ?_
  have E : Ext w w := Ext.refl w
  refine S_seq ?_
  refine S_reg [true] rfl rfl ?_
  refine J_st (R_assign rfl) rfl (J_done ?_)
  refine S_seq ?_
  refine S_seq ?_
  refine S_reg [true, true, true, true, true] rfl rfl ?_
  refine J_st (R_move rfl) rfl (J_st (R_len Try.underlying40 rfl (hxs.ext E).len) rfl (J_st (R_move rfl) rfl (J_st (R_len Try.underlying40 rfl (hys.ext E).len) rfl (J_st (R_neq rfl rfl) rfl (J_done ?_)))))
  refine S_cond rfl (fun hc1 => ?_) (fun hc1 => ?_)
  · have hc1n : ¬ xs.length = ys.length := by first | (have h := of_decide_eq_true hc1; omega) | (have h := hc1; simp at h; omega)
    refine S_seq ?_
    refine S_reg [true] rfl rfl ?_
    refine J_st (R_assign rfl) rfl (J_done ?_)
    refine S_ret (E_done1 rfl rfl E ?_)
    simp [eq_len hc1n]
  · have hc1n : xs.length = ys.length := by first | (have h := of_decide_eq_false hc1; omega) | (have h := hc1; simp at h; omega)
    refine S_skip ?_
    refine S_seq ?_
    refine S_seq ?_
    refine S_reg [true] rfl rfl ?_
    refine J_st (R_assign rfl) rfl (J_done ?_)
    refine S_block ?_
    refine S_loop (fun (k : Nat) => [(0, vxs), (1, vys), (4, .bool false), (5, .int .i64 ((k : Nat) : Int))]) (fun (k : Nat) w' => Ext w w' ∧ w.heap.size ≤ w'.heap.size ∧ k ≤ xs.length ∧ xs.take k = ys.take k) (fun (k : Nat) => xs.length - k) 0 ⟨rfl, rfl, rfl, rfl, trivial⟩ ⟨E, Nat.le_refl _, Nat.zero_le _, rfl⟩ ?_
    clear E
    rintro k w1 ⟨E, z1, hk, hp⟩
    refine S_seq ?_
    refine S_seq ?_
    refine S_reg [true, true, true, true] rfl rfl ?_
    refine J_st (R_move rfl) rfl (J_st (R_move rfl) rfl (J_st (R_len Try.underlying40 rfl (hxs.ext E).len) rfl (J_st (R_lss rfl rfl) rfl (J_done ?_))))
    refine S_cond rfl (fun hc2 => ?_) (fun hc2 => ?_)
    · have hc2n : k < xs.length := by first | (have h := of_decide_eq_true hc2; omega) | (have h := hc2; simp at h; omega)
      refine S_skip ?_
      refine S_seq ?_
      refine S_block ?_
      refine S_seq ?_
      refine S_regD mixed [(0, true), (1, true), (2, true), (3, true), (4, true), (5, true), (6, true), (7, true), (8, false), (9, true)] (by decide +kernel) rfl (fun w2 e1 => ?_)
      replace E := E.trans e1
      have z2 := e1.size
      refine J_st (R_move rfl) rfl (J_st (R_move rfl) rfl ?_)
      have hi1 : k < xs.length := (by first | assumption | omega)
      refine J_st (R_index (i := k) sl40 rfl rfl (hxs.ext E) hi1) rfl (J_st (R_loadS st82 rfl ((hxs.ext E).get hi1) rfl) rfl (J_st (R_move rfl) rfl (J_st (R_move rfl) rfl ?_)))
      have hi2 : k < ys.length := (by first | assumption | omega)
      refine J_st (R_index (i := k) sl40 rfl rfl (hys.ext E) hi2) rfl (J_st (R_loadS st82 rfl ((hys.ext E).get hi2) rfl) rfl ?_)
      refine J_call Try.call51 rfl (c_eqCell (xs[k]'hi1) (ys[k]'hi2) _ ) rfl (fun _ w3 e2 hv => ?_)
      subst hv
      replace E := E.trans e2
      have z3 := e2.size
      refine J_st (R_not rfl) rfl (J_done ?_)
      refine S_cond rfl (fun hc3 => ?_) (fun hc3 => ?_)
      · refine S_seq ?_
        refine S_reg [true] rfl rfl ?_
        refine J_st (R_assign rfl) rfl (J_done ?_)
        refine S_ret (E_inB_ret (E_lp_ret (E_inB_ret (E_done1 rfl rfl E ?_))))
        exact eqS_no (by omega) (by omega) (by simpa using hc3)
      · refine S_skip ?_
        refine S_nil (E_inB ?_)
        refine S_reg [true, true, true] rfl rfl ?_
        refine J_st (R_move rfl) rfl (J_st (R_add rfl rfl (add_one hc2n hxs.1)) rfl (J_st (R_assign rfl) rfl (J_done ?_)))
        refine S_nil (E_again (k + 1) (by omega) ⟨rfl, rfl, rfl, rfl, trivial⟩ ⟨E, (by omega), (by omega), eqS_step hp (by assumption) (by omega) (by simpa using hc3)⟩)
    · have hc2n : ¬ k < xs.length := by first | (have h := of_decide_eq_false hc2; omega) | (have h := hc2; simp at h; omega)
      refine S_exit (E_lp_exit (E_inB_exit ?_))
      refine S_seq ?_
      refine S_reg [true] rfl rfl ?_
      refine J_st (R_assign rfl) rfl (J_done ?_)
      refine S_ret (E_done1 rfl rfl E ?_)
      exact eqS_yes hp hc1n (by omega)

set_option maxRecDepth 20000 in
theorem c_isNaN (a : Int) (w : World)  : Ct Try.prog 63 [.int .i64 a] w (fun v _ => v = .bool false) := by
  refine ct_of Try.func63 rfl Try.ntmps63 rfl ?_
  refine S_sub [(0, .int .i64 a)] ⟨rfl, trivial⟩ ?_
  have E : Ext w w := Ext.refl w
  refine S_seq ?_
  refine S_reg [true] rfl rfl ?_
  refine J_st (R_assign rfl) rfl (J_done ?_)
  refine S_seq ?_
  refine S_reg [true, true, true, true] rfl rfl ?_
  refine J_st (R_move rfl) rfl (J_st (R_move rfl) rfl (J_st (R_neq rfl rfl) rfl (J_st (R_assign rfl) rfl (J_done ?_))))
  refine S_ret (E_done1 rfl rfl E ?_)
  simp

set_option maxRecDepth 20000 in
theorem c_cmpCompare (a : Int) (b : Int) (w : World)  : Ct Try.prog 62 [.int .i64 a, .int .i64 b] w (fun v _ => v = .int .i64 (ordI a b)) := by
  refine ct_of Try.func62 rfl Try.ntmps62 rfl ?_
  refine S_sub [(0, .int .i64 a), (1, .int .i64 b)] ⟨rfl, rfl, trivial⟩ ?_
  have E : Ext w w := Ext.refl w
  refine S_seq ?_
  refine S_reg [true] rfl rfl ?_
  refine J_st (R_assign rfl) rfl (J_done ?_)
  refine S_seq ?_
  refine S_reg [true, false, true] rfl rfl ?_
  refine J_st (R_move rfl) rfl ?_
  refine J_call Try.call63 rfl (c_isNaN a _ ) rfl (fun _ w1 e1 hv => ?_)
  subst hv
  replace E := E.trans e1
  have z1 := e1.size
  refine J_st (R_assign rfl) rfl (J_done ?_)
  refine S_seq ?_
  refine S_reg [true, false, true] rfl rfl ?_
  refine J_st (R_move rfl) rfl ?_
  refine J_call Try.call63 rfl (c_isNaN b _ ) rfl (fun _ w2 e2 hv => ?_)
  subst hv
  replace E := E.trans e2
  have z2 := e2.size
  refine J_st (R_assign rfl) rfl (J_done ?_)
  refine S_seq ?_
  refine S_seq ?_
  refine S_reg [true] rfl rfl ?_
  refine J_st (R_move rfl) rfl (J_done ?_)
  refine S_condF rfl ?_
  refine S_skip ?_
  refine S_seq ?_
  refine S_seq ?_
  refine S_reg [true] rfl rfl ?_
  refine J_st (R_move rfl) rfl (J_done ?_)
  refine S_condF rfl ?_
  refine S_skip ?_
  refine S_seq ?_
  refine S_seq ?_
  refine S_reg [true, true, true] rfl rfl ?_
  refine J_st (R_move rfl) rfl (J_st (R_move rfl) rfl (J_st (R_lss rfl rfl) rfl (J_done ?_)))
  refine S_cond rfl (fun hc1 => ?_) (fun hc1 => ?_)
  · refine S_seq ?_
    refine S_reg [true] rfl rfl ?_
    refine J_st (R_assign rfl) rfl (J_done ?_)
    refine S_ret (E_done1 rfl rfl E ?_)
    refine congrArg (Value.int .i64) ?_
    simp at *
    unfold ordI; (repeat' split) <;> first | rfl | omega
  · refine S_skip ?_
    refine S_seq ?_
    refine S_seq ?_
    refine S_reg [true, true, true] rfl rfl ?_
    refine J_st (R_move rfl) rfl (J_st (R_move rfl) rfl (J_st (R_gtr rfl rfl) rfl (J_done ?_)))
    refine S_cond rfl (fun hc2 => ?_) (fun hc2 => ?_)
    · refine S_seq ?_
      refine S_reg [true] rfl rfl ?_
      refine J_st (R_assign rfl) rfl (J_done ?_)
      refine S_ret (E_done1 rfl rfl E ?_)
      refine congrArg (Value.int .i64) ?_
      simp at *
      unfold ordI; (repeat' split) <;> first | rfl | omega
    · refine S_skip ?_
      refine S_seq ?_
      refine S_reg [true] rfl rfl ?_
      refine J_st (R_assign rfl) rfl (J_done ?_)
      refine S_ret (E_done1 rfl rfl E ?_)
      refine congrArg (Value.int .i64) ?_
      simp at *
      unfold ordI; (repeat' split) <;> first | rfl | omega

set_option maxRecDepth 20000 in
theorem c_slicesCompare (vxs : Value) (xs : List Int) (vys : Value) (ys : List Int) (w : World) (hxs : RdS w vxs xs) (hys : RdS w vys ys) : Ct Try.prog 61 [vxs, vys] w (fun v _ => v = .int .i64 (cmpL xs ys)) := by
  refine ct_of Try.func61 rfl Try.ntmps61 rfl ?_
  refine S_sub [(0, vxs), (1, vys)] ⟨rfl, rfl, trivial⟩ ?_
  have E : Ext w w := Ext.refl w
  refine S_seq ?_
  refine S_reg [true] rfl rfl ?_
  refine J_st (R_assign rfl) rfl (J_done ?_)
  refine S_seq ?_
  refine S_seq ?_
  refine S_reg [true, true, true] rfl rfl ?_
  refine J_st (R_move rfl) rfl (J_st (R_len Try.underlying27 rfl (hxs.ext E).len) rfl (J_st (R_move rfl) rfl (J_done ?_)))
  refine S_block ?_
  refine S_loop (fun (k : Nat) => [(0, vxs), (1, vys), (4, .int .i64 0), (9, vxs), (10, .int .i64 ((xs.length : Nat) : Int)), (11, .int .i64 ((k : Nat) : Int))]) (fun (k : Nat) w' => Ext w w' ∧ w.heap.size ≤ w'.heap.size ∧ k ≤ xs.length ∧ k ≤ ys.length ∧ cmpL (xs.drop k) (ys.drop k) = cmpL xs ys) (fun (k : Nat) => xs.length - k) 0 ⟨rfl, rfl, rfl, rfl, rfl, rfl, trivial⟩ ⟨E, Nat.le_refl _, Nat.zero_le _, Nat.zero_le _, rfl⟩ ?_
  clear E
  rintro k w1 ⟨E, z1, hk, hky, hI⟩
  refine S_seq ?_
  refine S_reg [true] rfl rfl ?_
  refine J_st (R_lss rfl rfl) rfl (J_done ?_)
  refine S_seq ?_
  refine S_cond rfl (fun hc1 => ?_) (fun hc1 => ?_)
  · have hc1n : k < xs.length := by first | (have h := of_decide_eq_true hc1; omega) | (have h := hc1; simp at h; omega)
    refine S_skip ?_
    refine S_seq ?_
    refine S_block ?_
    refine S_seq ?_
    refine S_reg [true, true, true, true, true] rfl rfl ?_
    refine J_st (R_move rfl) rfl ?_
    have hi1 : k < xs.length := (by first | assumption | omega)
    refine J_st (R_index (i := k) sl27 rfl rfl (hxs.ext E) hi1) rfl (J_st (R_load sc3 rfl (((hxs.ext E).get hi1).one 0 rfl)) rfl (J_st (R_assign rfl) rfl (J_st (R_assign rfl) rfl (J_done ?_))))
    refine S_seq ?_
    refine S_seq ?_
    refine S_reg [true, true, true, true] rfl rfl ?_
    refine J_st (R_move rfl) rfl (J_st (R_move rfl) rfl (J_st (R_len Try.underlying27 rfl (hys.ext E).len) rfl (J_st (R_geq rfl rfl) rfl (J_done ?_))))
    refine S_cond rfl (fun hc2 => ?_) (fun hc2 => ?_)
    · have hc2n : k ≥ ys.length := by first | (have h := of_decide_eq_true hc2; omega) | (have h := hc2; simp at h; omega)
      refine S_seq ?_
      refine S_reg [true] rfl rfl ?_
      refine J_st (R_assign rfl) rfl (J_done ?_)
      refine S_ret (E_inB_ret (E_lp_ret (E_inB_ret (E_done1 rfl rfl E ?_))))
      exact cmpL_1 hI (by omega) (by omega)
    · have hc2n : ¬ k ≥ ys.length := by first | (have h := of_decide_eq_false hc2; omega) | (have h := hc2; simp at h; omega)
      refine S_skip ?_
      refine S_seq ?_
      refine S_reg [true, true, true, true, true] rfl rfl ?_
      refine J_st (R_move rfl) rfl (J_st (R_move rfl) rfl ?_)
      have hi2 : k < ys.length := (by first | assumption | omega)
      refine J_st (R_index (i := k) sl27 rfl rfl (hys.ext E) hi2) rfl (J_st (R_load sc3 rfl (((hys.ext E).get hi2).one 0 rfl)) rfl (J_st (R_assign rfl) rfl (J_done ?_)))
      refine S_seq ?_
      refine S_reg [true, true, false, true] rfl rfl ?_
      refine J_st (R_move rfl) rfl (J_st (R_move rfl) rfl ?_)
      refine J_call Try.call62 rfl (c_cmpCompare (xs[k]'hi1) (ys[k]'hi2) _ ) rfl (fun _ w2 e1 hv => ?_)
      subst hv
      replace E := E.trans e1
      have z2 := e1.size
      refine J_st (R_assign rfl) rfl (J_done ?_)
      refine S_seq ?_
      refine S_reg [true, true] rfl rfl ?_
      refine J_st (R_move rfl) rfl (J_st (R_neq rfl rfl) rfl (J_done ?_))
      refine S_cond rfl (fun hc3 => ?_) (fun hc3 => ?_)
      · refine S_seq ?_
        refine S_reg [true, true] rfl rfl ?_
        refine J_st (R_move rfl) rfl (J_st (R_assign rfl) rfl (J_done ?_))
        refine S_ret (E_inB_ret (E_lp_ret (E_inB_ret (E_done1 rfl rfl E ?_))))
        exact cmpL_2 hI (by omega) (by omega) (by simpa using hc3)
      · refine S_skip ?_
        refine S_nil (E_inB ?_)
        refine S_reg [true, true] rfl rfl ?_
        refine J_st (R_add rfl rfl (add_one hc1n hxs.1)) rfl (J_st (R_move rfl) rfl (J_done ?_))
        refine S_nil (E_again (k + 1) (by omega) ⟨rfl, rfl, rfl, rfl, rfl, rfl, trivial⟩ ⟨E, (by omega), (by omega), (by omega), cmpL_step hI (by omega) (by omega) (by simpa using hc3)⟩)
  · have hc1n : ¬ k < xs.length := by first | (have h := of_decide_eq_false hc1; omega) | (have h := hc1; simp at h; omega)
    refine S_exit (E_lp_exit (E_inB_exit ?_))
    refine S_seq ?_
    refine S_seq ?_
    refine S_reg [true, true, true, true, true] rfl rfl ?_
    refine J_st (R_move rfl) rfl (J_st (R_len Try.underlying27 rfl (hxs.ext E).len) rfl (J_st (R_move rfl) rfl (J_st (R_len Try.underlying27 rfl (hys.ext E).len) rfl (J_st (R_lss rfl rfl) rfl (J_done ?_)))))
    refine S_cond rfl (fun hc4 => ?_) (fun hc4 => ?_)
    · have hc4n : xs.length < ys.length := by first | (have h := of_decide_eq_true hc4; omega) | (have h := hc4; simp at h; omega)
      refine S_seq ?_
      refine S_reg [true] rfl rfl ?_
      refine J_st (R_assign rfl) rfl (J_done ?_)
      refine S_ret (E_done1 rfl rfl E ?_)
      exact cmpL_3 hI (by omega) (by omega)
    · have hc4n : ¬ xs.length < ys.length := by first | (have h := of_decide_eq_false hc4; omega) | (have h := hc4; simp at h; omega)
      refine S_skip ?_
      refine S_seq ?_
      refine S_reg [true] rfl rfl ?_
      refine J_st (R_assign rfl) rfl (J_done ?_)
      refine S_ret (E_done1 rfl rfl E ?_)
      exact cmpL_4 hI (by omega) (by omega)

set_option maxRecDepth 20000 in
theorem c_orderOf (vxs : Value) (xs : List Int) (vys : Value) (ys : List Int) (w : World) (hxs : RdS w vxs xs) (hys : RdS w vys ys) : Ct Try.prog 58 [vxs, vys] w (fun v _ => v = .int .i64 (cmpL xs ys)) := by
  refine ct_of Try.func58 rfl Try.ntmps58 rfl ?_
  refine S_sub [(0, vxs), (1, vys)] ⟨rfl, rfl, trivial⟩ ?_
  have E : Ext w w := Ext.refl w
  refine S_seq ?_
  refine S_reg [true] rfl rfl ?_
  refine J_st (R_assign rfl) rfl (J_done ?_)
  refine S_seq ?_
  refine S_reg [true, true, false, true] rfl rfl ?_
  refine J_st (R_move rfl) rfl (J_st (R_move rfl) rfl ?_)
  refine J_call Try.call61 rfl (c_slicesCompare vxs xs vys ys _ (hxs.ext E) (hys.ext E)) rfl (fun _ w1 e1 hv => ?_)
  subst hv
  replace E := E.trans e1
  have z1 := e1.size
  refine J_st (R_assign rfl) rfl (J_done ?_)
  refine S_ret (E_done1 rfl rfl E ?_)
  rfl

set_option maxRecDepth 20000 in
theorem c_CellOrder (x : Cell) (y : Cell) (w : World)  : Ct Try.prog 46 [.agg (Enc.enc x).toArray, .agg (Enc.enc y).toArray] w (fun v _ => v = .int .i64 (cellOrd x y)) := by
  refine ct_of Try.func46 rfl Try.ntmps46 rfl ?_
  refine S_sub [(0, .agg (Enc.enc x).toArray), (1, .agg (Enc.enc y).toArray)] ⟨rfl, rfl, trivial⟩ ?_
  have E : Ext w w := Ext.refl w
  refine S_seq ?_
  refine S_reg [false, false, true] rfl rfl ?_
  refine J_box rfl rfl (fun b1 w1 e1 s1 h1 => ?_)
  have g_b1 : w.heap.size ≤ b1 := by have := E.size; omega
  have y_b1 := h1.lt
  replace E := E.trans e1
  have z1 := e1.size
  refine J_box rfl rfl (fun b2 w2 e2 s2 h2 => ?_)
  have g_b2 : w.heap.size ≤ b2 := by have := E.size; omega
  have y_b2 := h2.lt
  replace E := E.trans e2; replace h1 := h1.ext e2
  have z2 := e2.size
  refine J_st (R_assign rfl) rfl (J_done ?_)
  refine S_seq ?_
  refine S_reg [true, true, true, true, true, true, true, true, false, true, true, true, true, true, true, true, true, false, false, true] rfl rfl ?_
  refine J_st (R_fieldAddr0 fl82_1 rfl) rfl (J_st (R_load sc3 rfl (h1.one 1 rfl)) rfl (J_st (R_fieldAddr0 fl82_0 rfl) rfl (J_st (R_load sc3 rfl (h1.one 0 rfl)) rfl (J_st (R_fieldAddr0 fl82_2 rfl) rfl (J_st (R_load sc3 rfl (h1.one 2 rfl)) rfl (J_st (R_fieldAddr0 fl82_3 rfl) rfl (J_st (R_load sc3 rfl (h1.one 3 rfl)) rfl ?_)))))))
  refine J_buildSlice (vs := [.int .i64 x.epoch, .int .i64 x.op, .int .i64 x.key, .int .i64 x.val]) (css := [[.int .i64 x.epoch], [.int .i64 x.op], [.int .i64 x.key], [.int .i64 x.val]]) sl27 rfl rfl ⟨⟨rfl, rfl⟩, ⟨rfl, rfl⟩, ⟨rfl, rfl⟩, ⟨rfl, rfl⟩, trivial⟩ rfl rfl (fun b3 w3 e3 s3 h3 => ?_)
  replace h3 : Blk w3 b3 [.int .i64 x.epoch, .int .i64 x.op, .int .i64 x.key, .int .i64 x.val] := h3
  have g_b3 : w.heap.size ≤ b3 := by have := E.size; omega
  have y_b3 := h3.lt
  replace E := E.trans e3; replace h1 := h1.ext e3; replace h2 := h2.ext e3
  have z3 := e3.size
  refine J_st (R_fieldAddr0 fl82_1 rfl) rfl (J_st (R_load sc3 rfl (h2.one 1 rfl)) rfl (J_st (R_fieldAddr0 fl82_0 rfl) rfl (J_st (R_load sc3 rfl (h2.one 0 rfl)) rfl (J_st (R_fieldAddr0 fl82_2 rfl) rfl (J_st (R_load sc3 rfl (h2.one 2 rfl)) rfl (J_st (R_fieldAddr0 fl82_3 rfl) rfl (J_st (R_load sc3 rfl (h2.one 3 rfl)) rfl ?_)))))))
  refine J_buildSlice (vs := [.int .i64 y.epoch, .int .i64 y.op, .int .i64 y.key, .int .i64 y.val]) (css := [[.int .i64 y.epoch], [.int .i64 y.op], [.int .i64 y.key], [.int .i64 y.val]]) sl27 rfl rfl ⟨⟨rfl, rfl⟩, ⟨rfl, rfl⟩, ⟨rfl, rfl⟩, ⟨rfl, rfl⟩, trivial⟩ rfl rfl (fun b4 w4 e4 s4 h4 => ?_)
  replace h4 : Blk w4 b4 [.int .i64 y.epoch, .int .i64 y.op, .int .i64 y.key, .int .i64 y.val] := h4
  have g_b4 : w.heap.size ≤ b4 := by have := E.size; omega
  have y_b4 := h4.lt
  replace E := E.trans e4; replace h1 := h1.ext e4; replace h2 := h2.ext e4; replace h3 := h3.ext e4
  have z4 := e4.size
  refine J_call Try.call58 rfl (c_orderOf (.slice (some ⟨b3, 0, none⟩) 4 4) [x.epoch, x.op, x.key, x.val] (.slice (some ⟨b4, 0, none⟩) 4 4) [y.epoch, y.op, y.key, y.val] _ (Blk.rd (α := Int) (xs := [x.epoch, x.op, x.key, x.val]) (by decide) h3 rfl (by simp [maxLen])) (Blk.rd (α := Int) (xs := [y.epoch, y.op, y.key, y.val]) (by decide) h4 rfl (by simp [maxLen]))) rfl (fun _ w5 e5 hv => ?_)
  subst hv
  replace E := E.trans e5; replace h1 := h1.ext e5; replace h2 := h2.ext e5; replace h3 := h3.ext e5; replace h4 := h4.ext e5
  have z5 := e5.size
  refine J_st (R_assign rfl) rfl (J_done ?_)
  refine S_ret (E_done1 rfl rfl E ?_)
  rfl

set_option maxRecDepth 20000 in
theorem s_CellOrder (x : Cell) (y : Cell) (w : World)  : Ct Try.prog 39 [.agg (Enc.enc x).toArray, .agg (Enc.enc y).toArray] w (fun v _ => v = .int .i64 (cellOrd x y)) := by
  refine ct_of Try.func39 rfl Try.ntmps39 rfl ?_
  refine S_sub [(0, .agg (Enc.enc x).toArray), (1, .agg (Enc.enc y).toArray)] ⟨rfl, rfl, trivial⟩ ?_
  have E : Ext w w := Ext.refl w
  refine S_seq ?_
  refine S_reg [false, false, true] rfl rfl ?_
  refine J_box rfl rfl (fun b1 w1 e1 s1 h1 => ?_)
  have g_b1 : w.heap.size ≤ b1 := by have := E.size; omega
  have y_b1 := h1.lt
  replace E := E.trans e1
  have z1 := e1.size
  refine J_box rfl rfl (fun b2 w2 e2 s2 h2 => ?_)
  have g_b2 : w.heap.size ≤ b2 := by have := E.size; omega
  have y_b2 := h2.lt
  replace E := E.trans e2; replace h1 := h1.ext e2
  have z2 := e2.size
  refine J_st (R_assign rfl) rfl (J_done ?_)
  refine S_seq ?_
  refine S_regD mixed [(0, true), (1, true), (2, true), (3, true), (5, true), (6, true), (7, true), (8, true), (10, true), (11, true), (12, true), (13, true), (15, true), (16, true), (17, true), (18, true), (4, false), (9, false), (14, false), (19, false), (20, false), (21, true)] (by decide +kernel) rfl (fun w3 e3 => ?_)
  replace E := E.trans e3; replace h1 := h1.ext e3; replace h2 := h2.ext e3
  have z3 := e3.size
  refine J_st (R_fieldAddr0 fl82_1 rfl) rfl (J_st (R_load sc3 rfl (h1.one 1 rfl)) rfl (J_st (R_fieldAddr0 fl82_1 rfl) rfl (J_st (R_load sc3 rfl (h2.one 1 rfl)) rfl (J_st (R_fieldAddr0 fl82_0 rfl) rfl (J_st (R_load sc3 rfl (h1.one 0 rfl)) rfl (J_st (R_fieldAddr0 fl82_0 rfl) rfl (J_st (R_load sc3 rfl (h2.one 0 rfl)) rfl (J_st (R_fieldAddr0 fl82_2 rfl) rfl (J_st (R_load sc3 rfl (h1.one 2 rfl)) rfl (J_st (R_fieldAddr0 fl82_2 rfl) rfl (J_st (R_load sc3 rfl (h2.one 2 rfl)) rfl (J_st (R_fieldAddr0 fl82_3 rfl) rfl (J_st (R_load sc3 rfl (h1.one 3 rfl)) rfl (J_st (R_fieldAddr0 fl82_3 rfl) rfl (J_st (R_load sc3 rfl (h2.one 3 rfl)) rfl ?_)))))))))))))))
  refine J_call Try.call54 rfl (c_l02Order x.epoch y.epoch _ ) rfl (fun _ w4 e4 hv => ?_)
  subst hv
  replace E := E.trans e4; replace h1 := h1.ext e4; replace h2 := h2.ext e4
  have z4 := e4.size
  refine J_call Try.call54 rfl (c_l02Order x.op y.op _ ) rfl (fun _ w5 e5 hv => ?_)
  subst hv
  replace E := E.trans e5; replace h1 := h1.ext e5; replace h2 := h2.ext e5
  have z5 := e5.size
  refine J_call Try.call54 rfl (c_l02Order x.key y.key _ ) rfl (fun _ w6 e6 hv => ?_)
  subst hv
  replace E := E.trans e6; replace h1 := h1.ext e6; replace h2 := h2.ext e6
  have z6 := e6.size
  refine J_call Try.call54 rfl (c_l02Order x.val y.val _ ) rfl (fun _ w7 e7 hv => ?_)
  subst hv
  replace E := E.trans e7; replace h1 := h1.ext e7; replace h2 := h2.ext e7
  have z7 := e7.size
  refine J_buildSlice (vs := [.int .i64 (ordI x.epoch y.epoch), .int .i64 (ordI x.op y.op), .int .i64 (ordI x.key y.key), .int .i64 (ordI x.val y.val)]) (css := [[.int .i64 (ordI x.epoch y.epoch)], [.int .i64 (ordI x.op y.op)], [.int .i64 (ordI x.key y.key)], [.int .i64 (ordI x.val y.val)]]) sl27 rfl rfl ⟨⟨rfl, rfl⟩, ⟨rfl, rfl⟩, ⟨rfl, rfl⟩, ⟨rfl, rfl⟩, trivial⟩ rfl rfl (fun b3 w8 e8 s3 h3 => ?_)
  replace h3 : Blk w8 b3 [.int .i64 (ordI x.epoch y.epoch), .int .i64 (ordI x.op y.op), .int .i64 (ordI x.key y.key), .int .i64 (ordI x.val y.val)] := h3
  have g_b3 : w.heap.size ≤ b3 := by have := E.size; omega
  have y_b3 := h3.lt
  replace E := E.trans e8; replace h1 := h1.ext e8; replace h2 := h2.ext e8
  have z8 := e8.size
  refine J_st (R_assign rfl) rfl (J_done ?_)
  refine S_seq ?_
  refine S_seq ?_
  refine S_reg [true] rfl rfl ?_
  refine J_st (R_assign rfl) rfl (J_done ?_)
  refine S_block ?_
  refine S_loop (fun (k : Nat) => [(4, .int .i64 0), (5, .slice (some ⟨b3, 0, none⟩) 4 4), (6, .int .i64 ((k : Nat) : Int))]) (fun (k : Nat) w' => Ext w w' ∧ w8.heap.size ≤ w'.heap.size ∧ Blk w' b1 (Enc.enc x) ∧ Blk w' b2 (Enc.enc y) ∧ Blk w' b3 [.int .i64 (ordI x.epoch y.epoch), .int .i64 (ordI x.op y.op), .int .i64 (ordI x.key y.key), .int .i64 (ordI x.val y.val)] ∧ k ≤ 4 ∧ firstNZ (List.drop k [ordI x.epoch y.epoch, ordI x.op y.op, ordI x.key y.key, ordI x.val y.val]) = firstNZ [ordI x.epoch y.epoch, ordI x.op y.op, ordI x.key y.key, ordI x.val y.val]) (fun (k : Nat) => 4 - k) 0 ⟨rfl, rfl, rfl, trivial⟩ ⟨E, Nat.le_refl _, h1, h2, h3, Nat.zero_le _, rfl⟩ ?_
  clear E h1 h2 h3
  rintro k w9 ⟨E, z9, h1, h2, h3, hk, hI⟩
  refine S_seq ?_
  refine S_seq ?_
  refine S_reg [true, true] rfl rfl ?_
  refine J_st (R_move rfl) rfl (J_st (R_lss rfl rfl) rfl (J_done ?_))
  refine S_cond rfl (fun hc1 => ?_) (fun hc1 => ?_)
  · have hc1n : k < 4 := by first | (have h := of_decide_eq_true hc1; omega) | (have h := hc1; simp at h; omega)
    refine S_skip ?_
    refine S_seq ?_
    refine S_block ?_
    refine S_seq ?_
    refine S_reg [true, true, true, true, true] rfl rfl ?_
    refine J_st (R_move rfl) rfl (J_st (R_move rfl) rfl ?_)
    have hi1 : k < [ordI x.epoch y.epoch, ordI x.op y.op, ordI x.key y.key, ordI x.val y.val].length := (by first | assumption | omega)
    refine J_st (R_index (i := k) sl27 rfl rfl (Blk.rd (α := Int) (xs := [ordI x.epoch y.epoch, ordI x.op y.op, ordI x.key y.key, ordI x.val y.val]) (by decide) h3 rfl (by simp [maxLen])) hi1) rfl (J_st (R_load sc3 rfl (((Blk.rd (α := Int) (xs := [ordI x.epoch y.epoch, ordI x.op y.op, ordI x.key y.key, ordI x.val y.val]) (by decide) h3 rfl (by simp [maxLen])).get hi1).one 0 rfl)) rfl (J_st (R_neq rfl rfl) rfl (J_done ?_)))
    refine S_cond rfl (fun hc2 => ?_) (fun hc2 => ?_)
    · refine S_seq ?_
      refine S_reg [true, true, true, true, true] rfl rfl ?_
      refine J_st (R_move rfl) rfl (J_st (R_move rfl) rfl (J_st (R_index (i := k) sl27 rfl rfl (Blk.rd (α := Int) (xs := [ordI x.epoch y.epoch, ordI x.op y.op, ordI x.key y.key, ordI x.val y.val]) (by decide) h3 rfl (by simp [maxLen])) hi1) rfl (J_st (R_load sc3 rfl (((Blk.rd (α := Int) (xs := [ordI x.epoch y.epoch, ordI x.op y.op, ordI x.key y.key, ordI x.val y.val]) (by decide) h3 rfl (by simp [maxLen])).get hi1).one 0 rfl)) rfl (J_st (R_assign rfl) rfl (J_done ?_)))))
      refine S_ret (E_inB_ret (E_lp_ret (E_inB_ret (E_done1 rfl rfl E ?_))))
      exact cellOrd_a (firstNZ_yes hI (by simpa using hc1n) (by simpa using hc2))
    · refine S_skip ?_
      refine S_nil (E_inB ?_)
      refine S_reg [true, true, true] rfl rfl ?_
      refine J_st (R_move rfl) rfl (J_st (R_add rfl rfl (add_one hc1n (by first | assumption | (unfold maxLen; omega)))) rfl (J_st (R_assign rfl) rfl (J_done ?_)))
      refine S_nil (E_again (k + 1) (by omega) ⟨rfl, rfl, rfl, trivial⟩ ⟨E, (by omega), h1, h2, h3, (by omega), firstNZ_step hI (by simpa using hc1n) (by simpa using hc2)⟩)
  · have hc1n : ¬ k < 4 := by first | (have h := of_decide_eq_false hc1; omega) | (have h := hc1; simp at h; omega)
    refine S_exit (E_lp_exit (E_inB_exit ?_))
    refine S_seq ?_
    refine S_reg [true] rfl rfl ?_
    refine J_st (R_assign rfl) rfl (J_done ?_)
    refine S_ret (E_done1 rfl rfl E ?_)
    exact cellOrd_b (firstNZ_no hI (by simp; omega))

set_option maxRecDepth 20000 in
theorem c_toCellS (vxs : Value) (xs : List Cell) (w : World) (hxs : RdS w vxs xs) (hb : xs.length ≤ 1048576) : Ct Try.prog 23 [vxs] w (fun v w' => Own w' w.heap.size w'.heap.size 4 v (List.flatMap (Enc.enc (α := Cell)) xs)) := by
  refine ct_of Try.func23 rfl Try.ntmps23 rfl ?_
  refine S_sub [(0, vxs)] ⟨rfl, trivial⟩ ?_
  have E : Ext w w := Ext.refl w
  refine S_seq ?_
  refine S_reg [true] rfl rfl ?_
  refine J_st (R_assign rfl) rfl (J_done ?_)
  refine S_seq ?_
  refine S_reg [true, true, false, true] rfl rfl ?_
  refine J_st (R_move rfl) rfl (J_st (R_len Try.underlying26 rfl (hxs.ext E).len) rfl ?_)
  refine J_make (m := xs.length) sl40 rfl rfl (by omega) (by decide) rfl (fun b1 w1 e1 s1 h1 => ?_)
  have g_b1 : w.heap.size ≤ b1 := by have := E.size; omega
  have y_b1 := h1.lt
  replace E := E.trans e1
  have z1 := e1.size
  refine J_st (R_assign rfl) rfl (J_done ?_)
  refine S_seq ?_
  refine S_seq ?_
  refine S_reg [true] rfl rfl ?_
  refine J_st (R_assign rfl) rfl (J_done ?_)
  refine S_block ?_
  refine S_loop (fun (k : Nat) => [(0, vxs), (2, .slice none 0 0), (3, .slice (some ⟨b1, 0, none⟩) xs.length xs.length), (4, .int .i64 ((k : Nat) : Int))]) (fun (k : Nat) w' => Ext w w' ∧ w1.heap.size ≤ w'.heap.size ∧ k ≤ xs.length ∧ Blk w' b1 (mk xs [.int .i64 0, .int .i64 0, .int .i64 0, .int .i64 0] k xs.length)) (fun (k : Nat) => xs.length - k) 0 ⟨rfl, rfl, rfl, rfl, trivial⟩ ⟨E, Nat.le_refl _, Nat.zero_le _, (mk_zero xs [.int .i64 0, .int .i64 0, .int .i64 0, .int .i64 0] xs.length) ▸ h1⟩ ?_
  clear E h1
  rintro k w2 ⟨E, z2, hk, h1⟩
  refine S_seq ?_
  refine S_seq ?_
  refine S_reg [true, true, true, true] rfl rfl ?_
  refine J_st (R_move rfl) rfl (J_st (R_move rfl) rfl (J_st (R_len Try.underlying26 rfl (hxs.ext E).len) rfl (J_st (R_lss rfl rfl) rfl (J_done ?_))))
  refine S_cond rfl (fun hc1 => ?_) (fun hc1 => ?_)
  · have hc1n : k < xs.length := by first | (have h := of_decide_eq_true hc1; omega) | (have h := hc1; simp at h; omega)
    refine S_skip ?_
    refine S_seq ?_
    refine S_block ?_
    refine S_reg [true, true, true, true, true, true, false, true, false] rfl rfl ?_
    refine J_st (R_move rfl) rfl (J_st (R_move rfl) rfl (J_st (R_move rfl) rfl (J_st (R_move rfl) rfl ?_)))
    have hi1 : k < xs.length := (by first | assumption | omega)
    refine J_st (R_index (i := k) sl26 rfl rfl (hxs.ext E) hi1) rfl (J_st (R_loadS st90 rfl ((hxs.ext E).get hi1) rfl) rfl ?_)
    refine J_call Try.call42 rfl (c_toCell (xs[k]'hi1) _ ) rfl (fun _ w3 e2 hv => ?_)
    subst hv
    replace E := E.trans e2; replace h1 := h1.ext e2
    have z3 := e2.size
    refine J_st (R_indexB sl40 rfl rfl (by first | assumption | omega)) rfl ?_
    refine J_storeS' (cs' := mk xs [.int .i64 0, .int .i64 0, .int .i64 0, .int .i64 0] (k + 1) xs.length) st82 rfl rfl rfl rfl h1 (mk_room xs [.int .i64 0, .int .i64 0, .int .i64 0, .int .i64 0] rfl hc1n hc1n (by rfl)) (mk_step xs [.int .i64 0, .int .i64 0, .int .i64 0, .int .i64 0] rfl hc1n hc1n) (fun w4 m1 h1' => ?_)
    replace h1 := h1'
    replace E := E.step m1 (fun g hg => by cases hg; omega)
    have z4 := m1.size
    refine J_done ?_
    refine S_nil (E_inB ?_)
    refine S_reg [true, true, true] rfl rfl ?_
    refine J_st (R_move rfl) rfl (J_st (R_add rfl rfl (add_one hc1n hxs.1)) rfl (J_st (R_assign rfl) rfl (J_done ?_)))
    refine S_nil (E_again (k + 1) (by omega) ⟨rfl, rfl, rfl, rfl, trivial⟩ ⟨E, (by omega), (by omega), h1⟩)
  · have hc1n : ¬ k < xs.length := by first | (have h := of_decide_eq_false hc1; omega) | (have h := hc1; simp at h; omega)
    refine S_exit (E_lp_exit (E_inB_exit ?_))
    refine S_seq ?_
    refine S_reg [true, true] rfl rfl ?_
    refine J_st (R_move rfl) rfl (J_st (R_assign rfl) rfl (J_done ?_))
    refine S_ret (E_done1 rfl rfl E ?_)
    obtain rfl : k = xs.length := by omega
    rw [mk_all] at h1
    exact Own.ofBlk h1 (by omega) (by have := h1.lt; omega) (sum_flat xs) hxs.1

set_option maxRecDepth 20000 in
theorem s_CellsOk (vxs : Value) (xs : List Cell) (w : World) (hxs : RdS w vxs xs) : Ct Try.prog 19 [vxs] w (fun v _ => v = .bool ((adj xs).all cellLt)) := by
  refine ct_of Try.func19 rfl Try.ntmps19 rfl ?_
  refine S_sub [(0, vxs)] ⟨rfl, trivial⟩ ?_
  have E : Ext w w := Ext.refl w
  refine S_seq ?_
  refine S_reg [true] rfl rfl ?_
  refine J_st (R_assign rfl) rfl (J_done ?_)
  refine S_seq ?_
  refine S_seq ?_
  refine S_reg [true] rfl rfl ?_
  refine J_st (R_assign rfl) rfl (J_done ?_)
  refine S_block ?_
  refine S_loop (fun (j : Nat) => [(0, vxs), (2, .bool false), (3, .int .i64 ((j + 1 : Nat) : Int))]) (fun (j : Nat) w' => Ext w w' ∧ w.heap.size ≤ w'.heap.size ∧ ((adj xs).take j).all cellLt = true) (fun (j : Nat) => xs.length - j) 0 ⟨rfl, rfl, rfl, trivial⟩ ⟨E, Nat.le_refl _, rfl⟩ ?_
  clear E
  rintro j w1 ⟨E, z1, hI⟩
  have hlm := hxs.1
  unfold maxLen at hlm
  refine S_seq ?_
  refine S_seq ?_
  refine S_reg [true, true, true, true] rfl rfl ?_
  refine J_st (R_move rfl) rfl (J_st (R_move rfl) rfl (J_st (R_len Try.underlying40 rfl (hxs.ext E).len) rfl (J_st (R_lss rfl rfl) rfl (J_done ?_))))
  refine S_cond rfl (fun hc1 => ?_) (fun hc1 => ?_)
  · have hc1n : j + 1 < xs.length := by first | (have h := of_decide_eq_true hc1; omega) | (have h := hc1; simp at h; omega)
    refine S_skip ?_
    refine S_seq ?_
    refine S_block ?_
    refine S_seq ?_
    refine S_regD mixed [(0, true), (1, true), (2, true), (3, true), (4, true), (5, true), (6, true), (7, true), (8, true), (9, false), (10, true)] (by decide +kernel) rfl (fun w2 e1 => ?_)
    replace E := E.trans e1
    have z2 := e1.size
    refine J_st (R_move rfl) rfl (J_st (R_move rfl) rfl (J_st (R_sub rfl rfl (sub_one (m := j) (by unfold maxLen; omega))) rfl ?_))
    have hi1 : j < xs.length := (by first | assumption | omega)
    refine J_st (R_index (i := j) sl40 rfl rfl (hxs.ext E) hi1) rfl (J_st (R_loadS st82 rfl ((hxs.ext E).get hi1) rfl) rfl (J_st (R_move rfl) rfl (J_st (R_move rfl) rfl ?_)))
    have hi2 : j + 1 < xs.length := (by first | assumption | omega)
    refine J_st (R_index (i := j + 1) sl40 rfl rfl (hxs.ext E) hi2) rfl (J_st (R_loadS st82 rfl ((hxs.ext E).get hi2) rfl) rfl ?_)
    refine J_call Try.call39 rfl (s_CellOrder (xs[j]'hi1) (xs[j + 1]'hi2) _ ) rfl (fun _ w3 e2 hv => ?_)
    subst hv
    replace E := E.trans e2
    have z3 := e2.size
    refine J_st (R_geq rfl rfl) rfl (J_done ?_)
    refine S_cond rfl (fun hc2 => ?_) (fun hc2 => ?_)
    · refine S_seq ?_
      refine S_reg [true] rfl rfl ?_
      refine J_st (R_assign rfl) rfl (J_done ?_)
      refine S_ret (E_inB_ret (E_lp_ret (E_inB_ret (E_done1 rfl rfl E ?_))))
      exact adj_no hc1n (by simpa [cellLt] using hc2)
    · refine S_skip ?_
      refine S_nil (E_inB ?_)
      refine S_reg [true, true, true] rfl rfl ?_
      refine J_st (R_move rfl) rfl (J_st (R_add rfl rfl (add_one hc1n hxs.1)) rfl (J_st (R_assign rfl) rfl (J_done ?_)))
      refine S_nil (E_again (j + 1) (by omega) ⟨rfl, rfl, rfl, trivial⟩ ⟨E, (by omega), adj_step hI (by assumption) (by simpa [cellLt] using hc2)⟩)
  · have hc1n : ¬ j + 1 < xs.length := by first | (have h := of_decide_eq_false hc1; omega) | (have h := hc1; simp at h; omega)
    refine S_exit (E_lp_exit (E_inB_exit ?_))
    refine S_seq ?_
    refine S_reg [true] rfl rfl ?_
    refine J_st (R_assign rfl) rfl (J_done ?_)
    refine S_ret (E_done1 rfl rfl E ?_)
    exact adj_yes hI (by omega)

set_option maxRecDepth 20000 in
theorem c_CellsOk (vxs : Value) (xs : List Cell) (w : World) (hxs : RdS w vxs xs) : Ct Try.prog 28 [vxs] w (fun v _ => v = .bool ((adj xs).all cellLt)) := by
  refine ct_of Try.func28 rfl Try.ntmps28 rfl ?_
  refine S_sub [(0, vxs)] ⟨rfl, trivial⟩ ?_
  have E : Ext w w := Ext.refl w
  refine S_seq ?_
  refine S_reg [true] rfl rfl ?_
  refine J_st (R_assign rfl) rfl (J_done ?_)
  refine S_seq ?_
  refine S_seq ?_
  refine S_reg [true] rfl rfl ?_
  refine J_st (R_assign rfl) rfl (J_done ?_)
  refine S_block ?_
  refine S_loop (fun (j : Nat) => [(0, vxs), (2, .bool false), (3, .int .i64 ((j + 1 : Nat) : Int))]) (fun (j : Nat) w' => Ext w w' ∧ w.heap.size ≤ w'.heap.size ∧ ((adj xs).take j).all cellLt = true) (fun (j : Nat) => xs.length - j) 0 ⟨rfl, rfl, rfl, trivial⟩ ⟨E, Nat.le_refl _, rfl⟩ ?_
  clear E
  rintro j w1 ⟨E, z1, hI⟩
  have hlm := hxs.1
  unfold maxLen at hlm
  refine S_seq ?_
  refine S_seq ?_
  refine S_reg [true, true, true, true] rfl rfl ?_
  refine J_st (R_move rfl) rfl (J_st (R_move rfl) rfl (J_st (R_len Try.underlying40 rfl (hxs.ext E).len) rfl (J_st (R_lss rfl rfl) rfl (J_done ?_))))
  refine S_cond rfl (fun hc1 => ?_) (fun hc1 => ?_)
  · have hc1n : j + 1 < xs.length := by first | (have h := of_decide_eq_true hc1; omega) | (have h := hc1; simp at h; omega)
    refine S_skip ?_
    refine S_seq ?_
    refine S_block ?_
    refine S_seq ?_
    refine S_regD mixed [(0, true), (1, true), (2, true), (3, true), (4, true), (5, true), (6, true), (7, true), (8, true), (9, false), (10, true)] (by decide +kernel) rfl (fun w2 e1 => ?_)
    replace E := E.trans e1
    have z2 := e1.size
    refine J_st (R_move rfl) rfl (J_st (R_move rfl) rfl (J_st (R_sub rfl rfl (sub_one (m := j) (by unfold maxLen; omega))) rfl ?_))
    have hi1 : j < xs.length := (by first | assumption | omega)
    refine J_st (R_index (i := j) sl40 rfl rfl (hxs.ext E) hi1) rfl (J_st (R_loadS st82 rfl ((hxs.ext E).get hi1) rfl) rfl (J_st (R_move rfl) rfl (J_st (R_move rfl) rfl ?_)))
    have hi2 : j + 1 < xs.length := (by first | assumption | omega)
    refine J_st (R_index (i := j + 1) sl40 rfl rfl (hxs.ext E) hi2) rfl (J_st (R_loadS st82 rfl ((hxs.ext E).get hi2) rfl) rfl ?_)
    refine J_call Try.call46 rfl (c_CellOrder (xs[j]'hi1) (xs[j + 1]'hi2) _ ) rfl (fun _ w3 e2 hv => ?_)
    subst hv
    replace E := E.trans e2
    have z3 := e2.size
    refine J_st (R_geq rfl rfl) rfl (J_done ?_)
    refine S_cond rfl (fun hc2 => ?_) (fun hc2 => ?_)
    · refine S_seq ?_
      refine S_reg [true] rfl rfl ?_
      refine J_st (R_assign rfl) rfl (J_done ?_)
      refine S_ret (E_inB_ret (E_lp_ret (E_inB_ret (E_done1 rfl rfl E ?_))))
      exact adj_no hc1n (by simpa [cellLt] using hc2)
    · refine S_skip ?_
      refine S_nil (E_inB ?_)
      refine S_reg [true, true, true] rfl rfl ?_
      refine J_st (R_move rfl) rfl (J_st (R_add rfl rfl (add_one hc1n hxs.1)) rfl (J_st (R_assign rfl) rfl (J_done ?_)))
      refine S_nil (E_again (j + 1) (by omega) ⟨rfl, rfl, rfl, trivial⟩ ⟨E, (by omega), adj_step hI (by assumption) (by simpa [cellLt] using hc2)⟩)
  · have hc1n : ¬ j + 1 < xs.length := by first | (have h := of_decide_eq_false hc1; omega) | (have h := hc1; simp at h; omega)
    refine S_exit (E_lp_exit (E_inB_exit ?_))
    refine S_seq ?_
    refine S_reg [true] rfl rfl ?_
    refine J_st (R_assign rfl) rfl (J_done ?_)
    refine S_ret (E_done1 rfl rfl E ?_)
    exact adj_yes hI (by omega)

set_option maxRecDepth 20000 in
theorem c_szIntS (vxs : Value) (xs : List Int) (n : Int) (w : World) (hxs : RdS w vxs xs) (h0 : 0 ≤ n ∧ n ≤ 1048576) : Ct Try.prog 15 [vxs, .int .i64 n] w (fun v _ => v = .int .i64 (szM xs.length n)) := by
  refine ct_of Try.func15 rfl Try.ntmps15 rfl ?_
  refine S_sub [(0, vxs), (1, .int .i64 n)] ⟨rfl, rfl, trivial⟩ ?_
  have E : Ext w w := Ext.refl w
  refine S_seq ?_
  refine S_reg [true] rfl rfl ?_
  refine J_st (R_assign rfl) rfl (J_done ?_)
  refine S_seq ?_
  refine S_reg [true, true, true, true, true] rfl rfl ?_
  refine J_st (R_move rfl) rfl (J_st (R_move rfl) rfl (J_st (R_len Try.underlying27 rfl (hxs.ext E).len) rfl (J_st (R_sub rfl rfl rfl) rfl (J_st (R_assign rfl) rfl (J_done ?_)))))
  refine S_seq ?_
  refine S_seq ?_
  refine S_reg [true, true] rfl rfl ?_
  refine J_st (R_move rfl) rfl (J_st (R_lss rfl rfl) rfl (J_done ?_))
  refine S_cond rfl (fun hc1 => ?_) (fun hc1 => ?_)
  · refine S_seq ?_
    refine S_reg [true] rfl rfl ?_
    refine J_st (R_assign rfl) rfl (J_done ?_)
    refine S_ret (E_done1 rfl rfl E ?_)
    exact sz_no h0.2 h0.1 hxs.1 hc1
  · refine S_skip ?_
    refine S_seq ?_
    refine S_reg [true, true] rfl rfl ?_
    refine J_st (R_move rfl) rfl (J_st (R_assign rfl) rfl (J_done ?_))
    refine S_ret (E_done1 rfl rfl E ?_)
    exact sz_yes h0.2 h0.1 hxs.1 hc1

set_option maxRecDepth 20000 in
theorem c_toIntS (vxs : Value) (xs : List Int) (w : World) (hxs : RdS w vxs xs) (hb : xs.length ≤ 1048576) : Ct Try.prog 24 [vxs] w (fun v w' => Own w' w.heap.size w'.heap.size 1 v (List.flatMap (Enc.enc (α := Int)) xs)) := by
  refine ct_of Try.func24 rfl Try.ntmps24 rfl ?_
  refine S_sub [(0, vxs)] ⟨rfl, trivial⟩ ?_
  have E : Ext w w := Ext.refl w
  refine S_seq ?_
  refine S_reg [true] rfl rfl ?_
  refine J_st (R_assign rfl) rfl (J_done ?_)
  refine S_seq ?_
  refine S_reg [true, true, false, true] rfl rfl ?_
  refine J_st (R_move rfl) rfl (J_st (R_len Try.underlying27 rfl (hxs.ext E).len) rfl ?_)
  refine J_make (m := xs.length) sl27 rfl rfl (by omega) (by decide) rfl (fun b1 w1 e1 s1 h1 => ?_)
  have g_b1 : w.heap.size ≤ b1 := by have := E.size; omega
  have y_b1 := h1.lt
  replace E := E.trans e1
  have z1 := e1.size
  refine J_st (R_assign rfl) rfl (J_done ?_)
  refine S_seq ?_
  refine S_seq ?_
  refine S_reg [true] rfl rfl ?_
  refine J_st (R_assign rfl) rfl (J_done ?_)
  refine S_block ?_
  refine S_loop (fun (k : Nat) => [(0, vxs), (2, .slice none 0 0), (3, .slice (some ⟨b1, 0, none⟩) xs.length xs.length), (4, .int .i64 ((k : Nat) : Int))]) (fun (k : Nat) w' => Ext w w' ∧ w1.heap.size ≤ w'.heap.size ∧ k ≤ xs.length ∧ Blk w' b1 (mk xs [.int .i64 0] k xs.length)) (fun (k : Nat) => xs.length - k) 0 ⟨rfl, rfl, rfl, rfl, trivial⟩ ⟨E, Nat.le_refl _, Nat.zero_le _, (mk_zero xs [.int .i64 0] xs.length) ▸ h1⟩ ?_
  clear E h1
  rintro k w2 ⟨E, z2, hk, h1⟩
  refine S_seq ?_
  refine S_seq ?_
  refine S_reg [true, true, true, true] rfl rfl ?_
  refine J_st (R_move rfl) rfl (J_st (R_move rfl) rfl (J_st (R_len Try.underlying27 rfl (hxs.ext E).len) rfl (J_st (R_lss rfl rfl) rfl (J_done ?_))))
  refine S_cond rfl (fun hc1 => ?_) (fun hc1 => ?_)
  · have hc1n : k < xs.length := by first | (have h := of_decide_eq_true hc1; omega) | (have h := hc1; simp at h; omega)
    refine S_skip ?_
    refine S_seq ?_
    refine S_block ?_
    refine S_reg [true, true, true, true, true, true, true, false] rfl rfl ?_
    refine J_st (R_move rfl) rfl (J_st (R_move rfl) rfl (J_st (R_move rfl) rfl (J_st (R_move rfl) rfl ?_)))
    have hi1 : k < xs.length := (by first | assumption | omega)
    refine J_st (R_index (i := k) sl27 rfl rfl (hxs.ext E) hi1) rfl (J_st (R_load sc3 rfl (((hxs.ext E).get hi1).one 0 rfl)) rfl (J_st (R_indexB sl27 rfl rfl (by first | assumption | omega)) rfl ?_))
    refine J_store' (cs' := mk xs [.int .i64 0] (k + 1) xs.length) sc3 rfl rfl rfl h1 (mk_room xs [.int .i64 0] rfl hc1n hc1n (by rfl)) (mk_step xs [.int .i64 0] rfl hc1n hc1n) (fun w3 m1 h1' => ?_)
    replace h1 := h1'
    replace E := E.step m1 (fun g hg => by cases hg; omega)
    have z3 := m1.size
    refine J_done ?_
    refine S_nil (E_inB ?_)
    refine S_reg [true, true, true] rfl rfl ?_
    refine J_st (R_move rfl) rfl (J_st (R_add rfl rfl (add_one hc1n hxs.1)) rfl (J_st (R_assign rfl) rfl (J_done ?_)))
    refine S_nil (E_again (k + 1) (by omega) ⟨rfl, rfl, rfl, rfl, trivial⟩ ⟨E, (by omega), (by omega), h1⟩)
  · have hc1n : ¬ k < xs.length := by first | (have h := of_decide_eq_false hc1; omega) | (have h := hc1; simp at h; omega)
    refine S_exit (E_lp_exit (E_inB_exit ?_))
    refine S_seq ?_
    refine S_reg [true, true] rfl rfl ?_
    refine J_st (R_move rfl) rfl (J_st (R_assign rfl) rfl (J_done ?_))
    refine S_ret (E_done1 rfl rfl E ?_)
    obtain rfl : k = xs.length := by omega
    rw [mk_all] at h1
    exact Own.ofBlk h1 (by omega) (by have := h1.lt; omega) (sum_flat xs) hxs.1

set_option maxRecDepth 20000 in
theorem c_eqIntS (vxs : Value) (xs : List Int) (vys : Value) (ys : List Int) (w : World) (hxs : RdS w vxs xs) (hys : RdS w vys ys) : Ct Try.prog 34 [vxs, vys] w (fun v _ => v = .bool (decide (xs = ys))) := by
  refine ct_of Try.func34 rfl Try.ntmps34 rfl ?_
  refine S_sub [(0, vxs), (1, vys)] ⟨rfl, rfl, trivial⟩ ?_
  have E : Ext w w := Ext.refl w
  refine S_seq ?_
  refine S_reg [true] rfl rfl ?_
  refine J_st (R_assign rfl) rfl (J_done ?_)
  refine S_seq ?_
  refine S_seq ?_
  refine S_reg [true, true, true, true, true] rfl rfl ?_
  refine J_st (R_move rfl) rfl (J_st (R_len Try.underlying27 rfl (hxs.ext E).len) rfl (J_st (R_move rfl) rfl (J_st (R_len Try.underlying27 rfl (hys.ext E).len) rfl (J_st (R_neq rfl rfl) rfl (J_done ?_)))))
  refine S_cond rfl (fun hc1 => ?_) (fun hc1 => ?_)
  · have hc1n : ¬ xs.length = ys.length := by first | (have h := of_decide_eq_true hc1; omega) | (have h := hc1; simp at h; omega)
    refine S_seq ?_
    refine S_reg [true] rfl rfl ?_
    refine J_st (R_assign rfl) rfl (J_done ?_)
    refine S_ret (E_done1 rfl rfl E ?_)
    simp [eq_len hc1n]
  · have hc1n : xs.length = ys.length := by first | (have h := of_decide_eq_false hc1; omega) | (have h := hc1; simp at h; omega)
    refine S_skip ?_
    refine S_seq ?_
    refine S_seq ?_
    refine S_reg [true] rfl rfl ?_
    refine J_st (R_assign rfl) rfl (J_done ?_)
    refine S_block ?_
    refine S_loop (fun (k : Nat) => [(0, vxs), (1, vys), (4, .bool false), (5, .int .i64 ((k : Nat) : Int))]) (fun (k : Nat) w' => Ext w w' ∧ w.heap.size ≤ w'.heap.size ∧ k ≤ xs.length ∧ xs.take k = ys.take k) (fun (k : Nat) => xs.length - k) 0 ⟨rfl, rfl, rfl, rfl, trivial⟩ ⟨E, Nat.le_refl _, Nat.zero_le _, rfl⟩ ?_
    clear E
    rintro k w1 ⟨E, z1, hk, hp⟩
    refine S_seq ?_
    refine S_seq ?_
    refine S_reg [true, true, true, true] rfl rfl ?_
    refine J_st (R_move rfl) rfl (J_st (R_move rfl) rfl (J_st (R_len Try.underlying27 rfl (hxs.ext E).len) rfl (J_st (R_lss rfl rfl) rfl (J_done ?_))))
    refine S_cond rfl (fun hc2 => ?_) (fun hc2 => ?_)
    · have hc2n : k < xs.length := by first | (have h := of_decide_eq_true hc2; omega) | (have h := hc2; simp at h; omega)
      refine S_skip ?_
      refine S_seq ?_
      refine S_block ?_
      refine S_seq ?_
      refine S_regD mixed [(0, true), (1, true), (2, true), (3, true), (4, true), (5, true), (6, true), (7, true), (8, true)] (by decide +kernel) rfl (fun w2 e1 => ?_)
      replace E := E.trans e1
      have z2 := e1.size
      refine J_st (R_move rfl) rfl (J_st (R_move rfl) rfl ?_)
      have hi1 : k < xs.length := (by first | assumption | omega)
      refine J_st (R_index (i := k) sl27 rfl rfl (hxs.ext E) hi1) rfl (J_st (R_load sc3 rfl (((hxs.ext E).get hi1).one 0 rfl)) rfl (J_st (R_move rfl) rfl (J_st (R_move rfl) rfl ?_)))
      have hi2 : k < ys.length := (by first | assumption | omega)
      refine J_st (R_index (i := k) sl27 rfl rfl (hys.ext E) hi2) rfl (J_st (R_load sc3 rfl (((hys.ext E).get hi2).one 0 rfl)) rfl (J_st (R_neq rfl rfl) rfl (J_done ?_)))
      refine S_cond rfl (fun hc3 => ?_) (fun hc3 => ?_)
      · refine S_seq ?_
        refine S_reg [true] rfl rfl ?_
        refine J_st (R_assign rfl) rfl (J_done ?_)
        refine S_ret (E_inB_ret (E_lp_ret (E_inB_ret (E_done1 rfl rfl E ?_))))
        exact eqS_no (by omega) (by omega) (by simpa using hc3)
      · refine S_skip ?_
        refine S_nil (E_inB ?_)
        refine S_reg [true, true, true] rfl rfl ?_
        refine J_st (R_move rfl) rfl (J_st (R_add rfl rfl (add_one hc2n hxs.1)) rfl (J_st (R_assign rfl) rfl (J_done ?_)))
        refine S_nil (E_again (k + 1) (by omega) ⟨rfl, rfl, rfl, rfl, trivial⟩ ⟨E, (by omega), (by omega), eqS_step hp (by assumption) (by omega) (by simpa using hc3)⟩)
    · have hc2n : ¬ k < xs.length := by first | (have h := of_decide_eq_false hc2; omega) | (have h := hc2; simp at h; omega)
      refine S_exit (E_lp_exit (E_inB_exit ?_))
      refine S_seq ?_
      refine S_reg [true] rfl rfl ?_
      refine J_st (R_assign rfl) rfl (J_done ?_)
      refine S_ret (E_done1 rfl rfl E ?_)
      exact eqS_yes hp hc1n (by omega)

set_option maxRecDepth 20000 in
theorem c_szNode (cx : List Value) (x : Node) (n : Int) (w : World) (hx : Dat.R w 0 w.heap.size cx x) (h0 : 0 ≤ n ∧ n ≤ 1048576) : Ct Try.prog 37 [.agg cx.toArray, .int .i64 n] w (fun v _ => v = .int .i64 (szM (cntNode x) n)) := by
  refine ct_of Try.func37 rfl Try.ntmps37 rfl ?_
  obtain ⟨o1, rfl, hd1⟩ := Node.op hx
  refine S_sub [(0, .agg [.int .i64 x.kind, .int .i64 x.a, .int .i64 x.b, o1].toArray), (1, .int .i64 n)] ⟨rfl, rfl, trivial⟩ ?_
  have E : Ext w w := Ext.refl w
  refine S_seq ?_
  refine S_reg [false, true] rfl rfl ?_
  refine J_box rfl rfl (fun b1 w1 e1 s1 h1 => ?_)
  have g_b1 : w.heap.size ≤ b1 := by have := E.size; omega
  have y_b1 := h1.lt
  replace E := E.trans e1
  have z1 := e1.size
  refine J_st (R_assign rfl) rfl (J_done ?_)
  refine S_seq ?_
  refine S_reg [true, true, true, false, true] rfl rfl ?_
  refine J_st (R_fieldAddr0 fl78_3 rfl) rfl (J_st (R_load sc27 rfl (h1.one 3 rfl)) rfl (J_st (R_move rfl) rfl ?_))
  refine J_call Try.call15 rfl (c_szIntS o1 x.outs n _ (hd1.rd.ext E) (by first | omega | (simp only [mkL_length]; omega) | (rw [mkL_length]))) rfl (fun _ w2 e2 hv => ?_)
  subst hv
  replace E := E.trans e2; replace h1 := h1.ext e2
  have z2 := e2.size
  refine J_st (R_assign rfl) rfl (J_done ?_)
  refine S_seq ?_
  refine S_seq ?_
  refine S_reg [true, true] rfl rfl ?_
  refine J_st (R_move rfl) rfl (J_st (R_lss rfl rfl) rfl (J_done ?_))
  refine S_cond rfl (fun hc1 => ?_) (fun hc1 => ?_)
  · have q1 := szM_no hc1 (by omega)
    refine S_seq ?_
    refine S_reg [true] rfl rfl ?_
    refine J_st (R_assign rfl) rfl (J_done ?_)
    refine S_ret (E_done1 rfl rfl E ?_)
    first | exact sz_neg (by unfold cntNode; omega) | exact sz_fin (by unfold cntNode; omega) (by unfold cntNode; omega)
  · have q2 := szM_ok hc1 (by omega)
    refine S_skip ?_
    refine S_seq ?_
    refine S_reg [true, true] rfl rfl ?_
    refine J_st (R_move rfl) rfl (J_st (R_assign rfl) rfl (J_done ?_))
    refine S_ret (E_done1 rfl rfl E ?_)
    first | exact sz_neg (by unfold cntNode; omega) | exact sz_fin (by unfold cntNode; omega) (by unfold cntNode; omega)

set_option maxRecDepth 20000 in
theorem c_toNode (cx : List Value) (x : Node) (w : World) (hx : Dat.R w 0 w.heap.size cx x) (hb : cntNode x ≤ 1048576) : Ct Try.prog 40 [.agg cx.toArray] w (fun v w' => ∃ cs, v = .agg cs.toArray ∧ Own1.O w' w.heap.size w'.heap.size cs x) := by
  unfold cntNode at hb
  refine ct_of Try.func40 rfl Try.ntmps40 rfl ?_
  obtain ⟨o1, rfl, hd1⟩ := Node.op hx
  refine S_sub [(0, .agg [.int .i64 x.kind, .int .i64 x.a, .int .i64 x.b, o1].toArray)] ⟨rfl, trivial⟩ ?_
  have E : Ext w w := Ext.refl w
  refine S_seq ?_
  refine S_reg [false, false] rfl rfl ?_
  refine J_box rfl rfl (fun b1 w1 e1 s1 h1 => ?_)
  have g_b1 : w.heap.size ≤ b1 := by have := E.size; omega
  have y_b1 := h1.lt
  replace E := E.trans e1
  have z1 := e1.size
  refine J_alloc st83 rfl (fun b2 w2 e2 s2 h2 => ?_)
  have g_b2 : w.heap.size ≤ b2 := by have := E.size; omega
  have y_b2 := h2.lt
  replace E := E.trans e2; replace h1 := h1.ext e2
  have z2 := e2.size
  refine J_done ?_
  refine S_seq ?_
  refine S_reg [false] rfl rfl ?_
  refine J_alloc st83 rfl (fun b3 w3 e3 s3 h3 => ?_)
  have g_b3 : w.heap.size ≤ b3 := by have := E.size; omega
  have y_b3 := h3.lt
  replace E := E.trans e3; replace h1 := h1.ext e3; replace h2 := h2.ext e3
  have z3 := e3.size
  refine J_done ?_
  refine S_seq ?_
  refine S_reg [true, true, true, false] rfl rfl ?_
  refine J_st (R_fieldAddr0 fl78_0 rfl) rfl (J_st (R_load sc3 rfl (h1.one 0 rfl)) rfl (J_st (R_fieldAddr0 fl83_0 rfl) rfl ?_))
  refine J_store' (cs' := [.int .i64 x.kind, .int .i64 0, .int .i64 0, .slice none 0 0]) sc3 rfl rfl rfl h3 (Nat.le_of_ble_eq_true rfl) rfl (fun w4 m1 h3' => ?_)
  replace h3 := h3'
  replace E := E.step m1 (fun g hg => by cases hg; omega); replace h1 := h1.mod m1 (fun g hg => by cases hg; omega); replace h2 := h2.mod m1 (fun g hg => by cases hg; omega)
  have z4 := m1.size
  refine J_done ?_
  refine S_seq ?_
  refine S_reg [true, true, true, false] rfl rfl ?_
  refine J_st (R_fieldAddr0 fl78_1 rfl) rfl (J_st (R_load sc3 rfl (h1.one 1 rfl)) rfl (J_st (R_fieldAddr0 fl83_1 rfl) rfl ?_))
  refine J_store' (cs' := [.int .i64 x.kind, .int .i64 x.a, .int .i64 0, .slice none 0 0]) sc3 rfl rfl rfl h3 (Nat.le_of_ble_eq_true rfl) rfl (fun w5 m2 h3' => ?_)
  replace h3 := h3'
  replace E := E.step m2 (fun g hg => by cases hg; omega); replace h1 := h1.mod m2 (fun g hg => by cases hg; omega); replace h2 := h2.mod m2 (fun g hg => by cases hg; omega)
  have z5 := m2.size
  refine J_done ?_
  refine S_seq ?_
  refine S_reg [true, true, true, false] rfl rfl ?_
  refine J_st (R_fieldAddr0 fl78_2 rfl) rfl (J_st (R_load sc3 rfl (h1.one 2 rfl)) rfl (J_st (R_fieldAddr0 fl83_2 rfl) rfl ?_))
  refine J_store' (cs' := [.int .i64 x.kind, .int .i64 x.a, .int .i64 x.b, .slice none 0 0]) sc3 rfl rfl rfl h3 (Nat.le_of_ble_eq_true rfl) rfl (fun w6 m3 h3' => ?_)
  replace h3 := h3'
  replace E := E.step m3 (fun g hg => by cases hg; omega); replace h1 := h1.mod m3 (fun g hg => by cases hg; omega); replace h2 := h2.mod m3 (fun g hg => by cases hg; omega)
  have z6 := m3.size
  refine J_done ?_
  refine S_seq ?_
  refine S_reg [true, true, false, true, false] rfl rfl ?_
  refine J_st (R_fieldAddr0 fl78_3 rfl) rfl (J_st (R_load sc27 rfl (h1.one 3 rfl)) rfl ?_)
  refine J_call Try.call24 rfl (c_toIntS o1 x.outs _ (hd1.rd.ext E) (by first | omega | (simp only [mkL_length]; omega) | (rw [mkL_length]))) rfl (fun v1 w7 e4 ho1 => ?_)
  have g_ho1 : w.heap.size ≤ w6.heap.size := E.size
  replace E := E.trans e4; replace h1 := h1.ext e4; replace h2 := h2.ext e4; replace h3 := h3.ext e4
  have z7 := e4.size
  refine J_st (R_fieldAddr0 fl83_3 rfl) rfl ?_
  refine J_store' (cs' := [.int .i64 x.kind, .int .i64 x.a, .int .i64 x.b, v1]) sc27 rfl rfl ho1.one h3 (Nat.le_of_ble_eq_true rfl) rfl (fun w8 m4 h3' => ?_)
  replace h3 := h3'
  replace E := E.step m4 (fun g hg => by cases hg; omega); replace h1 := h1.mod m4 (fun g hg => by cases hg; omega); replace h2 := h2.mod m4 (fun g hg => by cases hg; omega); replace ho1 := ho1.mod m4 (fun g hg => by cases hg; omega)
  have z8 := m4.size
  refine J_done ?_
  refine S_seq ?_
  refine S_reg [true, false] rfl rfl ?_
  refine J_st (R_loadS st83 rfl h3.at rfl) rfl ?_
  refine J_storeS' (cs' := [.int .i64 x.kind, .int .i64 x.a, .int .i64 x.b, v1]) st83 rfl rfl rfl (all_cons rfl (all_cons rfl (all_cons rfl (all_cons ho1.one rfl)))) h2 (Nat.le_of_ble_eq_true rfl) rfl (fun w9 m5 h2' => ?_)
  replace h2 := h2'
  replace E := E.step m5 (fun g hg => by cases hg; omega); replace h1 := h1.mod m5 (fun g hg => by cases hg; omega); replace h3 := h3.mod m5 (fun g hg => by cases hg; omega); replace ho1 := ho1.mod m5 (fun g hg => by cases hg; omega)
  have z9 := m5.size
  refine J_done ?_
  refine S_ret (E_doneC rfl rfl (run_loadVar_st st83 h2.at rfl) E ?_)
  exact ⟨_, rfl, Node.mkO x ⟨trivial, trivial⟩ (Own.widen ho1 (by omega) (by omega))⟩

set_option maxRecDepth 20000 in
theorem c_eqNode (cx : List Value) (x : Node) (cy : List Value) (y : Node) (w : World) (hx : Dat.R w 0 w.heap.size cx x) (hy : Dat.R w 0 w.heap.size cy y) : Ct Try.prog 49 [.agg cx.toArray, .agg cy.toArray] w (fun v _ => v = .bool (decide (x = y))) := by
  refine ct_of Try.func49 rfl Try.ntmps49 rfl ?_
  obtain ⟨o1, rfl, hd1⟩ := Node.op hx
  obtain ⟨o2, rfl, hd2⟩ := Node.op hy
  refine S_sub [(0, .agg [.int .i64 x.kind, .int .i64 x.a, .int .i64 x.b, o1].toArray), (1, .agg [.int .i64 y.kind, .int .i64 y.a, .int .i64 y.b, o2].toArray)] ⟨rfl, rfl, trivial⟩ ?_
  have E : Ext w w := Ext.refl w
  refine S_seq ?_
  refine S_reg [false, false, true] rfl rfl ?_
  refine J_box rfl rfl (fun b1 w1 e1 s1 h1 => ?_)
  have g_b1 : w.heap.size ≤ b1 := by have := E.size; omega
  have y_b1 := h1.lt
  replace E := E.trans e1
  have z1 := e1.size
  refine J_box rfl rfl (fun b2 w2 e2 s2 h2 => ?_)
  have g_b2 : w.heap.size ≤ b2 := by have := E.size; omega
  have y_b2 := h2.lt
  replace E := E.trans e2; replace h1 := h1.ext e2
  have z2 := e2.size
  refine J_st (R_assign rfl) rfl (J_done ?_)
  refine S_seq ?_
  refine S_seq ?_
  refine S_reg [true, true, true, true, true] rfl rfl ?_
  refine J_st (R_fieldAddr0 fl83_0 rfl) rfl (J_st (R_load sc3 rfl (h1.one 0 rfl)) rfl (J_st (R_fieldAddr0 fl83_0 rfl) rfl (J_st (R_load sc3 rfl (h2.one 0 rfl)) rfl (J_st (R_neq rfl rfl) rfl (J_done ?_)))))
  refine S_cond rfl (fun hc1 => ?_) (fun hc1 => ?_)
  · refine S_seq ?_
    refine S_reg [true] rfl rfl ?_
    refine J_st (R_assign rfl) rfl (J_done ?_)
    refine S_ret (E_done1 rfl rfl E ?_)
    cases x; cases y; simp_all
  · refine S_skip ?_
    refine S_seq ?_
    refine S_seq ?_
    refine S_reg [true, true, true, true, true] rfl rfl ?_
    refine J_st (R_fieldAddr0 fl83_1 rfl) rfl (J_st (R_load sc3 rfl (h1.one 1 rfl)) rfl (J_st (R_fieldAddr0 fl83_1 rfl) rfl (J_st (R_load sc3 rfl (h2.one 1 rfl)) rfl (J_st (R_neq rfl rfl) rfl (J_done ?_)))))
    refine S_cond rfl (fun hc2 => ?_) (fun hc2 => ?_)
    · refine S_seq ?_
      refine S_reg [true] rfl rfl ?_
      refine J_st (R_assign rfl) rfl (J_done ?_)
      refine S_ret (E_done1 rfl rfl E ?_)
      cases x; cases y; simp_all
    · refine S_skip ?_
      refine S_seq ?_
      refine S_seq ?_
      refine S_reg [true, true, true, true, true] rfl rfl ?_
      refine J_st (R_fieldAddr0 fl83_2 rfl) rfl (J_st (R_load sc3 rfl (h1.one 2 rfl)) rfl (J_st (R_fieldAddr0 fl83_2 rfl) rfl (J_st (R_load sc3 rfl (h2.one 2 rfl)) rfl (J_st (R_neq rfl rfl) rfl (J_done ?_)))))
      refine S_cond rfl (fun hc3 => ?_) (fun hc3 => ?_)
      · refine S_seq ?_
        refine S_reg [true] rfl rfl ?_
        refine J_st (R_assign rfl) rfl (J_done ?_)
        refine S_ret (E_done1 rfl rfl E ?_)
        cases x; cases y; simp_all
      · refine S_skip ?_
        refine S_seq ?_
        refine S_seq ?_
        refine S_reg [true, true, true, true, false, true] rfl rfl ?_
        refine J_st (R_fieldAddr0 fl83_3 rfl) rfl (J_st (R_load sc27 rfl (h1.one 3 rfl)) rfl (J_st (R_fieldAddr0 fl83_3 rfl) rfl (J_st (R_load sc27 rfl (h2.one 3 rfl)) rfl ?_)))
        refine J_call Try.call34 rfl (c_eqIntS o1 x.outs o2 y.outs _ (hd1.rd.ext E) (hd2.rd.ext E)) rfl (fun _ w3 e3 hv => ?_)
        subst hv
        replace E := E.trans e3; replace h1 := h1.ext e3; replace h2 := h2.ext e3
        have z3 := e3.size
        refine J_st (R_not rfl) rfl (J_done ?_)
        refine S_cond rfl (fun hc4 => ?_) (fun hc4 => ?_)
        · refine S_seq ?_
          refine S_reg [true] rfl rfl ?_
          refine J_st (R_assign rfl) rfl (J_done ?_)
          refine S_ret (E_done1 rfl rfl E ?_)
          cases x; cases y; simp_all
        · refine S_skip ?_
          refine S_seq ?_
          refine S_reg [true] rfl rfl ?_
          refine J_st (R_assign rfl) rfl (J_done ?_)
          refine S_ret (E_done1 rfl rfl E ?_)
          cases x; cases y; simp_all

set_option maxRecDepth 20000 in
theorem c_szNodeS (vxs : Value) (xs : List Node) (n : Int) (w : World) (hxs : RdD w 0 w.heap.size vxs xs) (h0 : 0 ≤ n ∧ n ≤ 1048576) : Ct Try.prog 12 [vxs, .int .i64 n] w (fun v _ => v = .int .i64 (szM (cntL cntNode xs) n)) := by
  have hlm := hxs.1.1
  unfold maxLen at hlm
  refine ct_of Try.func12 rfl Try.ntmps12 rfl ?_
  refine S_sub [(0, vxs), (1, .int .i64 n)] ⟨rfl, rfl, trivial⟩ ?_
  have E : Ext w w := Ext.refl w
  refine S_seq ?_
  refine S_reg [true] rfl rfl ?_
  refine J_st (R_assign rfl) rfl (J_done ?_)
  refine S_seq ?_
  refine S_reg [true, true, true, true, true] rfl rfl ?_
  refine J_st (R_move rfl) rfl (J_st (R_move rfl) rfl (J_st (R_len Try.underlying22 rfl (hxs.ext E).len) rfl (J_st (R_sub rfl rfl (wrap_in (by omega) (by omega))) rfl (J_st (R_assign rfl) rfl (J_done ?_)))))
  refine S_seq ?_
  refine S_seq ?_
  refine S_reg [true, true] rfl rfl ?_
  refine J_st (R_move rfl) rfl (J_st (R_lss rfl rfl) rfl (J_done ?_))
  refine S_cond rfl (fun hc1 => ?_) (fun hc1 => ?_)
  · refine S_seq ?_
    refine S_reg [true] rfl rfl ?_
    refine J_st (R_assign rfl) rfl (J_done ?_)
    refine S_ret (E_done1 rfl rfl E ?_)
    exact sz_neg (by have := of_decide_eq_true hc1; unfold cntL; omega)
  · refine S_skip ?_
    refine S_seq ?_
    refine S_seq ?_
    refine S_reg [true] rfl rfl ?_
    refine J_st (R_assign rfl) rfl (J_done ?_)
    refine S_block ?_
    refine S_loop (fun (x : Nat × Int) => let ⟨k, l⟩ := x; [(0, vxs), (1, .int .i64 l), (4, .int .i64 0), (5, .int .i64 ((k : Nat) : Int))]) (fun (x : Nat × Int) w' => let ⟨k, l⟩ := x; Ext w w' ∧ w.heap.size ≤ w'.heap.size ∧ k ≤ xs.length ∧ 0 ≤ l ∧ l ≤ 1048576 ∧ l = n - ((xs.length : Nat) : Int) - ((((xs.take k).map cntNode).sum : Nat) : Int)) (fun (x : Nat × Int) => let ⟨k, l⟩ := x; xs.length - k) (0, n - ((xs.length : Nat) : Int)) ⟨rfl, rfl, rfl, rfl, trivial⟩ ⟨E, Nat.le_refl _, Nat.zero_le _, (by have := of_decide_eq_false hc1; simp; omega)⟩ ?_
    clear E
    rintro ⟨k, l⟩ w1 ⟨E, z1, hk, hl⟩
    refine S_sub [(0, vxs), (1, .int .i64 l), (4, .int .i64 0), (5, .int .i64 ((k : Nat) : Int))] ⟨rfl, rfl, rfl, rfl, trivial⟩ ?_
    refine S_seq ?_
    refine S_seq ?_
    refine S_reg [true, true, true, true] rfl rfl ?_
    refine J_st (R_move rfl) rfl (J_st (R_move rfl) rfl (J_st (R_len Try.underlying22 rfl (hxs.ext E).len) rfl (J_st (R_lss rfl rfl) rfl (J_done ?_))))
    refine S_cond rfl (fun hc2 => ?_) (fun hc2 => ?_)
    · have hc2n : k < xs.length := by first | (have h := of_decide_eq_true hc2; omega) | (have h := hc2; simp at h; omega)
      refine S_skip ?_
      refine S_seq ?_
      refine S_block ?_
      refine S_seq ?_
      refine S_reg [true, true, true, true, true, false, true] rfl rfl ?_
      refine J_st (R_move rfl) rfl (J_st (R_move rfl) rfl ?_)
      have hi1 : k < xs.length := (by first | assumption | omega)
      obtain ⟨_, hr1, ha1⟩ := RdD.get hxs hi1
      obtain ⟨o1, rfl, hd1⟩ := Node.op hr1
      replace ha1 : At w (sblk vxs) (soff vxs + k * 4) [.int .i64 ((xs[k]'hi1).kind), .int .i64 ((xs[k]'hi1).a), .int .i64 ((xs[k]'hi1).b), o1] := ha1
      refine J_st (R_index (i := k) sl22 rfl rfl (hxs.ext E).1 hi1) rfl (J_st (R_loadS st78 rfl (ha1.ext E) rfl) rfl (J_st (R_move rfl) rfl ?_))
      refine J_call Try.call37 rfl (c_szNode [.int .i64 ((xs[k]'hi1).kind), .int .i64 ((xs[k]'hi1).a), .int .i64 ((xs[k]'hi1).b), o1] (xs[k]'hi1) l _ (Node.mkR (xs[k]'hi1) (RdD.any (hd1.ext E))) (by first | omega | (simp only [mkL_length]; omega) | (rw [mkL_length]))) rfl (fun _ w2 e1 hv => ?_)
      subst hv
      replace E := E.trans e1
      have z2 := e1.size
      refine J_st (R_assign rfl) rfl (J_done ?_)
      refine S_seq ?_
      refine S_reg [true, true] rfl rfl ?_
      refine J_st (R_move rfl) rfl (J_st (R_lss rfl rfl) rfl (J_done ?_))
      refine S_cond rfl (fun hc3 => ?_) (fun hc3 => ?_)
      · have q1 := szM_no hc3 (by omega)
        refine S_seq ?_
        refine S_reg [true] rfl rfl ?_
        refine J_st (R_assign rfl) rfl (J_done ?_)
        refine S_ret (E_inB_ret (E_lp_ret (E_inB_ret (E_done1 rfl rfl E ?_))))
        exact sz_neg (by have := sum_le (f := cntNode) (show k < xs.length by omega); unfold cntL; omega)
      · have q2 := szM_ok hc3 (by omega)
        refine S_skip ?_
        refine S_nil (E_inB ?_)
        refine S_reg [true, true, true] rfl rfl ?_
        refine J_st (R_move rfl) rfl (J_st (R_add rfl rfl (add_one hc2n (hxs.ext E).1.1)) rfl (J_st (R_assign rfl) rfl (J_done ?_)))
        refine S_nil (E_again (k + 1, szM (cntNode (xs[k]'hi1)) l) (by simp; omega) ⟨rfl, rfl, rfl, rfl, trivial⟩ ⟨E, (by omega), (by omega), (by have := sum_step (f := cntNode) (show k < xs.length by omega); omega)⟩)
    · have hc2n : ¬ k < xs.length := by first | (have h := of_decide_eq_false hc2; omega) | (have h := hc2; simp at h; omega)
      refine S_exit (E_lp_exit (E_inB_exit ?_))
      refine S_seq ?_
      refine S_reg [true, true] rfl rfl ?_
      refine J_st (R_move rfl) rfl (J_st (R_assign rfl) rfl (J_done ?_))
      refine S_ret (E_done1 rfl rfl E ?_)
      have := sum_all (f := cntNode) (show xs.length ≤ k by omega); exact sz_fin (by unfold cntL; omega) (by unfold cntL; omega)

set_option maxRecDepth 20000 in
theorem c_toNodeS (vxs : Value) (xs : List Node) (w : World) (hxs : RdD w 0 w.heap.size vxs xs) (hb : cntL cntNode xs ≤ 1048576) : Ct Try.prog 21 [vxs] w (fun v w' => OwS (α := Node) w' w.heap.size w'.heap.size v xs) := by
  unfold cntL at hb
  refine ct_of Try.func21 rfl Try.ntmps21 rfl ?_
  refine S_sub [(0, vxs)] ⟨rfl, trivial⟩ ?_
  have E : Ext w w := Ext.refl w
  refine S_seq ?_
  refine S_reg [true] rfl rfl ?_
  refine J_st (R_assign rfl) rfl (J_done ?_)
  refine S_seq ?_
  refine S_reg [true, true, false, true] rfl rfl ?_
  refine J_st (R_move rfl) rfl (J_st (R_len Try.underlying22 rfl (hxs.ext E).len) rfl ?_)
  refine J_make (m := xs.length) sl35 rfl rfl (by omega) (by decide) rfl (fun b1 w1 e1 s1 h1 => ?_)
  have g_b1 : w.heap.size ≤ b1 := by have := E.size; omega
  have y_b1 := h1.lt
  replace E := E.trans e1
  have z1 := e1.size
  refine J_st (R_assign rfl) rfl (J_done ?_)
  refine S_seq ?_
  refine S_seq ?_
  refine S_reg [true] rfl rfl ?_
  refine J_st (R_assign rfl) rfl (J_done ?_)
  refine S_block ?_
  refine S_loop (fun (x : Nat × List (List Value)) => let ⟨k, css⟩ := x; [(0, vxs), (2, .slice none 0 0), (3, .slice (some ⟨b1, 0, none⟩) xs.length xs.length), (4, .int .i64 ((k : Nat) : Int))]) (fun (x : Nat × List (List Value)) w' => let ⟨k, css⟩ := x; Ext w w' ∧ w1.heap.size ≤ w'.heap.size ∧ k ≤ xs.length ∧ css.length = k ∧ Blk w' b1 (mkc css [.int .i64 0, .int .i64 0, .int .i64 0, .slice none 0 0] (xs.length - k)) ∧ AllO w' w1.heap.size w'.heap.size css (xs.take k)) (fun (x : Nat × List (List Value)) => let ⟨k, css⟩ := x; xs.length - k) (0, []) ⟨rfl, rfl, rfl, rfl, trivial⟩ ⟨E, Nat.le_refl _, Nat.zero_le _, rfl, (by simpa [mkc] using h1), (by simp [AllO, All2])⟩ ?_
  clear E h1
  rintro ⟨k, css⟩ w2 ⟨E, z2, hk, hlk, h1, hA⟩
  refine S_sub [(0, vxs), (2, .slice none 0 0), (3, .slice (some ⟨b1, 0, none⟩) xs.length xs.length), (4, .int .i64 ((k : Nat) : Int))] ⟨rfl, rfl, rfl, rfl, trivial⟩ ?_
  refine S_seq ?_
  refine S_seq ?_
  refine S_reg [true, true, true, true] rfl rfl ?_
  refine J_st (R_move rfl) rfl (J_st (R_move rfl) rfl (J_st (R_len Try.underlying22 rfl (hxs.ext E).len) rfl (J_st (R_lss rfl rfl) rfl (J_done ?_))))
  refine S_cond rfl (fun hc1 => ?_) (fun hc1 => ?_)
  · have hc1n : k < xs.length := by first | (have h := of_decide_eq_true hc1; omega) | (have h := hc1; simp at h; omega)
    refine S_skip ?_
    refine S_seq ?_
    refine S_block ?_
    refine S_reg [true, true, true, true, true, true, false, true, false] rfl rfl ?_
    refine J_st (R_move rfl) rfl (J_st (R_move rfl) rfl (J_st (R_move rfl) rfl (J_st (R_move rfl) rfl ?_)))
    have hi1 : k < xs.length := (by first | assumption | omega)
    obtain ⟨_, hr1, ha1⟩ := RdD.get hxs hi1
    obtain ⟨o1, rfl, hd1⟩ := Node.op hr1
    replace ha1 : At w (sblk vxs) (soff vxs + k * 4) [.int .i64 ((xs[k]'hi1).kind), .int .i64 ((xs[k]'hi1).a), .int .i64 ((xs[k]'hi1).b), o1] := ha1
    refine J_st (R_index (i := k) sl22 rfl rfl (hxs.ext E).1 hi1) rfl (J_st (R_loadS st78 rfl (ha1.ext E) rfl) rfl ?_)
    refine J_call Try.call40 rfl (c_toNode [.int .i64 ((xs[k]'hi1).kind), .int .i64 ((xs[k]'hi1).a), .int .i64 ((xs[k]'hi1).b), o1] (xs[k]'hi1) _ (Node.mkR (xs[k]'hi1) (RdD.any (hd1.ext E))) (by have := sum_le (f := cntNode) (show k < xs.length by omega); omega)) rfl (fun _ w3 e2 ho1 => ?_)
    obtain ⟨_, rfl, ho1⟩ := ho1
    have g_ho1 : w.heap.size ≤ w2.heap.size := E.size
    replace E := E.trans e2; replace h1 := h1.ext e2; replace hA := hA.ext e2
    have z3 := e2.size
    obtain ⟨o2, rfl, sp1, hw1⟩ := Node.opO ho1
    refine J_st (R_indexB sl35 rfl rfl (by first | assumption | omega)) rfl ?_
    refine J_storeS' (cs' := mkc (css ++ [[.int .i64 ((xs[k]'hi1).kind), .int .i64 ((xs[k]'hi1).a), .int .i64 ((xs[k]'hi1).b), o2]]) [.int .i64 0, .int .i64 0, .int .i64 0, .slice none 0 0] (xs.length - (k + 1))) st83 rfl rfl rfl (all_cons rfl (all_cons rfl (all_cons rfl (all_cons hw1.one rfl)))) h1 (mkc_room hA.d hlk rfl hc1n (by rfl)) (mkc_step hA.d hlk rfl hc1n rfl) (fun w4 m1 h1' => ?_)
    replace h1 := h1'
    replace E := E.step m1 (fun g hg => by cases hg; omega); replace hA := hA.mod m1 (fun g hg => by cases hg; omega); replace hw1 := hw1.mod m1 (fun g hg => by cases hg; omega)
    have z4 := m1.size
    refine J_done ?_
    refine S_nil (E_inB ?_)
    refine S_reg [true, true, true] rfl rfl ?_
    refine J_st (R_move rfl) rfl (J_st (R_add rfl rfl (add_one hc1n (hxs.ext E).1.1)) rfl (J_st (R_assign rfl) rfl (J_done ?_)))
    refine S_nil (E_again (k + 1, css ++ [[.int .i64 ((xs[k]'hi1).kind), .int .i64 ((xs[k]'hi1).a), .int .i64 ((xs[k]'hi1).b), o2]]) (by simp; omega) ⟨rfl, rfl, rfl, rfl, trivial⟩ ⟨E, (by omega), (by omega), (by simp [hlk]), h1, (AllO.widen (AllO.step hA hc1n (Node.mkO (xs[k]'hi1) sp1 (Own.widen hw1 (by omega) (by omega))) (Nat.le_refl _) (Nat.le_refl _) (by omega) (by omega)) (Nat.le_refl _) (by omega))⟩)
  · have hc1n : ¬ k < xs.length := by first | (have h := of_decide_eq_false hc1; omega) | (have h := hc1; simp at h; omega)
    refine S_exit (E_lp_exit (E_inB_exit ?_))
    refine S_seq ?_
    refine S_reg [true, true] rfl rfl ?_
    refine J_st (R_move rfl) rfl (J_st (R_assign rfl) rfl (J_done ?_))
    refine S_ret (E_done1 rfl rfl E ?_)
    obtain rfl : k = xs.length := by omega
    rw [Nat.sub_self, mkc_all] at h1
    rw [List.take_length] at hA
    exact OwS.ofBlk h1 hA (by have := E.size; omega) (by omega) (by have := E.size; omega) (by omega) (by omega) rfl (by unfold maxLen; omega)

set_option maxRecDepth 20000 in
theorem c_eqNodeS (vxs : Value) (xs : List Node) (vys : Value) (ys : List Node) (w : World) (hxs : RdD w 0 w.heap.size vxs xs) (hys : RdD w 0 w.heap.size vys ys) : Ct Try.prog 31 [vxs, vys] w (fun v _ => v = .bool (decide (xs = ys))) := by
  refine ct_of Try.func31 rfl Try.ntmps31 rfl ?_
  refine S_sub [(0, vxs), (1, vys)] ⟨rfl, rfl, trivial⟩ ?_
  have E : Ext w w := Ext.refl w
  refine S_seq ?_
  refine S_reg [true] rfl rfl ?_
  refine J_st (R_assign rfl) rfl (J_done ?_)
  refine S_seq ?_
  refine S_seq ?_
  refine S_reg [true, true, true, true, true] rfl rfl ?_
  refine J_st (R_move rfl) rfl (J_st (R_len Try.underlying35 rfl (hxs.ext E).len) rfl (J_st (R_move rfl) rfl (J_st (R_len Try.underlying35 rfl (hys.ext E).len) rfl (J_st (R_neq rfl rfl) rfl (J_done ?_)))))
  refine S_cond rfl (fun hc1 => ?_) (fun hc1 => ?_)
  · have hc1n : ¬ xs.length = ys.length := by first | (have h := of_decide_eq_true hc1; omega) | (have h := hc1; simp at h; omega)
    refine S_seq ?_
    refine S_reg [true] rfl rfl ?_
    refine J_st (R_assign rfl) rfl (J_done ?_)
    refine S_ret (E_done1 rfl rfl E ?_)
    simp [eq_len hc1n]
  · have hc1n : xs.length = ys.length := by first | (have h := of_decide_eq_false hc1; omega) | (have h := hc1; simp at h; omega)
    refine S_skip ?_
    refine S_seq ?_
    refine S_seq ?_
    refine S_reg [true] rfl rfl ?_
    refine J_st (R_assign rfl) rfl (J_done ?_)
    refine S_block ?_
    refine S_loop (fun (k : Nat) => [(0, vxs), (1, vys), (4, .bool false), (5, .int .i64 ((k : Nat) : Int))]) (fun (k : Nat) w' => Ext w w' ∧ w.heap.size ≤ w'.heap.size ∧ k ≤ xs.length ∧ xs.take k = ys.take k) (fun (k : Nat) => xs.length - k) 0 ⟨rfl, rfl, rfl, rfl, trivial⟩ ⟨E, Nat.le_refl _, Nat.zero_le _, rfl⟩ ?_
    clear E
    rintro k w1 ⟨E, z1, hk, hp⟩
    refine S_seq ?_
    refine S_seq ?_
    refine S_reg [true, true, true, true] rfl rfl ?_
    refine J_st (R_move rfl) rfl (J_st (R_move rfl) rfl (J_st (R_len Try.underlying35 rfl (hxs.ext E).len) rfl (J_st (R_lss rfl rfl) rfl (J_done ?_))))
    refine S_cond rfl (fun hc2 => ?_) (fun hc2 => ?_)
    · have hc2n : k < xs.length := by first | (have h := of_decide_eq_true hc2; omega) | (have h := hc2; simp at h; omega)
      refine S_skip ?_
      refine S_seq ?_
      refine S_block ?_
      refine S_seq ?_
      refine S_regD mixed [(0, true), (1, true), (2, true), (3, true), (4, true), (5, true), (6, true), (7, true), (8, false), (9, true)] (by decide +kernel) rfl (fun w2 e1 => ?_)
      replace E := E.trans e1
      have z2 := e1.size
      refine J_st (R_move rfl) rfl (J_st (R_move rfl) rfl ?_)
      have hi1 : k < xs.length := (by first | assumption | omega)
      obtain ⟨_, hr1, ha1⟩ := RdD.get hxs hi1
      obtain ⟨o1, rfl, hd1⟩ := Node.op hr1
      replace ha1 : At w (sblk vxs) (soff vxs + k * 4) [.int .i64 ((xs[k]'hi1).kind), .int .i64 ((xs[k]'hi1).a), .int .i64 ((xs[k]'hi1).b), o1] := ha1
      refine J_st (R_index (i := k) sl35 rfl rfl (hxs.ext E).1 hi1) rfl (J_st (R_loadS st83 rfl (ha1.ext E) rfl) rfl (J_st (R_move rfl) rfl (J_st (R_move rfl) rfl ?_)))
      have hi2 : k < ys.length := (by first | assumption | omega)
      obtain ⟨_, hr2, ha2⟩ := RdD.get hys hi2
      obtain ⟨o2, rfl, hd2⟩ := Node.op hr2
      replace ha2 : At w (sblk vys) (soff vys + k * 4) [.int .i64 ((ys[k]'hi2).kind), .int .i64 ((ys[k]'hi2).a), .int .i64 ((ys[k]'hi2).b), o2] := ha2
      refine J_st (R_index (i := k) sl35 rfl rfl (hys.ext E).1 hi2) rfl (J_st (R_loadS st83 rfl (ha2.ext E) rfl) rfl ?_)
      refine J_call Try.call49 rfl (c_eqNode [.int .i64 ((xs[k]'hi1).kind), .int .i64 ((xs[k]'hi1).a), .int .i64 ((xs[k]'hi1).b), o1] (xs[k]'hi1) [.int .i64 ((ys[k]'hi2).kind), .int .i64 ((ys[k]'hi2).a), .int .i64 ((ys[k]'hi2).b), o2] (ys[k]'hi2) _ (Node.mkR (xs[k]'hi1) (RdD.any (hd1.ext E))) (Node.mkR (ys[k]'hi2) (RdD.any (hd2.ext E)))) rfl (fun _ w3 e2 hv => ?_)
      subst hv
      replace E := E.trans e2
      have z3 := e2.size
      refine J_st (R_not rfl) rfl (J_done ?_)
      refine S_cond rfl (fun hc3 => ?_) (fun hc3 => ?_)
      · refine S_seq ?_
        refine S_reg [true] rfl rfl ?_
        refine J_st (R_assign rfl) rfl (J_done ?_)
        refine S_ret (E_inB_ret (E_lp_ret (E_inB_ret (E_done1 rfl rfl E ?_))))
        exact eqS_no (by omega) (by omega) (by simpa using hc3)
      · refine S_skip ?_
        refine S_nil (E_inB ?_)
        refine S_reg [true, true, true] rfl rfl ?_
        refine J_st (R_move rfl) rfl (J_st (R_add rfl rfl (add_one hc2n (hxs.ext E).1.1)) rfl (J_st (R_assign rfl) rfl (J_done ?_)))
        refine S_nil (E_again (k + 1) (by omega) ⟨rfl, rfl, rfl, rfl, trivial⟩ ⟨E, (by omega), (by omega), eqS_step hp (by assumption) (by omega) (by simpa using hc3)⟩)
    · have hc2n : ¬ k < xs.length := by first | (have h := of_decide_eq_false hc2; omega) | (have h := hc2; simp at h; omega)
      refine S_exit (E_lp_exit (E_inB_exit ?_))
      refine S_seq ?_
      refine S_reg [true] rfl rfl ?_
      refine J_st (R_assign rfl) rfl (J_done ?_)
      refine S_ret (E_done1 rfl rfl E ?_)
      exact eqS_yes hp hc1n (by omega)

set_option maxRecDepth 20000 in
theorem c_szGraph (cx : List Value) (x : Graph) (n : Int) (w : World) (hx : Dat.R w 0 w.heap.size cx x) (h0 : 0 ≤ n ∧ n ≤ 1048576) : Ct Try.prog 4 [.agg cx.toArray, .int .i64 n] w (fun v _ => v = .int .i64 (szM (cntGraph x) n)) := by
  refine ct_of Try.func4 rfl Try.ntmps4 rfl ?_
  obtain ⟨o1, rfl, hd1⟩ := Graph.op hx
  refine S_sub [(0, .agg [o1, .int .i64 x.workers, .int .i64 x.cap].toArray), (1, .int .i64 n)] ⟨rfl, rfl, trivial⟩ ?_
  have E : Ext w w := Ext.refl w
  refine S_seq ?_
  refine S_reg [false, true] rfl rfl ?_
  refine J_box rfl rfl (fun b1 w1 e1 s1 h1 => ?_)
  have g_b1 : w.heap.size ≤ b1 := by have := E.size; omega
  have y_b1 := h1.lt
  replace E := E.trans e1
  have z1 := e1.size
  refine J_st (R_assign rfl) rfl (J_done ?_)
  refine S_seq ?_
  refine S_reg [true, true, true, false, true] rfl rfl ?_
  refine J_st (R_fieldAddr0 fl24_0 rfl) rfl (J_st (R_load sc22 rfl (h1.one 0 rfl)) rfl (J_st (R_move rfl) rfl ?_))
  refine J_call Try.call12 rfl (c_szNodeS o1 x.nodes n _ (RdD.any (hd1.ext E)) (by first | omega | (simp only [mkL_length]; omega) | (rw [mkL_length]))) rfl (fun _ w2 e2 hv => ?_)
  subst hv
  replace E := E.trans e2; replace h1 := h1.ext e2
  have z2 := e2.size
  refine J_st (R_assign rfl) rfl (J_done ?_)
  refine S_seq ?_
  refine S_seq ?_
  refine S_reg [true, true] rfl rfl ?_
  refine J_st (R_move rfl) rfl (J_st (R_lss rfl rfl) rfl (J_done ?_))
  refine S_cond rfl (fun hc1 => ?_) (fun hc1 => ?_)
  · have q1 := szM_no hc1 (by omega)
    refine S_seq ?_
    refine S_reg [true] rfl rfl ?_
    refine J_st (R_assign rfl) rfl (J_done ?_)
    refine S_ret (E_done1 rfl rfl E ?_)
    first | exact sz_neg (by unfold cntGraph; omega) | exact sz_fin (by unfold cntGraph; omega) (by unfold cntGraph; omega)
  · have q2 := szM_ok hc1 (by omega)
    refine S_skip ?_
    refine S_seq ?_
    refine S_reg [true, true] rfl rfl ?_
    refine J_st (R_move rfl) rfl (J_st (R_assign rfl) rfl (J_done ?_))
    refine S_ret (E_done1 rfl rfl E ?_)
    first | exact sz_neg (by unfold cntGraph; omega) | exact sz_fin (by unfold cntGraph; omega) (by unfold cntGraph; omega)

set_option maxRecDepth 20000 in
theorem c_eqGraph (cx : List Value) (x : Graph) (cy : List Value) (y : Graph) (w : World) (hx : Dat.R w 0 w.heap.size cx x) (hy : Dat.R w 0 w.heap.size cy y) : Ct Try.prog 10 [.agg cx.toArray, .agg cy.toArray] w (fun v _ => v = .bool (decide (x = y))) := by
  refine ct_of Try.func10 rfl Try.ntmps10 rfl ?_
  obtain ⟨o1, rfl, hd1⟩ := Graph.op hx
  obtain ⟨o2, rfl, hd2⟩ := Graph.op hy
  refine S_sub [(0, .agg [o1, .int .i64 x.workers, .int .i64 x.cap].toArray), (1, .agg [o2, .int .i64 y.workers, .int .i64 y.cap].toArray)] ⟨rfl, rfl, trivial⟩ ?_
  have E : Ext w w := Ext.refl w
  refine S_seq ?_
  refine S_reg [false, false, true] rfl rfl ?_
  refine J_box rfl rfl (fun b1 w1 e1 s1 h1 => ?_)
  have g_b1 : w.heap.size ≤ b1 := by have := E.size; omega
  have y_b1 := h1.lt
  replace E := E.trans e1
  have z1 := e1.size
  refine J_box rfl rfl (fun b2 w2 e2 s2 h2 => ?_)
  have g_b2 : w.heap.size ≤ b2 := by have := E.size; omega
  have y_b2 := h2.lt
  replace E := E.trans e2; replace h1 := h1.ext e2
  have z2 := e2.size
  refine J_st (R_assign rfl) rfl (J_done ?_)
  refine S_seq ?_
  refine S_seq ?_
  refine S_reg [true, true, true, true, false, true] rfl rfl ?_
  refine J_st (R_fieldAddr0 fl37_0 rfl) rfl (J_st (R_load sc35 rfl (h1.one 0 rfl)) rfl (J_st (R_fieldAddr0 fl37_0 rfl) rfl (J_st (R_load sc35 rfl (h2.one 0 rfl)) rfl ?_)))
  refine J_call Try.call31 rfl (c_eqNodeS o1 x.nodes o2 y.nodes _ (RdD.any (hd1.ext E)) (RdD.any (hd2.ext E))) rfl (fun _ w3 e3 hv => ?_)
  subst hv
  replace E := E.trans e3; replace h1 := h1.ext e3; replace h2 := h2.ext e3
  have z3 := e3.size
  refine J_st (R_not rfl) rfl (J_done ?_)
  refine S_cond rfl (fun hc1 => ?_) (fun hc1 => ?_)
  · refine S_seq ?_
    refine S_reg [true] rfl rfl ?_
    refine J_st (R_assign rfl) rfl (J_done ?_)
    refine S_ret (E_done1 rfl rfl E ?_)
    cases x; cases y; simp_all
  · refine S_skip ?_
    refine S_seq ?_
    refine S_seq ?_
    refine S_reg [true, true, true, true, true] rfl rfl ?_
    refine J_st (R_fieldAddr0 fl37_1 rfl) rfl (J_st (R_load sc3 rfl (h1.one 1 rfl)) rfl (J_st (R_fieldAddr0 fl37_1 rfl) rfl (J_st (R_load sc3 rfl (h2.one 1 rfl)) rfl (J_st (R_neq rfl rfl) rfl (J_done ?_)))))
    refine S_cond rfl (fun hc2 => ?_) (fun hc2 => ?_)
    · refine S_seq ?_
      refine S_reg [true] rfl rfl ?_
      refine J_st (R_assign rfl) rfl (J_done ?_)
      refine S_ret (E_done1 rfl rfl E ?_)
      cases x; cases y; simp_all
    · refine S_skip ?_
      refine S_seq ?_
      refine S_seq ?_
      refine S_reg [true, true, true, true, true] rfl rfl ?_
      refine J_st (R_fieldAddr0 fl37_2 rfl) rfl (J_st (R_load sc3 rfl (h1.one 2 rfl)) rfl (J_st (R_fieldAddr0 fl37_2 rfl) rfl (J_st (R_load sc3 rfl (h2.one 2 rfl)) rfl (J_st (R_neq rfl rfl) rfl (J_done ?_)))))
      refine S_cond rfl (fun hc3 => ?_) (fun hc3 => ?_)
      · refine S_seq ?_
        refine S_reg [true] rfl rfl ?_
        refine J_st (R_assign rfl) rfl (J_done ?_)
        refine S_ret (E_done1 rfl rfl E ?_)
        cases x; cases y; simp_all
      · refine S_skip ?_
        refine S_seq ?_
        refine S_reg [true] rfl rfl ?_
        refine J_st (R_assign rfl) rfl (J_done ?_)
        refine S_ret (E_done1 rfl rfl E ?_)
        cases x; cases y; simp_all

set_option maxRecDepth 20000 in
theorem c_toGraph (cx : List Value) (x : Graph) (w : World) (hx : Dat.R w 0 w.heap.size cx x) (hb : cntGraph x ≤ 1048576) : Ct Try.prog 7 [.agg cx.toArray] w (fun v w' => ∃ o, v = .agg [o, .int .i64 x.workers, .int .i64 x.cap].toArray ∧ OwS w' w.heap.size w'.heap.size o x.nodes) := by
  unfold cntGraph at hb
  refine ct_of Try.func7 rfl Try.ntmps7 rfl ?_
  obtain ⟨o1, rfl, hd1⟩ := Graph.op hx
  refine S_sub [(0, .agg [o1, .int .i64 x.workers, .int .i64 x.cap].toArray)] ⟨rfl, trivial⟩ ?_
  have E : Ext w w := Ext.refl w
  refine S_seq ?_
  refine S_reg [false, false] rfl rfl ?_
  refine J_box rfl rfl (fun b1 w1 e1 s1 h1 => ?_)
  have g_b1 : w.heap.size ≤ b1 := by have := E.size; omega
  have y_b1 := h1.lt
  replace E := E.trans e1
  have z1 := e1.size
  refine J_alloc st37 rfl (fun b2 w2 e2 s2 h2 => ?_)
  have g_b2 : w.heap.size ≤ b2 := by have := E.size; omega
  have y_b2 := h2.lt
  replace E := E.trans e2; replace h1 := h1.ext e2
  have z2 := e2.size
  refine J_done ?_
  refine S_seq ?_
  refine S_reg [false] rfl rfl ?_
  refine J_alloc st37 rfl (fun b3 w3 e3 s3 h3 => ?_)
  have g_b3 : w.heap.size ≤ b3 := by have := E.size; omega
  have y_b3 := h3.lt
  replace E := E.trans e3; replace h1 := h1.ext e3; replace h2 := h2.ext e3
  have z3 := e3.size
  refine J_done ?_
  refine S_seq ?_
  refine S_reg [true, true, false, true, false] rfl rfl ?_
  refine J_st (R_fieldAddr0 fl24_0 rfl) rfl (J_st (R_load sc22 rfl (h1.one 0 rfl)) rfl ?_)
  refine J_call Try.call21 rfl (c_toNodeS o1 x.nodes _ (RdD.any (hd1.ext E)) (by first | omega | (simp only [mkL_length]; omega) | (rw [mkL_length]))) rfl (fun v1 w4 e4 ho1 => ?_)
  have g_ho1 : w.heap.size ≤ w3.heap.size := E.size
  replace E := E.trans e4; replace h1 := h1.ext e4; replace h2 := h2.ext e4; replace h3 := h3.ext e4
  have z4 := e4.size
  refine J_st (R_fieldAddr0 fl37_0 rfl) rfl ?_
  refine J_store' (cs' := [v1, .int .i64 0, .int .i64 0]) sc35 rfl rfl (RdD.one (OwS.rd ho1)) h3 (Nat.le_of_ble_eq_true rfl) rfl (fun w5 m1 h3' => ?_)
  replace h3 := h3'
  replace E := E.step m1 (fun g hg => by cases hg; omega); replace h1 := h1.mod m1 (fun g hg => by cases hg; omega); replace h2 := h2.mod m1 (fun g hg => by cases hg; omega); replace ho1 := ho1.mod m1 (fun g hg => by cases hg; omega)
  have z5 := m1.size
  refine J_done ?_
  refine S_seq ?_
  refine S_reg [true, true, true, false] rfl rfl ?_
  refine J_st (R_fieldAddr0 fl24_1 rfl) rfl (J_st (R_load sc3 rfl (h1.one 1 rfl)) rfl (J_st (R_fieldAddr0 fl37_1 rfl) rfl ?_))
  refine J_store' (cs' := [v1, .int .i64 x.workers, .int .i64 0]) sc3 rfl rfl rfl h3 (Nat.le_of_ble_eq_true rfl) rfl (fun w6 m2 h3' => ?_)
  replace h3 := h3'
  replace E := E.step m2 (fun g hg => by cases hg; omega); replace h1 := h1.mod m2 (fun g hg => by cases hg; omega); replace h2 := h2.mod m2 (fun g hg => by cases hg; omega); replace ho1 := ho1.mod m2 (fun g hg => by cases hg; omega)
  have z6 := m2.size
  refine J_done ?_
  refine S_seq ?_
  refine S_reg [true, true, true, false] rfl rfl ?_
  refine J_st (R_fieldAddr0 fl24_2 rfl) rfl (J_st (R_load sc3 rfl (h1.one 2 rfl)) rfl (J_st (R_fieldAddr0 fl37_2 rfl) rfl ?_))
  refine J_store' (cs' := [v1, .int .i64 x.workers, .int .i64 x.cap]) sc3 rfl rfl rfl h3 (Nat.le_of_ble_eq_true rfl) rfl (fun w7 m3 h3' => ?_)
  replace h3 := h3'
  replace E := E.step m3 (fun g hg => by cases hg; omega); replace h1 := h1.mod m3 (fun g hg => by cases hg; omega); replace h2 := h2.mod m3 (fun g hg => by cases hg; omega); replace ho1 := ho1.mod m3 (fun g hg => by cases hg; omega)
  have z7 := m3.size
  refine J_done ?_
  refine S_seq ?_
  refine S_reg [true, false] rfl rfl ?_
  refine J_st (R_loadS st37 rfl h3.at rfl) rfl ?_
  refine J_storeS' (cs' := [v1, .int .i64 x.workers, .int .i64 x.cap]) st37 rfl rfl rfl (all_cons (RdD.one (OwS.rd ho1)) (all_cons rfl (all_cons rfl rfl))) h2 (Nat.le_of_ble_eq_true rfl) rfl (fun w8 m4 h2' => ?_)
  replace h2 := h2'
  replace E := E.step m4 (fun g hg => by cases hg; omega); replace h1 := h1.mod m4 (fun g hg => by cases hg; omega); replace h3 := h3.mod m4 (fun g hg => by cases hg; omega); replace ho1 := ho1.mod m4 (fun g hg => by cases hg; omega)
  have z8 := m4.size
  refine J_done ?_
  refine S_ret (E_doneC rfl rfl (run_loadVar_st st37 h2.at rfl) E ?_)
  exact ⟨_, rfl, OwS.widen ho1 (by have := E.size; omega) (by omega)⟩

set_option maxRecDepth 20000 in
theorem s_l01In (x : Int) (lo : Int) (hi : Int) (w : World)  : Ct Try.prog 20 [.int .i64 x, .int .i64 lo, .int .i64 hi] w (fun v _ => v = .bool (win x lo hi)) := by
  refine ct_of Try.func20 rfl Try.ntmps20 rfl ?_
  refine S_sub [(0, .int .i64 x), (1, .int .i64 lo), (2, .int .i64 hi)] ⟨rfl, rfl, rfl, trivial⟩ ?_
  have E : Ext w w := Ext.refl w
  refine S_seq ?_
  refine S_reg [true] rfl rfl ?_
  refine J_st (R_assign rfl) rfl (J_done ?_)
  refine S_seq ?_
  refine S_reg [true, true, true, true, true, true, true, true, true] rfl rfl ?_
  refine J_st (R_move rfl) rfl (J_st (R_move rfl) rfl (J_st (R_geq rfl rfl) rfl (J_st (R_move rfl) rfl ?_)))
  refine J_cut 4 [(0, .int .i64 x), (1, .int .i64 lo), (2, .int .i64 hi), (6, .bool false), (14, .bool ((decide (lo ≤ x)) && (decide (x ≤ hi))))] (fun w' => w = w') ?_ ?_
  · refine J_if (gd := 10) rfl rfl (fun hg1 => ?_) (fun hg1 => ?_)
    · refine J_gd rfl rfl (R_move rfl) rfl (J_gd rfl rfl (R_move rfl) rfl (J_gd rfl rfl (R_leq rfl rfl) rfl (J_st (R_pickT rfl rfl) rfl (J_cutEnd ⟨rfl, rfl, rfl, rfl, congrArg (fun b => some (Value.bool b)) (show (decide (x ≤ hi)) = ((decide (lo ≤ x)) && (decide (x ≤ hi))) by first | (rw [hg1] <;> rfl) | (simp [hg1]; done) | (simp only [nat_nlt] <;> simp)), trivial⟩ rfl))))
    · refine J_gdno rfl rfl rfl rfl (J_gdno rfl rfl rfl rfl (J_gdno rfl rfl rfl rfl (J_st (R_pickF rfl rfl) rfl (J_cutEnd ⟨rfl, rfl, rfl, rfl, congrArg (fun b => some (Value.bool b)) (show false = ((decide (lo ≤ x)) && (decide (x ≤ hi))) by first | (rw [hg1] <;> rfl) | (simp [hg1]; done) | (simp only [nat_nlt] <;> simp)), trivial⟩ rfl))))
  rintro _ rfl
  refine J_st (R_assign rfl) rfl (J_done ?_)
  refine S_ret (E_done1 rfl rfl E ?_)
  rfl

set_option maxRecDepth 20000 in
theorem c_within (x : Int) (lo : Int) (hi : Int) (w : World)  : Ct Try.prog 29 [.int .i64 x, .int .i64 lo, .int .i64 hi] w (fun v _ => v = .bool (win x lo hi)) := by
  refine ct_of Try.func29 rfl Try.ntmps29 rfl ?_
  refine S_sub [(0, .int .i64 x), (1, .int .i64 lo), (2, .int .i64 hi)] ⟨rfl, rfl, rfl, trivial⟩ ?_
  have E : Ext w w := Ext.refl w
  refine S_seq ?_
  refine S_reg [true] rfl rfl ?_
  refine J_st (R_assign rfl) rfl (J_done ?_)
  refine S_seq ?_
  refine S_reg [true, true, true, true, true, true, true, true, true] rfl rfl ?_
  refine J_st (R_move rfl) rfl (J_st (R_move rfl) rfl (J_st (R_geq rfl rfl) rfl (J_st (R_move rfl) rfl ?_)))
  refine J_cut 4 [(0, .int .i64 x), (1, .int .i64 lo), (2, .int .i64 hi), (6, .bool false), (14, .bool ((decide (lo ≤ x)) && (decide (x ≤ hi))))] (fun w' => w = w') ?_ ?_
  · refine J_if (gd := 10) rfl rfl (fun hg1 => ?_) (fun hg1 => ?_)
    · refine J_gd rfl rfl (R_move rfl) rfl (J_gd rfl rfl (R_move rfl) rfl (J_gd rfl rfl (R_leq rfl rfl) rfl (J_st (R_pickT rfl rfl) rfl (J_cutEnd ⟨rfl, rfl, rfl, rfl, congrArg (fun b => some (Value.bool b)) (show (decide (x ≤ hi)) = ((decide (lo ≤ x)) && (decide (x ≤ hi))) by first | (rw [hg1] <;> rfl) | (simp [hg1]; done) | (simp only [nat_nlt] <;> simp)), trivial⟩ rfl))))
    · refine J_gdno rfl rfl rfl rfl (J_gdno rfl rfl rfl rfl (J_gdno rfl rfl rfl rfl (J_st (R_pickF rfl rfl) rfl (J_cutEnd ⟨rfl, rfl, rfl, rfl, congrArg (fun b => some (Value.bool b)) (show false = ((decide (lo ≤ x)) && (decide (x ≤ hi))) by first | (rw [hg1] <;> rfl) | (simp [hg1]; done) | (simp only [nat_nlt] <;> simp)), trivial⟩ rfl))))
  rintro _ rfl
  refine J_st (R_assign rfl) rfl (J_done ?_)
  refine S_ret (E_done1 rfl rfl E ?_)
  rfl

set_option maxRecDepth 20000 in
theorem c_toStamp (x : Stamp) (w : World)  : Ct Try.prog 55 [.agg (Enc.enc x).toArray] w (fun v _ => v = .agg (Enc.enc x).toArray) := by
  refine ct_of Try.func55 rfl Try.ntmps55 rfl ?_
  refine S_sub [(0, .agg (Enc.enc x).toArray)] ⟨rfl, trivial⟩ ?_
  have E : Ext w w := Ext.refl w
  refine S_seq ?_
  refine S_reg [false, false] rfl rfl ?_
  refine J_box rfl rfl (fun b1 w1 e1 s1 h1 => ?_)
  have g_b1 : w.heap.size ≤ b1 := by have := E.size; omega
  have y_b1 := h1.lt
  replace E := E.trans e1
  have z1 := e1.size
  refine J_alloc st57 rfl (fun b2 w2 e2 s2 h2 => ?_)
  have g_b2 : w.heap.size ≤ b2 := by have := E.size; omega
  have y_b2 := h2.lt
  replace E := E.trans e2; replace h1 := h1.ext e2
  have z2 := e2.size
  refine J_done ?_
  refine S_seq ?_
  refine S_reg [false] rfl rfl ?_
  refine J_alloc st57 rfl (fun b3 w3 e3 s3 h3 => ?_)
  have g_b3 : w.heap.size ≤ b3 := by have := E.size; omega
  have y_b3 := h3.lt
  replace E := E.trans e3; replace h1 := h1.ext e3; replace h2 := h2.ext e3
  have z3 := e3.size
  refine J_done ?_
  refine S_seq ?_
  refine S_reg [true, true, true, false] rfl rfl ?_
  refine J_st (R_fieldAddr0 fl86_0 rfl) rfl (J_st (R_load sc3 rfl (h1.one 0 rfl)) rfl (J_st (R_fieldAddr0 fl57_0 rfl) rfl ?_))
  refine J_store' (cs' := [.int .i64 x.epoch, .int .i64 0]) sc3 rfl rfl rfl h3 (Nat.le_of_ble_eq_true rfl) rfl (fun w4 m1 h3' => ?_)
  replace h3 := h3'
  replace E := E.step m1 (fun g hg => by cases hg; omega); replace h1 := h1.mod m1 (fun g hg => by cases hg; omega); replace h2 := h2.mod m1 (fun g hg => by cases hg; omega)
  have z4 := m1.size
  refine J_done ?_
  refine S_seq ?_
  refine S_reg [true, true, true, false] rfl rfl ?_
  refine J_st (R_fieldAddr0 fl86_1 rfl) rfl (J_st (R_load sc3 rfl (h1.one 1 rfl)) rfl (J_st (R_fieldAddr0 fl57_1 rfl) rfl ?_))
  refine J_store' (cs' := [.int .i64 x.epoch, .int .i64 x.turn]) sc3 rfl rfl rfl h3 (Nat.le_of_ble_eq_true rfl) rfl (fun w5 m2 h3' => ?_)
  replace h3 := h3'
  replace E := E.step m2 (fun g hg => by cases hg; omega); replace h1 := h1.mod m2 (fun g hg => by cases hg; omega); replace h2 := h2.mod m2 (fun g hg => by cases hg; omega)
  have z5 := m2.size
  refine J_done ?_
  refine S_seq ?_
  refine S_reg [true, false] rfl rfl ?_
  refine J_st (R_loadS st57 rfl h3.at rfl) rfl ?_
  refine J_storeS' (cs' := [.int .i64 x.epoch, .int .i64 x.turn]) st57 rfl rfl rfl rfl h2 (Nat.le_of_ble_eq_true rfl) rfl (fun w6 m3 h2' => ?_)
  replace h2 := h2'
  replace E := E.step m3 (fun g hg => by cases hg; omega); replace h1 := h1.mod m3 (fun g hg => by cases hg; omega); replace h3 := h3.mod m3 (fun g hg => by cases hg; omega)
  have z6 := m3.size
  refine J_done ?_
  refine S_ret (E_doneC rfl rfl (run_loadVar_st st57 h2.at rfl) E ?_)
  rfl

set_option maxRecDepth 20000 in
theorem c_toRecord (x : Record) (w : World)  : Ct Try.prog 41 [.agg (Enc.enc x).toArray] w (fun v _ => v = .agg (Enc.enc x).toArray) := by
  refine ct_of Try.func41 rfl Try.ntmps41 rfl ?_
  refine S_sub [(0, .agg (Enc.enc x).toArray)] ⟨rfl, trivial⟩ ?_
  have E : Ext w w := Ext.refl w
  refine S_seq ?_
  refine S_reg [false, false] rfl rfl ?_
  refine J_box rfl rfl (fun b1 w1 e1 s1 h1 => ?_)
  have g_b1 : w.heap.size ≤ b1 := by have := E.size; omega
  have y_b1 := h1.lt
  replace E := E.trans e1
  have z1 := e1.size
  refine J_alloc st59 rfl (fun b2 w2 e2 s2 h2 => ?_)
  have g_b2 : w.heap.size ≤ b2 := by have := E.size; omega
  have y_b2 := h2.lt
  replace E := E.trans e2; replace h1 := h1.ext e2
  have z2 := e2.size
  refine J_done ?_
  refine S_seq ?_
  refine S_reg [false] rfl rfl ?_
  refine J_alloc st59 rfl (fun b3 w3 e3 s3 h3 => ?_)
  have g_b3 : w.heap.size ≤ b3 := by have := E.size; omega
  have y_b3 := h3.lt
  replace E := E.trans e3; replace h1 := h1.ext e3; replace h2 := h2.ext e3
  have z3 := e3.size
  refine J_done ?_
  refine S_seq ?_
  refine S_reg [true, true, true, false] rfl rfl ?_
  refine J_st (R_fieldAddr0 fl88_0 rfl) rfl (J_st (R_load sc3 rfl (h1.one 0 rfl)) rfl (J_st (R_fieldAddr0 fl59_0 rfl) rfl ?_))
  refine J_store' (cs' := [.int .i64 x.op, .int .i64 0, .int .i64 0, .int .i64 0, .int .i64 0]) sc3 rfl rfl rfl h3 (Nat.le_of_ble_eq_true rfl) rfl (fun w4 m1 h3' => ?_)
  replace h3 := h3'
  replace E := E.step m1 (fun g hg => by cases hg; omega); replace h1 := h1.mod m1 (fun g hg => by cases hg; omega); replace h2 := h2.mod m1 (fun g hg => by cases hg; omega)
  have z4 := m1.size
  refine J_done ?_
  refine S_seq ?_
  refine S_reg [true, true, false, true, false] rfl rfl ?_
  refine J_st (R_fieldAddr0 fl88_1 rfl) rfl (J_st (R_loadS st86 rfl (h1.part 1 [.int .i64 x.stamp.epoch, .int .i64 x.stamp.turn] rfl) rfl) rfl ?_)
  refine J_call Try.call55 rfl (c_toStamp x.stamp _ ) rfl (fun _ w5 e4 hv => ?_)
  subst hv
  replace E := E.trans e4; replace h1 := h1.ext e4; replace h2 := h2.ext e4; replace h3 := h3.ext e4
  have z5 := e4.size
  refine J_st (R_fieldAddr0 fl59_1 rfl) rfl ?_
  refine J_storeS' (cs' := [.int .i64 x.op, .int .i64 x.stamp.epoch, .int .i64 x.stamp.turn, .int .i64 0, .int .i64 0]) st57 rfl rfl rfl rfl h3 (Nat.le_of_ble_eq_true rfl) rfl (fun w6 m2 h3' => ?_)
  replace h3 := h3'
  replace E := E.step m2 (fun g hg => by cases hg; omega); replace h1 := h1.mod m2 (fun g hg => by cases hg; omega); replace h2 := h2.mod m2 (fun g hg => by cases hg; omega)
  have z6 := m2.size
  refine J_done ?_
  refine S_seq ?_
  refine S_reg [true, true, true, false] rfl rfl ?_
  refine J_st (R_fieldAddr0 fl88_2 rfl) rfl (J_st (R_load sc3 rfl (h1.one 3 rfl)) rfl (J_st (R_fieldAddr0 fl59_2 rfl) rfl ?_))
  refine J_store' (cs' := [.int .i64 x.op, .int .i64 x.stamp.epoch, .int .i64 x.stamp.turn, .int .i64 x.key, .int .i64 0]) sc3 rfl rfl rfl h3 (Nat.le_of_ble_eq_true rfl) rfl (fun w7 m3 h3' => ?_)
  replace h3 := h3'
  replace E := E.step m3 (fun g hg => by cases hg; omega); replace h1 := h1.mod m3 (fun g hg => by cases hg; omega); replace h2 := h2.mod m3 (fun g hg => by cases hg; omega)
  have z7 := m3.size
  refine J_done ?_
  refine S_seq ?_
  refine S_reg [true, true, true, false] rfl rfl ?_
  refine J_st (R_fieldAddr0 fl88_3 rfl) rfl (J_st (R_load sc3 rfl (h1.one 4 rfl)) rfl (J_st (R_fieldAddr0 fl59_3 rfl) rfl ?_))
  refine J_store' (cs' := [.int .i64 x.op, .int .i64 x.stamp.epoch, .int .i64 x.stamp.turn, .int .i64 x.key, .int .i64 x.val]) sc3 rfl rfl rfl h3 (Nat.le_of_ble_eq_true rfl) rfl (fun w8 m4 h3' => ?_)
  replace h3 := h3'
  replace E := E.step m4 (fun g hg => by cases hg; omega); replace h1 := h1.mod m4 (fun g hg => by cases hg; omega); replace h2 := h2.mod m4 (fun g hg => by cases hg; omega)
  have z8 := m4.size
  refine J_done ?_
  refine S_seq ?_
  refine S_reg [true, false] rfl rfl ?_
  refine J_st (R_loadS st59 rfl h3.at rfl) rfl ?_
  refine J_storeS' (cs' := [.int .i64 x.op, .int .i64 x.stamp.epoch, .int .i64 x.stamp.turn, .int .i64 x.key, .int .i64 x.val]) st59 rfl rfl rfl rfl h2 (Nat.le_of_ble_eq_true rfl) rfl (fun w9 m5 h2' => ?_)
  replace h2 := h2'
  replace E := E.step m5 (fun g hg => by cases hg; omega); replace h1 := h1.mod m5 (fun g hg => by cases hg; omega); replace h3 := h3.mod m5 (fun g hg => by cases hg; omega)
  have z9 := m5.size
  refine J_done ?_
  refine S_ret (E_doneC rfl rfl (run_loadVar_st st59 h2.at rfl) E ?_)
  rfl

set_option maxRecDepth 20000 in
theorem c_eqStamp (x : Stamp) (y : Stamp) (w : World)  : Ct Try.prog 60 [.agg (Enc.enc x).toArray, .agg (Enc.enc y).toArray] w (fun v _ => v = .bool (decide (x = y))) := by
  refine ct_of Try.func60 rfl Try.ntmps60 rfl ?_
  refine S_sub [(0, .agg (Enc.enc x).toArray), (1, .agg (Enc.enc y).toArray)] ⟨rfl, rfl, trivial⟩ ?_
  have E : Ext w w := Ext.refl w
  refine S_seq ?_
  refine S_reg [false, false, true] rfl rfl ?_
  refine J_box rfl rfl (fun b1 w1 e1 s1 h1 => ?_)
  have g_b1 : w.heap.size ≤ b1 := by have := E.size; omega
  have y_b1 := h1.lt
  replace E := E.trans e1
  have z1 := e1.size
  refine J_box rfl rfl (fun b2 w2 e2 s2 h2 => ?_)
  have g_b2 : w.heap.size ≤ b2 := by have := E.size; omega
  have y_b2 := h2.lt
  replace E := E.trans e2; replace h1 := h1.ext e2
  have z2 := e2.size
  refine J_st (R_assign rfl) rfl (J_done ?_)
  refine S_seq ?_
  refine S_seq ?_
  refine S_reg [true, true, true, true, true] rfl rfl ?_
  refine J_st (R_fieldAddr0 fl57_0 rfl) rfl (J_st (R_load sc3 rfl (h1.one 0 rfl)) rfl (J_st (R_fieldAddr0 fl57_0 rfl) rfl (J_st (R_load sc3 rfl (h2.one 0 rfl)) rfl (J_st (R_neq rfl rfl) rfl (J_done ?_)))))
  refine S_cond rfl (fun hc1 => ?_) (fun hc1 => ?_)
  · refine S_seq ?_
    refine S_reg [true] rfl rfl ?_
    refine J_st (R_assign rfl) rfl (J_done ?_)
    refine S_ret (E_done1 rfl rfl E ?_)
    cases x; cases y; simp_all
  · refine S_skip ?_
    refine S_seq ?_
    refine S_seq ?_
    refine S_reg [true, true, true, true, true] rfl rfl ?_
    refine J_st (R_fieldAddr0 fl57_1 rfl) rfl (J_st (R_load sc3 rfl (h1.one 1 rfl)) rfl (J_st (R_fieldAddr0 fl57_1 rfl) rfl (J_st (R_load sc3 rfl (h2.one 1 rfl)) rfl (J_st (R_neq rfl rfl) rfl (J_done ?_)))))
    refine S_cond rfl (fun hc2 => ?_) (fun hc2 => ?_)
    · refine S_seq ?_
      refine S_reg [true] rfl rfl ?_
      refine J_st (R_assign rfl) rfl (J_done ?_)
      refine S_ret (E_done1 rfl rfl E ?_)
      cases x; cases y; simp_all
    · refine S_skip ?_
      refine S_seq ?_
      refine S_reg [true] rfl rfl ?_
      refine J_st (R_assign rfl) rfl (J_done ?_)
      refine S_ret (E_done1 rfl rfl E ?_)
      cases x; cases y; simp_all

set_option maxRecDepth 20000 in
theorem c_eqRecord (x : Record) (y : Record) (w : World)  : Ct Try.prog 50 [.agg (Enc.enc x).toArray, .agg (Enc.enc y).toArray] w (fun v _ => v = .bool (decide (x = y))) := by
  refine ct_of Try.func50 rfl Try.ntmps50 rfl ?_
  refine S_sub [(0, .agg (Enc.enc x).toArray), (1, .agg (Enc.enc y).toArray)] ⟨rfl, rfl, trivial⟩ ?_
  have E : Ext w w := Ext.refl w
  refine S_seq ?_
  refine S_reg [false, false, true] rfl rfl ?_
  refine J_box rfl rfl (fun b1 w1 e1 s1 h1 => ?_)
  have g_b1 : w.heap.size ≤ b1 := by have := E.size; omega
  have y_b1 := h1.lt
  replace E := E.trans e1
  have z1 := e1.size
  refine J_box rfl rfl (fun b2 w2 e2 s2 h2 => ?_)
  have g_b2 : w.heap.size ≤ b2 := by have := E.size; omega
  have y_b2 := h2.lt
  replace E := E.trans e2; replace h1 := h1.ext e2
  have z2 := e2.size
  refine J_st (R_assign rfl) rfl (J_done ?_)
  refine S_seq ?_
  refine S_seq ?_
  refine S_reg [true, true, true, true, true] rfl rfl ?_
  refine J_st (R_fieldAddr0 fl59_0 rfl) rfl (J_st (R_load sc3 rfl (h1.one 0 rfl)) rfl (J_st (R_fieldAddr0 fl59_0 rfl) rfl (J_st (R_load sc3 rfl (h2.one 0 rfl)) rfl (J_st (R_neq rfl rfl) rfl (J_done ?_)))))
  refine S_cond rfl (fun hc1 => ?_) (fun hc1 => ?_)
  · refine S_seq ?_
    refine S_reg [true] rfl rfl ?_
    refine J_st (R_assign rfl) rfl (J_done ?_)
    refine S_ret (E_done1 rfl rfl E ?_)
    cases x; cases y; simp_all
  · refine S_skip ?_
    refine S_seq ?_
    refine S_seq ?_
    refine S_reg [true, true, true, true, false, true] rfl rfl ?_
    refine J_st (R_fieldAddr0 fl59_1 rfl) rfl (J_st (R_loadS st57 rfl (h1.part 1 [.int .i64 x.stamp.epoch, .int .i64 x.stamp.turn] rfl) rfl) rfl (J_st (R_fieldAddr0 fl59_1 rfl) rfl (J_st (R_loadS st57 rfl (h2.part 1 [.int .i64 y.stamp.epoch, .int .i64 y.stamp.turn] rfl) rfl) rfl ?_)))
    refine J_call Try.call60 rfl (c_eqStamp x.stamp y.stamp _ ) rfl (fun _ w3 e3 hv => ?_)
    subst hv
    replace E := E.trans e3; replace h1 := h1.ext e3; replace h2 := h2.ext e3
    have z3 := e3.size
    refine J_st (R_not rfl) rfl (J_done ?_)
    refine S_cond rfl (fun hc2 => ?_) (fun hc2 => ?_)
    · refine S_seq ?_
      refine S_reg [true] rfl rfl ?_
      refine J_st (R_assign rfl) rfl (J_done ?_)
      refine S_ret (E_done1 rfl rfl E ?_)
      cases x; cases y; simp_all
    · refine S_skip ?_
      refine S_seq ?_
      refine S_seq ?_
      refine S_reg [true, true, true, true, true] rfl rfl ?_
      refine J_st (R_fieldAddr0 fl59_2 rfl) rfl (J_st (R_load sc3 rfl (h1.one 3 rfl)) rfl (J_st (R_fieldAddr0 fl59_2 rfl) rfl (J_st (R_load sc3 rfl (h2.one 3 rfl)) rfl (J_st (R_neq rfl rfl) rfl (J_done ?_)))))
      refine S_cond rfl (fun hc3 => ?_) (fun hc3 => ?_)
      · refine S_seq ?_
        refine S_reg [true] rfl rfl ?_
        refine J_st (R_assign rfl) rfl (J_done ?_)
        refine S_ret (E_done1 rfl rfl E ?_)
        cases x; cases y; simp_all
      · refine S_skip ?_
        refine S_seq ?_
        refine S_seq ?_
        refine S_reg [true, true, true, true, true] rfl rfl ?_
        refine J_st (R_fieldAddr0 fl59_3 rfl) rfl (J_st (R_load sc3 rfl (h1.one 4 rfl)) rfl (J_st (R_fieldAddr0 fl59_3 rfl) rfl (J_st (R_load sc3 rfl (h2.one 4 rfl)) rfl (J_st (R_neq rfl rfl) rfl (J_done ?_)))))
        refine S_cond rfl (fun hc4 => ?_) (fun hc4 => ?_)
        · refine S_seq ?_
          refine S_reg [true] rfl rfl ?_
          refine J_st (R_assign rfl) rfl (J_done ?_)
          refine S_ret (E_done1 rfl rfl E ?_)
          cases x; cases y; simp_all
        · refine S_skip ?_
          refine S_seq ?_
          refine S_reg [true] rfl rfl ?_
          refine J_st (R_assign rfl) rfl (J_done ?_)
          refine S_ret (E_done1 rfl rfl E ?_)
          cases x; cases y; simp_all

set_option maxRecDepth 20000 in
theorem c_toDone (x : Done) (w : World)  : Ct Try.prog 43 [.agg (Enc.enc x).toArray] w (fun v _ => v = .agg (Enc.enc x).toArray) := by
  refine ct_of Try.func43 rfl Try.ntmps43 rfl ?_
  refine S_sub [(0, .agg (Enc.enc x).toArray)] ⟨rfl, trivial⟩ ?_
  have E : Ext w w := Ext.refl w
  refine S_seq ?_
  refine S_reg [false, false] rfl rfl ?_
  refine J_box rfl rfl (fun b1 w1 e1 s1 h1 => ?_)
  have g_b1 : w.heap.size ≤ b1 := by have := E.size; omega
  have y_b1 := h1.lt
  replace E := E.trans e1
  have z1 := e1.size
  refine J_alloc st62 rfl (fun b2 w2 e2 s2 h2 => ?_)
  have g_b2 : w.heap.size ≤ b2 := by have := E.size; omega
  have y_b2 := h2.lt
  replace E := E.trans e2; replace h1 := h1.ext e2
  have z2 := e2.size
  refine J_done ?_
  refine S_seq ?_
  refine S_reg [false] rfl rfl ?_
  refine J_alloc st62 rfl (fun b3 w3 e3 s3 h3 => ?_)
  have g_b3 : w.heap.size ≤ b3 := by have := E.size; omega
  have y_b3 := h3.lt
  replace E := E.trans e3; replace h1 := h1.ext e3; replace h2 := h2.ext e3
  have z3 := e3.size
  refine J_done ?_
  refine S_seq ?_
  refine S_reg [true, true, true, false] rfl rfl ?_
  refine J_st (R_fieldAddr0 fl92_0 rfl) rfl (J_st (R_load sc3 rfl (h1.one 0 rfl)) rfl (J_st (R_fieldAddr0 fl62_0 rfl) rfl ?_))
  refine J_store' (cs' := [.int .i64 x.epoch, .bool false]) sc3 rfl rfl rfl h3 (Nat.le_of_ble_eq_true rfl) rfl (fun w4 m1 h3' => ?_)
  replace h3 := h3'
  replace E := E.step m1 (fun g hg => by cases hg; omega); replace h1 := h1.mod m1 (fun g hg => by cases hg; omega); replace h2 := h2.mod m1 (fun g hg => by cases hg; omega)
  have z4 := m1.size
  refine J_done ?_
  refine S_seq ?_
  refine S_reg [true, true, true, false] rfl rfl ?_
  refine J_st (R_fieldAddr0 fl92_1 rfl) rfl (J_st (R_load sc4 rfl (h1.one 1 rfl)) rfl (J_st (R_fieldAddr0 fl62_1 rfl) rfl ?_))
  refine J_store' (cs' := [.int .i64 x.epoch, .bool x.capped]) sc4 rfl rfl rfl h3 (Nat.le_of_ble_eq_true rfl) rfl (fun w5 m2 h3' => ?_)
  replace h3 := h3'
  replace E := E.step m2 (fun g hg => by cases hg; omega); replace h1 := h1.mod m2 (fun g hg => by cases hg; omega); replace h2 := h2.mod m2 (fun g hg => by cases hg; omega)
  have z5 := m2.size
  refine J_done ?_
  refine S_seq ?_
  refine S_reg [true, false] rfl rfl ?_
  refine J_st (R_loadS st62 rfl h3.at rfl) rfl ?_
  refine J_storeS' (cs' := [.int .i64 x.epoch, .bool x.capped]) st62 rfl rfl rfl rfl h2 (Nat.le_of_ble_eq_true rfl) rfl (fun w6 m3 h2' => ?_)
  replace h2 := h2'
  replace E := E.step m3 (fun g hg => by cases hg; omega); replace h1 := h1.mod m3 (fun g hg => by cases hg; omega); replace h3 := h3.mod m3 (fun g hg => by cases hg; omega)
  have z6 := m3.size
  refine J_done ?_
  refine S_ret (E_doneC rfl rfl (run_loadVar_st st62 h2.at rfl) E ?_)
  rfl

set_option maxRecDepth 20000 in
theorem c_eqDone (x : Done) (y : Done) (w : World)  : Ct Try.prog 52 [.agg (Enc.enc x).toArray, .agg (Enc.enc y).toArray] w (fun v _ => v = .bool (decide (x = y))) := by
  refine ct_of Try.func52 rfl Try.ntmps52 rfl ?_
  refine S_sub [(0, .agg (Enc.enc x).toArray), (1, .agg (Enc.enc y).toArray)] ⟨rfl, rfl, trivial⟩ ?_
  have E : Ext w w := Ext.refl w
  refine S_seq ?_
  refine S_reg [false, false, true] rfl rfl ?_
  refine J_box rfl rfl (fun b1 w1 e1 s1 h1 => ?_)
  have g_b1 : w.heap.size ≤ b1 := by have := E.size; omega
  have y_b1 := h1.lt
  replace E := E.trans e1
  have z1 := e1.size
  refine J_box rfl rfl (fun b2 w2 e2 s2 h2 => ?_)
  have g_b2 : w.heap.size ≤ b2 := by have := E.size; omega
  have y_b2 := h2.lt
  replace E := E.trans e2; replace h1 := h1.ext e2
  have z2 := e2.size
  refine J_st (R_assign rfl) rfl (J_done ?_)
  refine S_seq ?_
  refine S_seq ?_
  refine S_reg [true, true, true, true, true] rfl rfl ?_
  refine J_st (R_fieldAddr0 fl62_0 rfl) rfl (J_st (R_load sc3 rfl (h1.one 0 rfl)) rfl (J_st (R_fieldAddr0 fl62_0 rfl) rfl (J_st (R_load sc3 rfl (h2.one 0 rfl)) rfl (J_st (R_neq rfl rfl) rfl (J_done ?_)))))
  refine S_cond rfl (fun hc1 => ?_) (fun hc1 => ?_)
  · refine S_seq ?_
    refine S_reg [true] rfl rfl ?_
    refine J_st (R_assign rfl) rfl (J_done ?_)
    refine S_ret (E_done1 rfl rfl E ?_)
    cases x; cases y; simp_all
  · refine S_skip ?_
    refine S_seq ?_
    refine S_seq ?_
    refine S_reg [true, true, true, true, true] rfl rfl ?_
    refine J_st (R_fieldAddr0 fl62_1 rfl) rfl (J_st (R_load sc4 rfl (h1.one 1 rfl)) rfl (J_st (R_fieldAddr0 fl62_1 rfl) rfl (J_st (R_load sc4 rfl (h2.one 1 rfl)) rfl (J_st (R_neqB (Try.underlying4) rfl rfl) rfl (J_done ?_)))))
    refine S_cond rfl (fun hc2 => ?_) (fun hc2 => ?_)
    · refine S_seq ?_
      refine S_reg [true] rfl rfl ?_
      refine J_st (R_assign rfl) rfl (J_done ?_)
      refine S_ret (E_done1 rfl rfl E ?_)
      cases x; cases y; simp_all
    · refine S_skip ?_
      refine S_seq ?_
      refine S_reg [true] rfl rfl ?_
      refine J_st (R_assign rfl) rfl (J_done ?_)
      refine S_ret (E_done1 rfl rfl E ?_)
      cases x; cases y; simp_all

set_option maxRecDepth 20000 in
theorem c_szRecordS (vxs : Value) (xs : List Record) (n : Int) (w : World) (hxs : RdS w vxs xs) (h0 : 0 ≤ n ∧ n ≤ 1048576) : Ct Try.prog 13 [vxs, .int .i64 n] w (fun v _ => v = .int .i64 (szM xs.length n)) := by
  refine ct_of Try.func13 rfl Try.ntmps13 rfl ?_
  refine S_sub [(0, vxs), (1, .int .i64 n)] ⟨rfl, rfl, trivial⟩ ?_
  have E : Ext w w := Ext.refl w
  refine S_seq ?_
  refine S_reg [true] rfl rfl ?_
  refine J_st (R_assign rfl) rfl (J_done ?_)
  refine S_seq ?_
  refine S_reg [true, true, true, true, true] rfl rfl ?_
  refine J_st (R_move rfl) rfl (J_st (R_move rfl) rfl (J_st (R_len Try.underlying25 rfl (hxs.ext E).len) rfl (J_st (R_sub rfl rfl rfl) rfl (J_st (R_assign rfl) rfl (J_done ?_)))))
  refine S_seq ?_
  refine S_seq ?_
  refine S_reg [true, true] rfl rfl ?_
  refine J_st (R_move rfl) rfl (J_st (R_lss rfl rfl) rfl (J_done ?_))
  refine S_cond rfl (fun hc1 => ?_) (fun hc1 => ?_)
  · refine S_seq ?_
    refine S_reg [true] rfl rfl ?_
    refine J_st (R_assign rfl) rfl (J_done ?_)
    refine S_ret (E_done1 rfl rfl E ?_)
    exact sz_no h0.2 h0.1 hxs.1 hc1
  · refine S_skip ?_
    refine S_seq ?_
    refine S_reg [true, true] rfl rfl ?_
    refine J_st (R_move rfl) rfl (J_st (R_assign rfl) rfl (J_done ?_))
    refine S_ret (E_done1 rfl rfl E ?_)
    exact sz_yes h0.2 h0.1 hxs.1 hc1

set_option maxRecDepth 20000 in
theorem c_toRecordS (vxs : Value) (xs : List Record) (w : World) (hxs : RdS w vxs xs) (hb : xs.length ≤ 1048576) : Ct Try.prog 22 [vxs] w (fun v w' => Own w' w.heap.size w'.heap.size 5 v (List.flatMap (Enc.enc (α := Record)) xs)) := by
  refine ct_of Try.func22 rfl Try.ntmps22 rfl ?_
  refine S_sub [(0, vxs)] ⟨rfl, trivial⟩ ?_
  have E : Ext w w := Ext.refl w
  refine S_seq ?_
  refine S_reg [true] rfl rfl ?_
  refine J_st (R_assign rfl) rfl (J_done ?_)
  refine S_seq ?_
  refine S_reg [true, true, false, true] rfl rfl ?_
  refine J_st (R_move rfl) rfl (J_st (R_len Try.underlying25 rfl (hxs.ext E).len) rfl ?_)
  refine J_make (m := xs.length) sl39 rfl rfl (by omega) (by decide) rfl (fun b1 w1 e1 s1 h1 => ?_)
  have g_b1 : w.heap.size ≤ b1 := by have := E.size; omega
  have y_b1 := h1.lt
  replace E := E.trans e1
  have z1 := e1.size
  refine J_st (R_assign rfl) rfl (J_done ?_)
  refine S_seq ?_
  refine S_seq ?_
  refine S_reg [true] rfl rfl ?_
  refine J_st (R_assign rfl) rfl (J_done ?_)
  refine S_block ?_
  refine S_loop (fun (k : Nat) => [(0, vxs), (2, .slice none 0 0), (3, .slice (some ⟨b1, 0, none⟩) xs.length xs.length), (4, .int .i64 ((k : Nat) : Int))]) (fun (k : Nat) w' => Ext w w' ∧ w1.heap.size ≤ w'.heap.size ∧ k ≤ xs.length ∧ Blk w' b1 (mk xs [.int .i64 0, .int .i64 0, .int .i64 0, .int .i64 0, .int .i64 0] k xs.length)) (fun (k : Nat) => xs.length - k) 0 ⟨rfl, rfl, rfl, rfl, trivial⟩ ⟨E, Nat.le_refl _, Nat.zero_le _, (mk_zero xs [.int .i64 0, .int .i64 0, .int .i64 0, .int .i64 0, .int .i64 0] xs.length) ▸ h1⟩ ?_
  clear E h1
  rintro k w2 ⟨E, z2, hk, h1⟩
  refine S_seq ?_
  refine S_seq ?_
  refine S_reg [true, true, true, true] rfl rfl ?_
  refine J_st (R_move rfl) rfl (J_st (R_move rfl) rfl (J_st (R_len Try.underlying25 rfl (hxs.ext E).len) rfl (J_st (R_lss rfl rfl) rfl (J_done ?_))))
  refine S_cond rfl (fun hc1 => ?_) (fun hc1 => ?_)
  · have hc1n : k < xs.length := by first | (have h := of_decide_eq_true hc1; omega) | (have h := hc1; simp at h; omega)
    refine S_skip ?_
    refine S_seq ?_
    refine S_block ?_
    refine S_reg [true, true, true, true, true, true, false, true, false] rfl rfl ?_
    refine J_st (R_move rfl) rfl (J_st (R_move rfl) rfl (J_st (R_move rfl) rfl (J_st (R_move rfl) rfl ?_)))
    have hi1 : k < xs.length := (by first | assumption | omega)
    refine J_st (R_index (i := k) sl25 rfl rfl (hxs.ext E) hi1) rfl (J_st (R_loadS st88 rfl ((hxs.ext E).get hi1) rfl) rfl ?_)
    refine J_call Try.call41 rfl (c_toRecord (xs[k]'hi1) _ ) rfl (fun _ w3 e2 hv => ?_)
    subst hv
    replace E := E.trans e2; replace h1 := h1.ext e2
    have z3 := e2.size
    refine J_st (R_indexB sl39 rfl rfl (by first | assumption | omega)) rfl ?_
    refine J_storeS' (cs' := mk xs [.int .i64 0, .int .i64 0, .int .i64 0, .int .i64 0, .int .i64 0] (k + 1) xs.length) st59 rfl rfl rfl rfl h1 (mk_room xs [.int .i64 0, .int .i64 0, .int .i64 0, .int .i64 0, .int .i64 0] rfl hc1n hc1n (by rfl)) (mk_step xs [.int .i64 0, .int .i64 0, .int .i64 0, .int .i64 0, .int .i64 0] rfl hc1n hc1n) (fun w4 m1 h1' => ?_)
    replace h1 := h1'
    replace E := E.step m1 (fun g hg => by cases hg; omega)
    have z4 := m1.size
    refine J_done ?_
    refine S_nil (E_inB ?_)
    refine S_reg [true, true, true] rfl rfl ?_
    refine J_st (R_move rfl) rfl (J_st (R_add rfl rfl (add_one hc1n hxs.1)) rfl (J_st (R_assign rfl) rfl (J_done ?_)))
    refine S_nil (E_again (k + 1) (by omega) ⟨rfl, rfl, rfl, rfl, trivial⟩ ⟨E, (by omega), (by omega), h1⟩)
  · have hc1n : ¬ k < xs.length := by first | (have h := of_decide_eq_false hc1; omega) | (have h := hc1; simp at h; omega)
    refine S_exit (E_lp_exit (E_inB_exit ?_))
    refine S_seq ?_
    refine S_reg [true, true] rfl rfl ?_
    refine J_st (R_move rfl) rfl (J_st (R_assign rfl) rfl (J_done ?_))
    refine S_ret (E_done1 rfl rfl E ?_)
    obtain rfl : k = xs.length := by omega
    rw [mk_all] at h1
    exact Own.ofBlk h1 (by omega) (by have := h1.lt; omega) (sum_flat xs) hxs.1

set_option maxRecDepth 20000 in
theorem c_eqRecordS (vxs : Value) (xs : List Record) (vys : Value) (ys : List Record) (w : World) (hxs : RdS w vxs xs) (hys : RdS w vys ys) : Ct Try.prog 32 [vxs, vys] w (fun v _ => v = .bool (decide (xs = ys))) := by
  refine ct_of Try.func32 rfl Try.ntmps32 rfl ?_
  refine S_sub [(0, vxs), (1, vys)] ⟨rfl, rfl, trivial⟩ ?_
  have E : Ext w w := Ext.refl w
  refine S_seq ?_
  refine S_reg [true] rfl rfl ?_
  refine J_st (R_assign rfl) rfl (J_done ?_)
  refine S_seq ?_
  refine S_seq ?_
  refine S_reg [true, true, true, true, true] rfl rfl ?_
  refine J_st (R_move rfl) rfl (J_st (R_len Try.underlying39 rfl (hxs.ext E).len) rfl (J_st (R_move rfl) rfl (J_st (R_len Try.underlying39 rfl (hys.ext E).len) rfl (J_st (R_neq rfl rfl) rfl (J_done ?_)))))
  refine S_cond rfl (fun hc1 => ?_) (fun hc1 => ?_)
  · have hc1n : ¬ xs.length = ys.length := by first | (have h := of_decide_eq_true hc1; omega) | (have h := hc1; simp at h; omega)
    refine S_seq ?_
    refine S_reg [true] rfl rfl ?_
    refine J_st (R_assign rfl) rfl (J_done ?_)
    refine S_ret (E_done1 rfl rfl E ?_)
    simp [eq_len hc1n]
  · have hc1n : xs.length = ys.length := by first | (have h := of_decide_eq_false hc1; omega) | (have h := hc1; simp at h; omega)
    refine S_skip ?_
    refine S_seq ?_
    refine S_seq ?_
    refine S_reg [true] rfl rfl ?_
    refine J_st (R_assign rfl) rfl (J_done ?_)
    refine S_block ?_
    refine S_loop (fun (k : Nat) => [(0, vxs), (1, vys), (4, .bool false), (5, .int .i64 ((k : Nat) : Int))]) (fun (k : Nat) w' => Ext w w' ∧ w.heap.size ≤ w'.heap.size ∧ k ≤ xs.length ∧ xs.take k = ys.take k) (fun (k : Nat) => xs.length - k) 0 ⟨rfl, rfl, rfl, rfl, trivial⟩ ⟨E, Nat.le_refl _, Nat.zero_le _, rfl⟩ ?_
    clear E
    rintro k w1 ⟨E, z1, hk, hp⟩
    refine S_seq ?_
    refine S_seq ?_
    refine S_reg [true, true, true, true] rfl rfl ?_
    refine J_st (R_move rfl) rfl (J_st (R_move rfl) rfl (J_st (R_len Try.underlying39 rfl (hxs.ext E).len) rfl (J_st (R_lss rfl rfl) rfl (J_done ?_))))
    refine S_cond rfl (fun hc2 => ?_) (fun hc2 => ?_)
    · have hc2n : k < xs.length := by first | (have h := of_decide_eq_true hc2; omega) | (have h := hc2; simp at h; omega)
      refine S_skip ?_
      refine S_seq ?_
      refine S_block ?_
      refine S_seq ?_
      refine S_regD mixed [(0, true), (1, true), (2, true), (3, true), (4, true), (5, true), (6, true), (7, true), (8, false), (9, true)] (by decide +kernel) rfl (fun w2 e1 => ?_)
      replace E := E.trans e1
      have z2 := e1.size
      refine J_st (R_move rfl) rfl (J_st (R_move rfl) rfl ?_)
      have hi1 : k < xs.length := (by first | assumption | omega)
      refine J_st (R_index (i := k) sl39 rfl rfl (hxs.ext E) hi1) rfl (J_st (R_loadS st59 rfl ((hxs.ext E).get hi1) rfl) rfl (J_st (R_move rfl) rfl (J_st (R_move rfl) rfl ?_)))
      have hi2 : k < ys.length := (by first | assumption | omega)
      refine J_st (R_index (i := k) sl39 rfl rfl (hys.ext E) hi2) rfl (J_st (R_loadS st59 rfl ((hys.ext E).get hi2) rfl) rfl ?_)
      refine J_call Try.call50 rfl (c_eqRecord (xs[k]'hi1) (ys[k]'hi2) _ ) rfl (fun _ w3 e2 hv => ?_)
      subst hv
      replace E := E.trans e2
      have z3 := e2.size
      refine J_st (R_not rfl) rfl (J_done ?_)
      refine S_cond rfl (fun hc3 => ?_) (fun hc3 => ?_)
      · refine S_seq ?_
        refine S_reg [true] rfl rfl ?_
        refine J_st (R_assign rfl) rfl (J_done ?_)
        refine S_ret (E_inB_ret (E_lp_ret (E_inB_ret (E_done1 rfl rfl E ?_))))
        exact eqS_no (by omega) (by omega) (by simpa using hc3)
      · refine S_skip ?_
        refine S_nil (E_inB ?_)
        refine S_reg [true, true, true] rfl rfl ?_
        refine J_st (R_move rfl) rfl (J_st (R_add rfl rfl (add_one hc2n hxs.1)) rfl (J_st (R_assign rfl) rfl (J_done ?_)))
        refine S_nil (E_again (k + 1) (by omega) ⟨rfl, rfl, rfl, rfl, trivial⟩ ⟨E, (by omega), (by omega), eqS_step hp (by assumption) (by omega) (by simpa using hc3)⟩)
    · have hc2n : ¬ k < xs.length := by first | (have h := of_decide_eq_false hc2; omega) | (have h := hc2; simp at h; omega)
      refine S_exit (E_lp_exit (E_inB_exit ?_))
      refine S_seq ?_
      refine S_reg [true] rfl rfl ?_
      refine J_st (R_assign rfl) rfl (J_done ?_)
      refine S_ret (E_done1 rfl rfl E ?_)
      exact eqS_yes hp hc1n (by omega)

set_option maxRecDepth 20000 in
theorem c_szBoolS (vxs : Value) (xs : List Bool) (n : Int) (w : World) (hxs : RdS w vxs xs) (h0 : 0 ≤ n ∧ n ≤ 1048576) : Ct Try.prog 16 [vxs, .int .i64 n] w (fun v _ => v = .int .i64 (szM xs.length n)) := by
  refine ct_of Try.func16 rfl Try.ntmps16 rfl ?_
  refine S_sub [(0, vxs), (1, .int .i64 n)] ⟨rfl, rfl, trivial⟩ ?_
  have E : Ext w w := Ext.refl w
  refine S_seq ?_
  refine S_reg [true] rfl rfl ?_
  refine J_st (R_assign rfl) rfl (J_done ?_)
  refine S_seq ?_
  refine S_reg [true, true, true, true, true] rfl rfl ?_
  refine J_st (R_move rfl) rfl (J_st (R_move rfl) rfl (J_st (R_len Try.underlying28 rfl (hxs.ext E).len) rfl (J_st (R_sub rfl rfl rfl) rfl (J_st (R_assign rfl) rfl (J_done ?_)))))
  refine S_seq ?_
  refine S_seq ?_
  refine S_reg [true, true] rfl rfl ?_
  refine J_st (R_move rfl) rfl (J_st (R_lss rfl rfl) rfl (J_done ?_))
  refine S_cond rfl (fun hc1 => ?_) (fun hc1 => ?_)
  · refine S_seq ?_
    refine S_reg [true] rfl rfl ?_
    refine J_st (R_assign rfl) rfl (J_done ?_)
    refine S_ret (E_done1 rfl rfl E ?_)
    exact sz_no h0.2 h0.1 hxs.1 hc1
  · refine S_skip ?_
    refine S_seq ?_
    refine S_reg [true, true] rfl rfl ?_
    refine J_st (R_move rfl) rfl (J_st (R_assign rfl) rfl (J_done ?_))
    refine S_ret (E_done1 rfl rfl E ?_)
    exact sz_yes h0.2 h0.1 hxs.1 hc1

set_option maxRecDepth 20000 in
theorem c_toBoolS (vxs : Value) (xs : List Bool) (w : World) (hxs : RdS w vxs xs) (hb : xs.length ≤ 1048576) : Ct Try.prog 25 [vxs] w (fun v w' => Own w' w.heap.size w'.heap.size 1 v (List.flatMap (Enc.enc (α := Bool)) xs)) := by
  refine ct_of Try.func25 rfl Try.ntmps25 rfl ?_
  refine S_sub [(0, vxs)] ⟨rfl, trivial⟩ ?_
  have E : Ext w w := Ext.refl w
  refine S_seq ?_
  refine S_reg [true] rfl rfl ?_
  refine J_st (R_assign rfl) rfl (J_done ?_)
  refine S_seq ?_
  refine S_reg [true, true, false, true] rfl rfl ?_
  refine J_st (R_move rfl) rfl (J_st (R_len Try.underlying28 rfl (hxs.ext E).len) rfl ?_)
  refine J_make (m := xs.length) sl28 rfl rfl (by omega) (by decide) rfl (fun b1 w1 e1 s1 h1 => ?_)
  have g_b1 : w.heap.size ≤ b1 := by have := E.size; omega
  have y_b1 := h1.lt
  replace E := E.trans e1
  have z1 := e1.size
  refine J_st (R_assign rfl) rfl (J_done ?_)
  refine S_seq ?_
  refine S_seq ?_
  refine S_reg [true] rfl rfl ?_
  refine J_st (R_assign rfl) rfl (J_done ?_)
  refine S_block ?_
  refine S_loop (fun (k : Nat) => [(0, vxs), (2, .slice none 0 0), (3, .slice (some ⟨b1, 0, none⟩) xs.length xs.length), (4, .int .i64 ((k : Nat) : Int))]) (fun (k : Nat) w' => Ext w w' ∧ w1.heap.size ≤ w'.heap.size ∧ k ≤ xs.length ∧ Blk w' b1 (mk xs [.bool false] k xs.length)) (fun (k : Nat) => xs.length - k) 0 ⟨rfl, rfl, rfl, rfl, trivial⟩ ⟨E, Nat.le_refl _, Nat.zero_le _, (mk_zero xs [.bool false] xs.length) ▸ h1⟩ ?_
  clear E h1
  rintro k w2 ⟨E, z2, hk, h1⟩
  refine S_seq ?_
  refine S_seq ?_
  refine S_reg [true, true, true, true] rfl rfl ?_
  refine J_st (R_move rfl) rfl (J_st (R_move rfl) rfl (J_st (R_len Try.underlying28 rfl (hxs.ext E).len) rfl (J_st (R_lss rfl rfl) rfl (J_done ?_))))
  refine S_cond rfl (fun hc1 => ?_) (fun hc1 => ?_)
  · have hc1n : k < xs.length := by first | (have h := of_decide_eq_true hc1; omega) | (have h := hc1; simp at h; omega)
    refine S_skip ?_
    refine S_seq ?_
    refine S_block ?_
    refine S_reg [true, true, true, true, true, true, true, false] rfl rfl ?_
    refine J_st (R_move rfl) rfl (J_st (R_move rfl) rfl (J_st (R_move rfl) rfl (J_st (R_move rfl) rfl ?_)))
    have hi1 : k < xs.length := (by first | assumption | omega)
    refine J_st (R_index (i := k) sl28 rfl rfl (hxs.ext E) hi1) rfl (J_st (R_load sc4 rfl (((hxs.ext E).get hi1).one 0 rfl)) rfl (J_st (R_indexB sl28 rfl rfl (by first | assumption | omega)) rfl ?_))
    refine J_store' (cs' := mk xs [.bool false] (k + 1) xs.length) sc4 rfl rfl rfl h1 (mk_room xs [.bool false] rfl hc1n hc1n (by rfl)) (mk_step xs [.bool false] rfl hc1n hc1n) (fun w3 m1 h1' => ?_)
    replace h1 := h1'
    replace E := E.step m1 (fun g hg => by cases hg; omega)
    have z3 := m1.size
    refine J_done ?_
    refine S_nil (E_inB ?_)
    refine S_reg [true, true, true] rfl rfl ?_
    refine J_st (R_move rfl) rfl (J_st (R_add rfl rfl (add_one hc1n hxs.1)) rfl (J_st (R_assign rfl) rfl (J_done ?_)))
    refine S_nil (E_again (k + 1) (by omega) ⟨rfl, rfl, rfl, rfl, trivial⟩ ⟨E, (by omega), (by omega), h1⟩)
  · have hc1n : ¬ k < xs.length := by first | (have h := of_decide_eq_false hc1; omega) | (have h := hc1; simp at h; omega)
    refine S_exit (E_lp_exit (E_inB_exit ?_))
    refine S_seq ?_
    refine S_reg [true, true] rfl rfl ?_
    refine J_st (R_move rfl) rfl (J_st (R_assign rfl) rfl (J_done ?_))
    refine S_ret (E_done1 rfl rfl E ?_)
    obtain rfl : k = xs.length := by omega
    rw [mk_all] at h1
    exact Own.ofBlk h1 (by omega) (by have := h1.lt; omega) (sum_flat xs) hxs.1

set_option maxRecDepth 20000 in
theorem c_eqBoolS (vxs : Value) (xs : List Bool) (vys : Value) (ys : List Bool) (w : World) (hxs : RdS w vxs xs) (hys : RdS w vys ys) : Ct Try.prog 35 [vxs, vys] w (fun v _ => v = .bool (decide (xs = ys))) := by
  refine ct_of Try.func35 rfl Try.ntmps35 rfl ?_
  refine S_sub [(0, vxs), (1, vys)] ⟨rfl, rfl, trivial⟩ ?_
  have E : Ext w w := Ext.refl w
  refine S_seq ?_
  refine S_reg [true] rfl rfl ?_
  refine J_st (R_assign rfl) rfl (J_done ?_)
  refine S_seq ?_
  refine S_seq ?_
  refine S_reg [true, true, true, true, true] rfl rfl ?_
  refine J_st (R_move rfl) rfl (J_st (R_len Try.underlying28 rfl (hxs.ext E).len) rfl (J_st (R_move rfl) rfl (J_st (R_len Try.underlying28 rfl (hys.ext E).len) rfl (J_st (R_neq rfl rfl) rfl (J_done ?_)))))
  refine S_cond rfl (fun hc1 => ?_) (fun hc1 => ?_)
  · have hc1n : ¬ xs.length = ys.length := by first | (have h := of_decide_eq_true hc1; omega) | (have h := hc1; simp at h; omega)
    refine S_seq ?_
    refine S_reg [true] rfl rfl ?_
    refine J_st (R_assign rfl) rfl (J_done ?_)
    refine S_ret (E_done1 rfl rfl E ?_)
    simp [eq_len hc1n]
  · have hc1n : xs.length = ys.length := by first | (have h := of_decide_eq_false hc1; omega) | (have h := hc1; simp at h; omega)
    refine S_skip ?_
    refine S_seq ?_
    refine S_seq ?_
    refine S_reg [true] rfl rfl ?_
    refine J_st (R_assign rfl) rfl (J_done ?_)
    refine S_block ?_
    refine S_loop (fun (k : Nat) => [(0, vxs), (1, vys), (4, .bool false), (5, .int .i64 ((k : Nat) : Int))]) (fun (k : Nat) w' => Ext w w' ∧ w.heap.size ≤ w'.heap.size ∧ k ≤ xs.length ∧ xs.take k = ys.take k) (fun (k : Nat) => xs.length - k) 0 ⟨rfl, rfl, rfl, rfl, trivial⟩ ⟨E, Nat.le_refl _, Nat.zero_le _, rfl⟩ ?_
    clear E
    rintro k w1 ⟨E, z1, hk, hp⟩
    refine S_seq ?_
    refine S_seq ?_
    refine S_reg [true, true, true, true] rfl rfl ?_
    refine J_st (R_move rfl) rfl (J_st (R_move rfl) rfl (J_st (R_len Try.underlying28 rfl (hxs.ext E).len) rfl (J_st (R_lss rfl rfl) rfl (J_done ?_))))
    refine S_cond rfl (fun hc2 => ?_) (fun hc2 => ?_)
    · have hc2n : k < xs.length := by first | (have h := of_decide_eq_true hc2; omega) | (have h := hc2; simp at h; omega)
      refine S_skip ?_
      refine S_seq ?_
      refine S_block ?_
      refine S_seq ?_
      refine S_regD mixed [(0, true), (1, true), (2, true), (3, true), (4, true), (5, true), (6, true), (7, true), (8, true)] (by decide +kernel) rfl (fun w2 e1 => ?_)
      replace E := E.trans e1
      have z2 := e1.size
      refine J_st (R_move rfl) rfl (J_st (R_move rfl) rfl ?_)
      have hi1 : k < xs.length := (by first | assumption | omega)
      refine J_st (R_index (i := k) sl28 rfl rfl (hxs.ext E) hi1) rfl (J_st (R_load sc4 rfl (((hxs.ext E).get hi1).one 0 rfl)) rfl (J_st (R_move rfl) rfl (J_st (R_move rfl) rfl ?_)))
      have hi2 : k < ys.length := (by first | assumption | omega)
      refine J_st (R_index (i := k) sl28 rfl rfl (hys.ext E) hi2) rfl (J_st (R_load sc4 rfl (((hys.ext E).get hi2).one 0 rfl)) rfl (J_st (R_neqB (Try.underlying4) rfl rfl) rfl (J_done ?_)))
      refine S_cond rfl (fun hc3 => ?_) (fun hc3 => ?_)
      · refine S_seq ?_
        refine S_reg [true] rfl rfl ?_
        refine J_st (R_assign rfl) rfl (J_done ?_)
        refine S_ret (E_inB_ret (E_lp_ret (E_inB_ret (E_done1 rfl rfl E ?_))))
        exact eqS_no (by omega) (by omega) (by simpa using hc3)
      · refine S_skip ?_
        refine S_nil (E_inB ?_)
        refine S_reg [true, true, true] rfl rfl ?_
        refine J_st (R_move rfl) rfl (J_st (R_add rfl rfl (add_one hc2n hxs.1)) rfl (J_st (R_assign rfl) rfl (J_done ?_)))
        refine S_nil (E_again (k + 1) (by omega) ⟨rfl, rfl, rfl, rfl, trivial⟩ ⟨E, (by omega), (by omega), eqS_step hp (by assumption) (by omega) (by simpa using hc3)⟩)
    · have hc2n : ¬ k < xs.length := by first | (have h := of_decide_eq_false hc2; omega) | (have h := hc2; simp at h; omega)
      refine S_exit (E_lp_exit (E_inB_exit ?_))
      refine S_seq ?_
      refine S_reg [true] rfl rfl ?_
      refine J_st (R_assign rfl) rfl (J_done ?_)
      refine S_ret (E_done1 rfl rfl E ?_)
      exact eqS_yes hp hc1n (by omega)

set_option maxRecDepth 20000 in
theorem c_szDoneS (vxs : Value) (xs : List Done) (n : Int) (w : World) (hxs : RdS w vxs xs) (h0 : 0 ≤ n ∧ n ≤ 1048576) : Ct Try.prog 17 [vxs, .int .i64 n] w (fun v _ => v = .int .i64 (szM xs.length n)) := by
  refine ct_of Try.func17 rfl Try.ntmps17 rfl ?_
  refine S_sub [(0, vxs), (1, .int .i64 n)] ⟨rfl, rfl, trivial⟩ ?_
  have E : Ext w w := Ext.refl w
  refine S_seq ?_
  refine S_reg [true] rfl rfl ?_
  refine J_st (R_assign rfl) rfl (J_done ?_)
  refine S_seq ?_
  refine S_reg [true, true, true, true, true] rfl rfl ?_
  refine J_st (R_move rfl) rfl (J_st (R_move rfl) rfl (J_st (R_len Try.underlying29 rfl (hxs.ext E).len) rfl (J_st (R_sub rfl rfl rfl) rfl (J_st (R_assign rfl) rfl (J_done ?_)))))
  refine S_seq ?_
  refine S_seq ?_
  refine S_reg [true, true] rfl rfl ?_
  refine J_st (R_move rfl) rfl (J_st (R_lss rfl rfl) rfl (J_done ?_))
  refine S_cond rfl (fun hc1 => ?_) (fun hc1 => ?_)
  · refine S_seq ?_
    refine S_reg [true] rfl rfl ?_
    refine J_st (R_assign rfl) rfl (J_done ?_)
    refine S_ret (E_done1 rfl rfl E ?_)
    exact sz_no h0.2 h0.1 hxs.1 hc1
  · refine S_skip ?_
    refine S_seq ?_
    refine S_reg [true, true] rfl rfl ?_
    refine J_st (R_move rfl) rfl (J_st (R_assign rfl) rfl (J_done ?_))
    refine S_ret (E_done1 rfl rfl E ?_)
    exact sz_yes h0.2 h0.1 hxs.1 hc1

set_option maxRecDepth 20000 in
theorem c_toDoneS (vxs : Value) (xs : List Done) (w : World) (hxs : RdS w vxs xs) (hb : xs.length ≤ 1048576) : Ct Try.prog 26 [vxs] w (fun v w' => Own w' w.heap.size w'.heap.size 2 v (List.flatMap (Enc.enc (α := Done)) xs)) := by
  refine ct_of Try.func26 rfl Try.ntmps26 rfl ?_
  refine S_sub [(0, vxs)] ⟨rfl, trivial⟩ ?_
  have E : Ext w w := Ext.refl w
  refine S_seq ?_
  refine S_reg [true] rfl rfl ?_
  refine J_st (R_assign rfl) rfl (J_done ?_)
  refine S_seq ?_
  refine S_reg [true, true, false, true] rfl rfl ?_
  refine J_st (R_move rfl) rfl (J_st (R_len Try.underlying29 rfl (hxs.ext E).len) rfl ?_)
  refine J_make (m := xs.length) sl41 rfl rfl (by omega) (by decide) rfl (fun b1 w1 e1 s1 h1 => ?_)
  have g_b1 : w.heap.size ≤ b1 := by have := E.size; omega
  have y_b1 := h1.lt
  replace E := E.trans e1
  have z1 := e1.size
  refine J_st (R_assign rfl) rfl (J_done ?_)
  refine S_seq ?_
  refine S_seq ?_
  refine S_reg [true] rfl rfl ?_
  refine J_st (R_assign rfl) rfl (J_done ?_)
  refine S_block ?_
  refine S_loop (fun (k : Nat) => [(0, vxs), (2, .slice none 0 0), (3, .slice (some ⟨b1, 0, none⟩) xs.length xs.length), (4, .int .i64 ((k : Nat) : Int))]) (fun (k : Nat) w' => Ext w w' ∧ w1.heap.size ≤ w'.heap.size ∧ k ≤ xs.length ∧ Blk w' b1 (mk xs [.int .i64 0, .bool false] k xs.length)) (fun (k : Nat) => xs.length - k) 0 ⟨rfl, rfl, rfl, rfl, trivial⟩ ⟨E, Nat.le_refl _, Nat.zero_le _, (mk_zero xs [.int .i64 0, .bool false] xs.length) ▸ h1⟩ ?_
  clear E h1
  rintro k w2 ⟨E, z2, hk, h1⟩
  refine S_seq ?_
  refine S_seq ?_
  refine S_reg [true, true, true, true] rfl rfl ?_
  refine J_st (R_move rfl) rfl (J_st (R_move rfl) rfl (J_st (R_len Try.underlying29 rfl (hxs.ext E).len) rfl (J_st (R_lss rfl rfl) rfl (J_done ?_))))
  refine S_cond rfl (fun hc1 => ?_) (fun hc1 => ?_)
  · have hc1n : k < xs.length := by first | (have h := of_decide_eq_true hc1; omega) | (have h := hc1; simp at h; omega)
    refine S_skip ?_
    refine S_seq ?_
    refine S_block ?_
    refine S_reg [true, true, true, true, true, true, false, true, false] rfl rfl ?_
    refine J_st (R_move rfl) rfl (J_st (R_move rfl) rfl (J_st (R_move rfl) rfl (J_st (R_move rfl) rfl ?_)))
    have hi1 : k < xs.length := (by first | assumption | omega)
    refine J_st (R_index (i := k) sl29 rfl rfl (hxs.ext E) hi1) rfl (J_st (R_loadS st92 rfl ((hxs.ext E).get hi1) rfl) rfl ?_)
    refine J_call Try.call43 rfl (c_toDone (xs[k]'hi1) _ ) rfl (fun _ w3 e2 hv => ?_)
    subst hv
    replace E := E.trans e2; replace h1 := h1.ext e2
    have z3 := e2.size
    refine J_st (R_indexB sl41 rfl rfl (by first | assumption | omega)) rfl ?_
    refine J_storeS' (cs' := mk xs [.int .i64 0, .bool false] (k + 1) xs.length) st62 rfl rfl rfl rfl h1 (mk_room xs [.int .i64 0, .bool false] rfl hc1n hc1n (by rfl)) (mk_step xs [.int .i64 0, .bool false] rfl hc1n hc1n) (fun w4 m1 h1' => ?_)
    replace h1 := h1'
    replace E := E.step m1 (fun g hg => by cases hg; omega)
    have z4 := m1.size
    refine J_done ?_
    refine S_nil (E_inB ?_)
    refine S_reg [true, true, true] rfl rfl ?_
    refine J_st (R_move rfl) rfl (J_st (R_add rfl rfl (add_one hc1n hxs.1)) rfl (J_st (R_assign rfl) rfl (J_done ?_)))
    refine S_nil (E_again (k + 1) (by omega) ⟨rfl, rfl, rfl, rfl, trivial⟩ ⟨E, (by omega), (by omega), h1⟩)
  · have hc1n : ¬ k < xs.length := by first | (have h := of_decide_eq_false hc1; omega) | (have h := hc1; simp at h; omega)
    refine S_exit (E_lp_exit (E_inB_exit ?_))
    refine S_seq ?_
    refine S_reg [true, true] rfl rfl ?_
    refine J_st (R_move rfl) rfl (J_st (R_assign rfl) rfl (J_done ?_))
    refine S_ret (E_done1 rfl rfl E ?_)
    obtain rfl : k = xs.length := by omega
    rw [mk_all] at h1
    exact Own.ofBlk h1 (by omega) (by have := h1.lt; omega) (sum_flat xs) hxs.1

set_option maxRecDepth 20000 in
theorem c_eqDoneS (vxs : Value) (xs : List Done) (vys : Value) (ys : List Done) (w : World) (hxs : RdS w vxs xs) (hys : RdS w vys ys) : Ct Try.prog 36 [vxs, vys] w (fun v _ => v = .bool (decide (xs = ys))) := by
  refine ct_of Try.func36 rfl Try.ntmps36 rfl ?_
  refine S_sub [(0, vxs), (1, vys)] ⟨rfl, rfl, trivial⟩ ?_
  have E : Ext w w := Ext.refl w
  refine S_seq ?_
  refine S_reg [true] rfl rfl ?_
  refine J_st (R_assign rfl) rfl (J_done ?_)
  refine S_seq ?_
  refine S_seq ?_
  refine S_reg [true, true, true, true, true] rfl rfl ?_
  refine J_st (R_move rfl) rfl (J_st (R_len Try.underlying41 rfl (hxs.ext E).len) rfl (J_st (R_move rfl) rfl (J_st (R_len Try.underlying41 rfl (hys.ext E).len) rfl (J_st (R_neq rfl rfl) rfl (J_done ?_)))))
  refine S_cond rfl (fun hc1 => ?_) (fun hc1 => ?_)
  · have hc1n : ¬ xs.length = ys.length := by first | (have h := of_decide_eq_true hc1; omega) | (have h := hc1; simp at h; omega)
    refine S_seq ?_
    refine S_reg [true] rfl rfl ?_
    refine J_st (R_assign rfl) rfl (J_done ?_)
    refine S_ret (E_done1 rfl rfl E ?_)
    simp [eq_len hc1n]
  · have hc1n : xs.length = ys.length := by first | (have h := of_decide_eq_false hc1; omega) | (have h := hc1; simp at h; omega)
    refine S_skip ?_
    refine S_seq ?_
    refine S_seq ?_
    refine S_reg [true] rfl rfl ?_
    refine J_st (R_assign rfl) rfl (J_done ?_)
    refine S_block ?_
    refine S_loop (fun (k : Nat) => [(0, vxs), (1, vys), (4, .bool false), (5, .int .i64 ((k : Nat) : Int))]) (fun (k : Nat) w' => Ext w w' ∧ w.heap.size ≤ w'.heap.size ∧ k ≤ xs.length ∧ xs.take k = ys.take k) (fun (k : Nat) => xs.length - k) 0 ⟨rfl, rfl, rfl, rfl, trivial⟩ ⟨E, Nat.le_refl _, Nat.zero_le _, rfl⟩ ?_
    clear E
    rintro k w1 ⟨E, z1, hk, hp⟩
    refine S_seq ?_
    refine S_seq ?_
    refine S_reg [true, true, true, true] rfl rfl ?_
    refine J_st (R_move rfl) rfl (J_st (R_move rfl) rfl (J_st (R_len Try.underlying41 rfl (hxs.ext E).len) rfl (J_st (R_lss rfl rfl) rfl (J_done ?_))))
    refine S_cond rfl (fun hc2 => ?_) (fun hc2 => ?_)
    · have hc2n : k < xs.length := by first | (have h := of_decide_eq_true hc2; omega) | (have h := hc2; simp at h; omega)
      refine S_skip ?_
      refine S_seq ?_
      refine S_block ?_
      refine S_seq ?_
      refine S_regD mixed [(0, true), (1, true), (2, true), (3, true), (4, true), (5, true), (6, true), (7, true), (8, false), (9, true)] (by decide +kernel) rfl (fun w2 e1 => ?_)
      replace E := E.trans e1
      have z2 := e1.size
      refine J_st (R_move rfl) rfl (J_st (R_move rfl) rfl ?_)
      have hi1 : k < xs.length := (by first | assumption | omega)
      refine J_st (R_index (i := k) sl41 rfl rfl (hxs.ext E) hi1) rfl (J_st (R_loadS st62 rfl ((hxs.ext E).get hi1) rfl) rfl (J_st (R_move rfl) rfl (J_st (R_move rfl) rfl ?_)))
      have hi2 : k < ys.length := (by first | assumption | omega)
      refine J_st (R_index (i := k) sl41 rfl rfl (hys.ext E) hi2) rfl (J_st (R_loadS st62 rfl ((hys.ext E).get hi2) rfl) rfl ?_)
      refine J_call Try.call52 rfl (c_eqDone (xs[k]'hi1) (ys[k]'hi2) _ ) rfl (fun _ w3 e2 hv => ?_)
      subst hv
      replace E := E.trans e2
      have z3 := e2.size
      refine J_st (R_not rfl) rfl (J_done ?_)
      refine S_cond rfl (fun hc3 => ?_) (fun hc3 => ?_)
      · refine S_seq ?_
        refine S_reg [true] rfl rfl ?_
        refine J_st (R_assign rfl) rfl (J_done ?_)
        refine S_ret (E_inB_ret (E_lp_ret (E_inB_ret (E_done1 rfl rfl E ?_))))
        exact eqS_no (by omega) (by omega) (by simpa using hc3)
      · refine S_skip ?_
        refine S_nil (E_inB ?_)
        refine S_reg [true, true, true] rfl rfl ?_
        refine J_st (R_move rfl) rfl (J_st (R_add rfl rfl (add_one hc2n hxs.1)) rfl (J_st (R_assign rfl) rfl (J_done ?_)))
        refine S_nil (E_again (k + 1) (by omega) ⟨rfl, rfl, rfl, rfl, trivial⟩ ⟨E, (by omega), (by omega), eqS_step hp (by assumption) (by omega) (by simpa using hc3)⟩)
    · have hc2n : ¬ k < xs.length := by first | (have h := of_decide_eq_false hc2; omega) | (have h := hc2; simp at h; omega)
      refine S_exit (E_lp_exit (E_inB_exit ?_))
      refine S_seq ?_
      refine S_reg [true] rfl rfl ?_
      refine J_st (R_assign rfl) rfl (J_done ?_)
      refine S_ret (E_done1 rfl rfl E ?_)
      exact eqS_yes hp hc1n (by omega)

set_option maxHeartbeats 4000000 in
set_option maxRecDepth 20000 in
theorem c_szWorker (cx : List Value) (x : Worker) (n : Int) (w : World) (hx : Dat.R w 0 w.heap.size cx x) (h0 : 0 ≤ n ∧ n ≤ 1048576) : Ct Try.prog 5 [.agg cx.toArray, .int .i64 n] w (fun v _ => v = .int .i64 (szM (cntWorker x) n)) := by
  refine ct_of Try.func5 rfl Try.ntmps5 rfl ?_
  obtain ⟨o1, o2, o3, o4, o5, o6, o7, o8, rfl, hd1, hd2, hd3, hd4, hd5, hd6, hd7, hd8⟩ := Worker.op hx
  refine S_sub [(0, .agg [o1, o2, o3, o4, o5, o6, o7, o8].toArray), (1, .int .i64 n)] ⟨rfl, rfl, trivial⟩ ?_
  have E : Ext w w := Ext.refl w
  refine S_seq ?_
  refine S_reg [false, true] rfl rfl ?_
  refine J_box rfl rfl (fun b1 w1 e1 s1 h1 => ?_)
  have g_b1 : w.heap.size ≤ b1 := by have := E.size; omega
  have y_b1 := h1.lt
  replace E := E.trans e1
  have z1 := e1.size
  refine J_st (R_assign rfl) rfl (J_done ?_)
  refine S_seq ?_
  refine S_reg [true, true, true, false, true] rfl rfl ?_
  refine J_st (R_fieldAddr0 fl31_0 rfl) rfl (J_st (R_load sc25 rfl (h1.one 0 rfl)) rfl (J_st (R_move rfl) rfl ?_))
  refine J_call Try.call13 rfl (c_szRecordS o1 x.queue n _ (hd1.rd.ext E) (by first | omega | (simp only [mkL_length]; omega) | (rw [mkL_length]))) rfl (fun _ w2 e2 hv => ?_)
  subst hv
  replace E := E.trans e2; replace h1 := h1.ext e2
  have z2 := e2.size
  refine J_st (R_assign rfl) rfl (J_done ?_)
  refine S_seq ?_
  refine S_seq ?_
  refine S_reg [true, true] rfl rfl ?_
  refine J_st (R_move rfl) rfl (J_st (R_lss rfl rfl) rfl (J_done ?_))
  refine S_cond rfl (fun hc1 => ?_) (fun hc1 => ?_)
  · have q1 := szM_no hc1 (by omega)
    refine S_seq ?_
    refine S_reg [true] rfl rfl ?_
    refine J_st (R_assign rfl) rfl (J_done ?_)
    refine S_ret (E_done1 rfl rfl E ?_)
    first | exact sz_neg (by unfold cntWorker; omega) | exact sz_fin (by unfold cntWorker; omega) (by unfold cntWorker; omega)
  · have q2 := szM_ok hc1 (by omega)
    refine S_skip ?_
    refine S_seq ?_
    refine S_reg [true, true, true, false, true] rfl rfl ?_
    refine J_st (R_fieldAddr0 fl31_1 rfl) rfl (J_st (R_load sc25 rfl (h1.one 1 rfl)) rfl (J_st (R_move rfl) rfl ?_))
    refine J_call Try.call13 rfl (c_szRecordS o2 x.staged (szM x.queue.length n) _ (hd2.rd.ext E) (by first | omega | (simp only [mkL_length]; omega) | (rw [mkL_length]))) rfl (fun _ w3 e3 hv => ?_)
    subst hv
    replace E := E.trans e3; replace h1 := h1.ext e3
    have z3 := e3.size
    refine J_st (R_assign rfl) rfl (J_done ?_)
    refine S_seq ?_
    refine S_seq ?_
    refine S_reg [true, true] rfl rfl ?_
    refine J_st (R_move rfl) rfl (J_st (R_lss rfl rfl) rfl (J_done ?_))
    refine S_cond rfl (fun hc2 => ?_) (fun hc2 => ?_)
    · have q3 := szM_no hc2 (by omega)
      refine S_seq ?_
      refine S_reg [true] rfl rfl ?_
      refine J_st (R_assign rfl) rfl (J_done ?_)
      refine S_ret (E_done1 rfl rfl E ?_)
      first | exact sz_neg (by unfold cntWorker; omega) | exact sz_fin (by unfold cntWorker; omega) (by unfold cntWorker; omega)
    · have q4 := szM_ok hc2 (by omega)
      refine S_skip ?_
      refine S_seq ?_
      refine S_reg [true, true, true, false, true] rfl rfl ?_
      refine J_st (R_fieldAddr0 fl31_2 rfl) rfl (J_st (R_load sc25 rfl (h1.one 2 rfl)) rfl (J_st (R_move rfl) rfl ?_))
      refine J_call Try.call13 rfl (c_szRecordS o3 x.inputs (szM x.staged.length (szM x.queue.length n)) _ (hd3.rd.ext E) (by first | omega | (simp only [mkL_length]; omega) | (rw [mkL_length]))) rfl (fun _ w4 e4 hv => ?_)
      subst hv
      replace E := E.trans e4; replace h1 := h1.ext e4
      have z4 := e4.size
      refine J_st (R_assign rfl) rfl (J_done ?_)
      refine S_seq ?_
      refine S_seq ?_
      refine S_reg [true, true] rfl rfl ?_
      refine J_st (R_move rfl) rfl (J_st (R_lss rfl rfl) rfl (J_done ?_))
      refine S_cond rfl (fun hc3 => ?_) (fun hc3 => ?_)
      · have q5 := szM_no hc3 (by omega)
        refine S_seq ?_
        refine S_reg [true] rfl rfl ?_
        refine J_st (R_assign rfl) rfl (J_done ?_)
        refine S_ret (E_done1 rfl rfl E ?_)
        first | exact sz_neg (by unfold cntWorker; omega) | exact sz_fin (by unfold cntWorker; omega) (by unfold cntWorker; omega)
      · have q6 := szM_ok hc3 (by omega)
        refine S_skip ?_
        refine S_seq ?_
        refine S_reg [true, true, true, false, true] rfl rfl ?_
        refine J_st (R_fieldAddr0 fl31_3 rfl) rfl (J_st (R_load sc26 rfl (h1.one 3 rfl)) rfl (J_st (R_move rfl) rfl ?_))
        refine J_call Try.call14 rfl (c_szCellS o4 x.cells (szM x.inputs.length (szM x.staged.length (szM x.queue.length n))) _ (hd4.rd.ext E) (by first | omega | (simp only [mkL_length]; omega) | (rw [mkL_length]))) rfl (fun _ w5 e5 hv => ?_)
        subst hv
        replace E := E.trans e5; replace h1 := h1.ext e5
        have z5 := e5.size
        refine J_st (R_assign rfl) rfl (J_done ?_)
        refine S_seq ?_
        refine S_seq ?_
        refine S_reg [true, true] rfl rfl ?_
        refine J_st (R_move rfl) rfl (J_st (R_lss rfl rfl) rfl (J_done ?_))
        refine S_cond rfl (fun hc4 => ?_) (fun hc4 => ?_)
        · have q7 := szM_no hc4 (by omega)
          refine S_seq ?_
          refine S_reg [true] rfl rfl ?_
          refine J_st (R_assign rfl) rfl (J_done ?_)
          refine S_ret (E_done1 rfl rfl E ?_)
          first | exact sz_neg (by unfold cntWorker; omega) | exact sz_fin (by unfold cntWorker; omega) (by unfold cntWorker; omega)
        · have q8 := szM_ok hc4 (by omega)
          refine S_skip ?_
          refine S_seq ?_
          refine S_reg [true, true, true, false, true] rfl rfl ?_
          refine J_st (R_fieldAddr0 fl31_4 rfl) rfl (J_st (R_load sc27 rfl (h1.one 4 rfl)) rfl (J_st (R_move rfl) rfl ?_))
          refine J_call Try.call15 rfl (c_szIntS o5 x.sums (szM x.cells.length (szM x.inputs.length (szM x.staged.length (szM x.queue.length n)))) _ (hd5.rd.ext E) (by first | omega | (simp only [mkL_length]; omega) | (rw [mkL_length]))) rfl (fun _ w6 e6 hv => ?_)
          subst hv
          replace E := E.trans e6; replace h1 := h1.ext e6
          have z6 := e6.size
          refine J_st (R_assign rfl) rfl (J_done ?_)
          refine S_seq ?_
          refine S_seq ?_
          refine S_reg [true, true] rfl rfl ?_
          refine J_st (R_move rfl) rfl (J_st (R_lss rfl rfl) rfl (J_done ?_))
          refine S_cond rfl (fun hc5 => ?_) (fun hc5 => ?_)
          · have q9 := szM_no hc5 (by omega)
            refine S_seq ?_
            refine S_reg [true] rfl rfl ?_
            refine J_st (R_assign rfl) rfl (J_done ?_)
            refine S_ret (E_done1 rfl rfl E ?_)
            first | exact sz_neg (by unfold cntWorker; omega) | exact sz_fin (by unfold cntWorker; omega) (by unfold cntWorker; omega)
          · have q10 := szM_ok hc5 (by omega)
            refine S_skip ?_
            refine S_seq ?_
            refine S_reg [true, true, true, false, true] rfl rfl ?_
            refine J_st (R_fieldAddr0 fl31_5 rfl) rfl (J_st (R_load sc28 rfl (h1.one 5 rfl)) rfl (J_st (R_move rfl) rfl ?_))
            refine J_call Try.call16 rfl (c_szBoolS o6 x.black (szM x.sums.length (szM x.cells.length (szM x.inputs.length (szM x.staged.length (szM x.queue.length n))))) _ (hd6.rd.ext E) (by first | omega | (simp only [mkL_length]; omega) | (rw [mkL_length]))) rfl (fun _ w7 e7 hv => ?_)
            subst hv
            replace E := E.trans e7; replace h1 := h1.ext e7
            have z7 := e7.size
            refine J_st (R_assign rfl) rfl (J_done ?_)
            refine S_seq ?_
            refine S_seq ?_
            refine S_reg [true, true] rfl rfl ?_
            refine J_st (R_move rfl) rfl (J_st (R_lss rfl rfl) rfl (J_done ?_))
            refine S_cond rfl (fun hc6 => ?_) (fun hc6 => ?_)
            · have q11 := szM_no hc6 (by omega)
              refine S_seq ?_
              refine S_reg [true] rfl rfl ?_
              refine J_st (R_assign rfl) rfl (J_done ?_)
              refine S_ret (E_done1 rfl rfl E ?_)
              first | exact sz_neg (by unfold cntWorker; omega) | exact sz_fin (by unfold cntWorker; omega) (by unfold cntWorker; omega)
            · have q12 := szM_ok hc6 (by omega)
              refine S_skip ?_
              refine S_seq ?_
              refine S_reg [true, true, true, false, true] rfl rfl ?_
              refine J_st (R_fieldAddr0 fl31_6 rfl) rfl (J_st (R_load sc28 rfl (h1.one 6 rfl)) rfl (J_st (R_move rfl) rfl ?_))
              refine J_call Try.call16 rfl (c_szBoolS o7 x.caps (szM x.black.length (szM x.sums.length (szM x.cells.length (szM x.inputs.length (szM x.staged.length (szM x.queue.length n)))))) _ (hd7.rd.ext E) (by first | omega | (simp only [mkL_length]; omega) | (rw [mkL_length]))) rfl (fun _ w8 e8 hv => ?_)
              subst hv
              replace E := E.trans e8; replace h1 := h1.ext e8
              have z8 := e8.size
              refine J_st (R_assign rfl) rfl (J_done ?_)
              refine S_seq ?_
              refine S_seq ?_
              refine S_reg [true, true] rfl rfl ?_
              refine J_st (R_move rfl) rfl (J_st (R_lss rfl rfl) rfl (J_done ?_))
              refine S_cond rfl (fun hc7 => ?_) (fun hc7 => ?_)
              · have q13 := szM_no hc7 (by omega)
                refine S_seq ?_
                refine S_reg [true] rfl rfl ?_
                refine J_st (R_assign rfl) rfl (J_done ?_)
                refine S_ret (E_done1 rfl rfl E ?_)
                first | exact sz_neg (by unfold cntWorker; omega) | exact sz_fin (by unfold cntWorker; omega) (by unfold cntWorker; omega)
              · have q14 := szM_ok hc7 (by omega)
                refine S_skip ?_
                refine S_seq ?_
                refine S_reg [true, true, true, false, true] rfl rfl ?_
                refine J_st (R_fieldAddr0 fl31_7 rfl) rfl (J_st (R_load sc29 rfl (h1.one 7 rfl)) rfl (J_st (R_move rfl) rfl ?_))
                refine J_call Try.call17 rfl (c_szDoneS o8 x.dones (szM x.caps.length (szM x.black.length (szM x.sums.length (szM x.cells.length (szM x.inputs.length (szM x.staged.length (szM x.queue.length n))))))) _ (hd8.rd.ext E) (by first | omega | (simp only [mkL_length]; omega) | (rw [mkL_length]))) rfl (fun _ w9 e9 hv => ?_)
                subst hv
                replace E := E.trans e9; replace h1 := h1.ext e9
                have z9 := e9.size
                refine J_st (R_assign rfl) rfl (J_done ?_)
                refine S_seq ?_
                refine S_seq ?_
                refine S_reg [true, true] rfl rfl ?_
                refine J_st (R_move rfl) rfl (J_st (R_lss rfl rfl) rfl (J_done ?_))
                refine S_cond rfl (fun hc8 => ?_) (fun hc8 => ?_)
                · have q15 := szM_no hc8 (by omega)
                  refine S_seq ?_
                  refine S_reg [true] rfl rfl ?_
                  refine J_st (R_assign rfl) rfl (J_done ?_)
                  refine S_ret (E_done1 rfl rfl E ?_)
                  first | exact sz_neg (by unfold cntWorker; omega) | exact sz_fin (by unfold cntWorker; omega) (by unfold cntWorker; omega)
                · have q16 := szM_ok hc8 (by omega)
                  refine S_skip ?_
                  refine S_seq ?_
                  refine S_reg [true, true] rfl rfl ?_
                  refine J_st (R_move rfl) rfl (J_st (R_assign rfl) rfl (J_done ?_))
                  refine S_ret (E_done1 rfl rfl E ?_)
                  first | exact sz_neg (by unfold cntWorker; omega) | exact sz_fin (by unfold cntWorker; omega) (by unfold cntWorker; omega)

set_option maxHeartbeats 4000000 in
set_option maxRecDepth 20000 in
theorem c_toWorker (cx : List Value) (x : Worker) (w : World) (hx : Dat.R w 0 w.heap.size cx x) (hb : cntWorker x ≤ 1048576) : Ct Try.prog 8 [.agg cx.toArray] w (fun v w' => ∃ cs, v = .agg cs.toArray ∧ Own1.O w' w.heap.size w'.heap.size cs x) := by
  unfold cntWorker at hb
  refine ct_of Try.func8 rfl Try.ntmps8 rfl ?_
  obtain ⟨o1, o2, o3, o4, o5, o6, o7, o8, rfl, hd1, hd2, hd3, hd4, hd5, hd6, hd7, hd8⟩ := Worker.op hx
  refine S_sub [(0, .agg [o1, o2, o3, o4, o5, o6, o7, o8].toArray)] ⟨rfl, trivial⟩ ?_
  have E : Ext w w := Ext.refl w
  refine S_seq ?_
  refine S_reg [false, false] rfl rfl ?_
  refine J_box rfl rfl (fun b1 w1 e1 s1 h1 => ?_)
  have g_b1 : w.heap.size ≤ b1 := by have := E.size; omega
  have y_b1 := h1.lt
  replace E := E.trans e1
  have z1 := e1.size
  refine J_alloc st43 rfl (fun b2 w2 e2 s2 h2 => ?_)
  have g_b2 : w.heap.size ≤ b2 := by have := E.size; omega
  have y_b2 := h2.lt
  replace E := E.trans e2; replace h1 := h1.ext e2
  have z2 := e2.size
  refine J_done ?_
  refine S_seq ?_
  refine S_reg [false] rfl rfl ?_
  refine J_alloc st43 rfl (fun b3 w3 e3 s3 h3 => ?_)
  have g_b3 : w.heap.size ≤ b3 := by have := E.size; omega
  have y_b3 := h3.lt
  replace E := E.trans e3; replace h1 := h1.ext e3; replace h2 := h2.ext e3
  have z3 := e3.size
  refine J_done ?_
  refine S_seq ?_
  refine S_reg [true, true, false, true, false] rfl rfl ?_
  refine J_st (R_fieldAddr0 fl31_0 rfl) rfl (J_st (R_load sc25 rfl (h1.one 0 rfl)) rfl ?_)
  refine J_call Try.call22 rfl (c_toRecordS o1 x.queue _ (hd1.rd.ext E) (by first | omega | (simp only [mkL_length]; omega) | (rw [mkL_length]))) rfl (fun v1 w4 e4 ho1 => ?_)
  have g_ho1 : w.heap.size ≤ w3.heap.size := E.size
  replace E := E.trans e4; replace h1 := h1.ext e4; replace h2 := h2.ext e4; replace h3 := h3.ext e4
  have z4 := e4.size
  refine J_st (R_fieldAddr0 fl43_0 rfl) rfl ?_
  refine J_store' (cs' := [v1, .slice none 0 0, .slice none 0 0, .slice none 0 0, .slice none 0 0, .slice none 0 0, .slice none 0 0, .slice none 0 0]) sc39 rfl rfl ho1.one h3 (Nat.le_of_ble_eq_true rfl) rfl (fun w5 m1 h3' => ?_)
  replace h3 := h3'
  replace E := E.step m1 (fun g hg => by cases hg; omega); replace h1 := h1.mod m1 (fun g hg => by cases hg; omega); replace h2 := h2.mod m1 (fun g hg => by cases hg; omega); replace ho1 := ho1.mod m1 (fun g hg => by cases hg; omega)
  have z5 := m1.size
  refine J_done ?_
  refine S_seq ?_
  refine S_reg [true, true, false, true, false] rfl rfl ?_
  refine J_st (R_fieldAddr0 fl31_1 rfl) rfl (J_st (R_load sc25 rfl (h1.one 1 rfl)) rfl ?_)
  refine J_call Try.call22 rfl (c_toRecordS o2 x.staged _ (hd2.rd.ext E) (by first | omega | (simp only [mkL_length]; omega) | (rw [mkL_length]))) rfl (fun v2 w6 e5 ho2 => ?_)
  have g_ho2 : w.heap.size ≤ w5.heap.size := E.size
  replace E := E.trans e5; replace h1 := h1.ext e5; replace h2 := h2.ext e5; replace h3 := h3.ext e5; replace ho1 := ho1.ext e5
  have z6 := e5.size
  refine J_st (R_fieldAddr0 fl43_1 rfl) rfl ?_
  refine J_store' (cs' := [v1, v2, .slice none 0 0, .slice none 0 0, .slice none 0 0, .slice none 0 0, .slice none 0 0, .slice none 0 0]) sc39 rfl rfl ho2.one h3 (Nat.le_of_ble_eq_true rfl) rfl (fun w7 m2 h3' => ?_)
  replace h3 := h3'
  replace E := E.step m2 (fun g hg => by cases hg; omega); replace h1 := h1.mod m2 (fun g hg => by cases hg; omega); replace h2 := h2.mod m2 (fun g hg => by cases hg; omega); replace ho1 := ho1.mod m2 (fun g hg => by cases hg; omega); replace ho2 := ho2.mod m2 (fun g hg => by cases hg; omega)
  have z7 := m2.size
  refine J_done ?_
  refine S_seq ?_
  refine S_reg [true, true, false, true, false] rfl rfl ?_
  refine J_st (R_fieldAddr0 fl31_2 rfl) rfl (J_st (R_load sc25 rfl (h1.one 2 rfl)) rfl ?_)
  refine J_call Try.call22 rfl (c_toRecordS o3 x.inputs _ (hd3.rd.ext E) (by first | omega | (simp only [mkL_length]; omega) | (rw [mkL_length]))) rfl (fun v3 w8 e6 ho3 => ?_)
  have g_ho3 : w.heap.size ≤ w7.heap.size := E.size
  replace E := E.trans e6; replace h1 := h1.ext e6; replace h2 := h2.ext e6; replace h3 := h3.ext e6; replace ho1 := ho1.ext e6; replace ho2 := ho2.ext e6
  have z8 := e6.size
  refine J_st (R_fieldAddr0 fl43_2 rfl) rfl ?_
  refine J_store' (cs' := [v1, v2, v3, .slice none 0 0, .slice none 0 0, .slice none 0 0, .slice none 0 0, .slice none 0 0]) sc39 rfl rfl ho3.one h3 (Nat.le_of_ble_eq_true rfl) rfl (fun w9 m3 h3' => ?_)
  replace h3 := h3'
  replace E := E.step m3 (fun g hg => by cases hg; omega); replace h1 := h1.mod m3 (fun g hg => by cases hg; omega); replace h2 := h2.mod m3 (fun g hg => by cases hg; omega); replace ho1 := ho1.mod m3 (fun g hg => by cases hg; omega); replace ho2 := ho2.mod m3 (fun g hg => by cases hg; omega); replace ho3 := ho3.mod m3 (fun g hg => by cases hg; omega)
  have z9 := m3.size
  refine J_done ?_
  refine S_seq ?_
  refine S_reg [true, true, false, true, false] rfl rfl ?_
  refine J_st (R_fieldAddr0 fl31_3 rfl) rfl (J_st (R_load sc26 rfl (h1.one 3 rfl)) rfl ?_)
  refine J_call Try.call23 rfl (c_toCellS o4 x.cells _ (hd4.rd.ext E) (by first | omega | (simp only [mkL_length]; omega) | (rw [mkL_length]))) rfl (fun v4 w10 e7 ho4 => ?_)
  have g_ho4 : w.heap.size ≤ w9.heap.size := E.size
  replace E := E.trans e7; replace h1 := h1.ext e7; replace h2 := h2.ext e7; replace h3 := h3.ext e7; replace ho1 := ho1.ext e7; replace ho2 := ho2.ext e7; replace ho3 := ho3.ext e7
  have z10 := e7.size
  refine J_st (R_fieldAddr0 fl43_3 rfl) rfl ?_
  refine J_store' (cs' := [v1, v2, v3, v4, .slice none 0 0, .slice none 0 0, .slice none 0 0, .slice none 0 0]) sc40 rfl rfl ho4.one h3 (Nat.le_of_ble_eq_true rfl) rfl (fun w11 m4 h3' => ?_)
  replace h3 := h3'
  replace E := E.step m4 (fun g hg => by cases hg; omega); replace h1 := h1.mod m4 (fun g hg => by cases hg; omega); replace h2 := h2.mod m4 (fun g hg => by cases hg; omega); replace ho1 := ho1.mod m4 (fun g hg => by cases hg; omega); replace ho2 := ho2.mod m4 (fun g hg => by cases hg; omega); replace ho3 := ho3.mod m4 (fun g hg => by cases hg; omega); replace ho4 := ho4.mod m4 (fun g hg => by cases hg; omega)
  have z11 := m4.size
  refine J_done ?_
  refine S_seq ?_
  refine S_reg [true, true, false, true, false] rfl rfl ?_
  refine J_st (R_fieldAddr0 fl31_4 rfl) rfl (J_st (R_load sc27 rfl (h1.one 4 rfl)) rfl ?_)
  refine J_call Try.call24 rfl (c_toIntS o5 x.sums _ (hd5.rd.ext E) (by first | omega | (simp only [mkL_length]; omega) | (rw [mkL_length]))) rfl (fun v5 w12 e8 ho5 => ?_)
  have g_ho5 : w.heap.size ≤ w11.heap.size := E.size
  replace E := E.trans e8; replace h1 := h1.ext e8; replace h2 := h2.ext e8; replace h3 := h3.ext e8; replace ho1 := ho1.ext e8; replace ho2 := ho2.ext e8; replace ho3 := ho3.ext e8; replace ho4 := ho4.ext e8
  have z12 := e8.size
  refine J_st (R_fieldAddr0 fl43_4 rfl) rfl ?_
  refine J_store' (cs' := [v1, v2, v3, v4, v5, .slice none 0 0, .slice none 0 0, .slice none 0 0]) sc27 rfl rfl ho5.one h3 (Nat.le_of_ble_eq_true rfl) rfl (fun w13 m5 h3' => ?_)
  replace h3 := h3'
  replace E := E.step m5 (fun g hg => by cases hg; omega); replace h1 := h1.mod m5 (fun g hg => by cases hg; omega); replace h2 := h2.mod m5 (fun g hg => by cases hg; omega); replace ho1 := ho1.mod m5 (fun g hg => by cases hg; omega); replace ho2 := ho2.mod m5 (fun g hg => by cases hg; omega); replace ho3 := ho3.mod m5 (fun g hg => by cases hg; omega); replace ho4 := ho4.mod m5 (fun g hg => by cases hg; omega); replace ho5 := ho5.mod m5 (fun g hg => by cases hg; omega)
  have z13 := m5.size
  refine J_done ?_
  refine S_seq ?_
  refine S_reg [true, true, false, true, false] rfl rfl ?_
  refine J_st (R_fieldAddr0 fl31_5 rfl) rfl (J_st (R_load sc28 rfl (h1.one 5 rfl)) rfl ?_)
  refine J_call Try.call25 rfl (c_toBoolS o6 x.black _ (hd6.rd.ext E) (by first | omega | (simp only [mkL_length]; omega) | (rw [mkL_length]))) rfl (fun v6 w14 e9 ho6 => ?_)
  have g_ho6 : w.heap.size ≤ w13.heap.size := E.size
  replace E := E.trans e9; replace h1 := h1.ext e9; replace h2 := h2.ext e9; replace h3 := h3.ext e9; replace ho1 := ho1.ext e9; replace ho2 := ho2.ext e9; replace ho3 := ho3.ext e9; replace ho4 := ho4.ext e9; replace ho5 := ho5.ext e9
  have z14 := e9.size
  refine J_st (R_fieldAddr0 fl43_5 rfl) rfl ?_
  refine J_store' (cs' := [v1, v2, v3, v4, v5, v6, .slice none 0 0, .slice none 0 0]) sc28 rfl rfl ho6.one h3 (Nat.le_of_ble_eq_true rfl) rfl (fun w15 m6 h3' => ?_)
  replace h3 := h3'
  replace E := E.step m6 (fun g hg => by cases hg; omega); replace h1 := h1.mod m6 (fun g hg => by cases hg; omega); replace h2 := h2.mod m6 (fun g hg => by cases hg; omega); replace ho1 := ho1.mod m6 (fun g hg => by cases hg; omega); replace ho2 := ho2.mod m6 (fun g hg => by cases hg; omega); replace ho3 := ho3.mod m6 (fun g hg => by cases hg; omega); replace ho4 := ho4.mod m6 (fun g hg => by cases hg; omega); replace ho5 := ho5.mod m6 (fun g hg => by cases hg; omega); replace ho6 := ho6.mod m6 (fun g hg => by cases hg; omega)
  have z15 := m6.size
  refine J_done ?_
  refine S_seq ?_
  refine S_reg [true, true, false, true, false] rfl rfl ?_
  refine J_st (R_fieldAddr0 fl31_6 rfl) rfl (J_st (R_load sc28 rfl (h1.one 6 rfl)) rfl ?_)
  refine J_call Try.call25 rfl (c_toBoolS o7 x.caps _ (hd7.rd.ext E) (by first | omega | (simp only [mkL_length]; omega) | (rw [mkL_length]))) rfl (fun v7 w16 e10 ho7 => ?_)
  have g_ho7 : w.heap.size ≤ w15.heap.size := E.size
  replace E := E.trans e10; replace h1 := h1.ext e10; replace h2 := h2.ext e10; replace h3 := h3.ext e10; replace ho1 := ho1.ext e10; replace ho2 := ho2.ext e10; replace ho3 := ho3.ext e10; replace ho4 := ho4.ext e10; replace ho5 := ho5.ext e10; replace ho6 := ho6.ext e10
  have z16 := e10.size
  refine J_st (R_fieldAddr0 fl43_6 rfl) rfl ?_
  refine J_store' (cs' := [v1, v2, v3, v4, v5, v6, v7, .slice none 0 0]) sc28 rfl rfl ho7.one h3 (Nat.le_of_ble_eq_true rfl) rfl (fun w17 m7 h3' => ?_)
  replace h3 := h3'
  replace E := E.step m7 (fun g hg => by cases hg; omega); replace h1 := h1.mod m7 (fun g hg => by cases hg; omega); replace h2 := h2.mod m7 (fun g hg => by cases hg; omega); replace ho1 := ho1.mod m7 (fun g hg => by cases hg; omega); replace ho2 := ho2.mod m7 (fun g hg => by cases hg; omega); replace ho3 := ho3.mod m7 (fun g hg => by cases hg; omega); replace ho4 := ho4.mod m7 (fun g hg => by cases hg; omega); replace ho5 := ho5.mod m7 (fun g hg => by cases hg; omega); replace ho6 := ho6.mod m7 (fun g hg => by cases hg; omega); replace ho7 := ho7.mod m7 (fun g hg => by cases hg; omega)
  have z17 := m7.size
  refine J_done ?_
  refine S_seq ?_
  refine S_reg [true, true, false, true, false] rfl rfl ?_
  refine J_st (R_fieldAddr0 fl31_7 rfl) rfl (J_st (R_load sc29 rfl (h1.one 7 rfl)) rfl ?_)
  refine J_call Try.call26 rfl (c_toDoneS o8 x.dones _ (hd8.rd.ext E) (by first | omega | (simp only [mkL_length]; omega) | (rw [mkL_length]))) rfl (fun v8 w18 e11 ho8 => ?_)
  have g_ho8 : w.heap.size ≤ w17.heap.size := E.size
  replace E := E.trans e11; replace h1 := h1.ext e11; replace h2 := h2.ext e11; replace h3 := h3.ext e11; replace ho1 := ho1.ext e11; replace ho2 := ho2.ext e11; replace ho3 := ho3.ext e11; replace ho4 := ho4.ext e11; replace ho5 := ho5.ext e11; replace ho6 := ho6.ext e11; replace ho7 := ho7.ext e11
  have z18 := e11.size
  refine J_st (R_fieldAddr0 fl43_7 rfl) rfl ?_
  refine J_store' (cs' := [v1, v2, v3, v4, v5, v6, v7, v8]) sc41 rfl rfl ho8.one h3 (Nat.le_of_ble_eq_true rfl) rfl (fun w19 m8 h3' => ?_)
  replace h3 := h3'
  replace E := E.step m8 (fun g hg => by cases hg; omega); replace h1 := h1.mod m8 (fun g hg => by cases hg; omega); replace h2 := h2.mod m8 (fun g hg => by cases hg; omega); replace ho1 := ho1.mod m8 (fun g hg => by cases hg; omega); replace ho2 := ho2.mod m8 (fun g hg => by cases hg; omega); replace ho3 := ho3.mod m8 (fun g hg => by cases hg; omega); replace ho4 := ho4.mod m8 (fun g hg => by cases hg; omega); replace ho5 := ho5.mod m8 (fun g hg => by cases hg; omega); replace ho6 := ho6.mod m8 (fun g hg => by cases hg; omega); replace ho7 := ho7.mod m8 (fun g hg => by cases hg; omega); replace ho8 := ho8.mod m8 (fun g hg => by cases hg; omega)
  have z19 := m8.size
  refine J_done ?_
  refine S_seq ?_
  refine S_reg [true, false] rfl rfl ?_
  refine J_st (R_loadS st43 rfl h3.at rfl) rfl ?_
  refine J_storeS' (cs' := [v1, v2, v3, v4, v5, v6, v7, v8]) st43 rfl rfl rfl (all_cons ho1.one (all_cons ho2.one (all_cons ho3.one (all_cons ho4.one (all_cons ho5.one (all_cons ho6.one (all_cons ho7.one (all_cons ho8.one rfl)))))))) h2 (Nat.le_of_ble_eq_true rfl) rfl (fun w20 m9 h2' => ?_)
  replace h2 := h2'
  replace E := E.step m9 (fun g hg => by cases hg; omega); replace h1 := h1.mod m9 (fun g hg => by cases hg; omega); replace h3 := h3.mod m9 (fun g hg => by cases hg; omega); replace ho1 := ho1.mod m9 (fun g hg => by cases hg; omega); replace ho2 := ho2.mod m9 (fun g hg => by cases hg; omega); replace ho3 := ho3.mod m9 (fun g hg => by cases hg; omega); replace ho4 := ho4.mod m9 (fun g hg => by cases hg; omega); replace ho5 := ho5.mod m9 (fun g hg => by cases hg; omega); replace ho6 := ho6.mod m9 (fun g hg => by cases hg; omega); replace ho7 := ho7.mod m9 (fun g hg => by cases hg; omega); replace ho8 := ho8.mod m9 (fun g hg => by cases hg; omega)
  have z20 := m9.size
  refine J_done ?_
  refine S_ret (E_doneC rfl rfl (run_loadVar_st st43 h2.at rfl) E ?_)
  exact ⟨_, rfl, Worker.mkO x ⟨⟨(Own.sep ho1 ho2 (by omega)), ⟨(Own.sep ho1 ho3 (by omega)), ⟨(Own.sep ho1 ho4 (by omega)), ⟨(Own.sep ho1 ho5 (by omega)), ⟨(Own.sep ho1 ho6 (by omega)), ⟨(Own.sep ho1 ho7 (by omega)), ⟨(Own.sep ho1 ho8 (by omega)), trivial⟩⟩⟩⟩⟩⟩⟩, ⟨⟨(Own.sep ho2 ho3 (by omega)), ⟨(Own.sep ho2 ho4 (by omega)), ⟨(Own.sep ho2 ho5 (by omega)), ⟨(Own.sep ho2 ho6 (by omega)), ⟨(Own.sep ho2 ho7 (by omega)), ⟨(Own.sep ho2 ho8 (by omega)), trivial⟩⟩⟩⟩⟩⟩, ⟨⟨(Own.sep ho3 ho4 (by omega)), ⟨(Own.sep ho3 ho5 (by omega)), ⟨(Own.sep ho3 ho6 (by omega)), ⟨(Own.sep ho3 ho7 (by omega)), ⟨(Own.sep ho3 ho8 (by omega)), trivial⟩⟩⟩⟩⟩, ⟨⟨(Own.sep ho4 ho5 (by omega)), ⟨(Own.sep ho4 ho6 (by omega)), ⟨(Own.sep ho4 ho7 (by omega)), ⟨(Own.sep ho4 ho8 (by omega)), trivial⟩⟩⟩⟩, ⟨⟨(Own.sep ho5 ho6 (by omega)), ⟨(Own.sep ho5 ho7 (by omega)), ⟨(Own.sep ho5 ho8 (by omega)), trivial⟩⟩⟩, ⟨⟨(Own.sep ho6 ho7 (by omega)), ⟨(Own.sep ho6 ho8 (by omega)), trivial⟩⟩, ⟨⟨(Own.sep ho7 ho8 (by omega)), trivial⟩, ⟨trivial, trivial⟩⟩⟩⟩⟩⟩⟩⟩ (Own.widen ho1 (by omega) (by omega)) (Own.widen ho2 (by omega) (by omega)) (Own.widen ho3 (by omega) (by omega)) (Own.widen ho4 (by omega) (by omega)) (Own.widen ho5 (by omega) (by omega)) (Own.widen ho6 (by omega) (by omega)) (Own.widen ho7 (by omega) (by omega)) (Own.widen ho8 (by omega) (by omega))⟩

set_option maxHeartbeats 4000000 in
set_option maxRecDepth 20000 in
theorem c_eqWorker (cx : List Value) (x : Worker) (cy : List Value) (y : Worker) (w : World) (hx : Dat.R w 0 w.heap.size cx x) (hy : Dat.R w 0 w.heap.size cy y) : Ct Try.prog 11 [.agg cx.toArray, .agg cy.toArray] w (fun v _ => v = .bool (decide (x = y))) := by
  refine ct_of Try.func11 rfl Try.ntmps11 rfl ?_
  obtain ⟨o1, o2, o3, o4, o5, o6, o7, o8, rfl, hd1, hd2, hd3, hd4, hd5, hd6, hd7, hd8⟩ := Worker.op hx
  obtain ⟨o9, o10, o11, o12, o13, o14, o15, o16, rfl, hd9, hd10, hd11, hd12, hd13, hd14, hd15, hd16⟩ := Worker.op hy
  refine S_sub [(0, .agg [o1, o2, o3, o4, o5, o6, o7, o8].toArray), (1, .agg [o9, o10, o11, o12, o13, o14, o15, o16].toArray)] ⟨rfl, rfl, trivial⟩ ?_
  have E : Ext w w := Ext.refl w
  refine S_seq ?_
  refine S_reg [false, false, true] rfl rfl ?_
  refine J_box rfl rfl (fun b1 w1 e1 s1 h1 => ?_)
  have g_b1 : w.heap.size ≤ b1 := by have := E.size; omega
  have y_b1 := h1.lt
  replace E := E.trans e1
  have z1 := e1.size
  refine J_box rfl rfl (fun b2 w2 e2 s2 h2 => ?_)
  have g_b2 : w.heap.size ≤ b2 := by have := E.size; omega
  have y_b2 := h2.lt
  replace E := E.trans e2; replace h1 := h1.ext e2
  have z2 := e2.size
  refine J_st (R_assign rfl) rfl (J_done ?_)
  refine S_seq ?_
  refine S_seq ?_
  refine S_reg [true, true, true, true, false, true] rfl rfl ?_
  refine J_st (R_fieldAddr0 fl43_0 rfl) rfl (J_st (R_load sc39 rfl (h1.one 0 rfl)) rfl (J_st (R_fieldAddr0 fl43_0 rfl) rfl (J_st (R_load sc39 rfl (h2.one 0 rfl)) rfl ?_)))
  refine J_call Try.call32 rfl (c_eqRecordS o1 x.queue o9 y.queue _ (hd1.rd.ext E) (hd9.rd.ext E)) rfl (fun _ w3 e3 hv => ?_)
  subst hv
  replace E := E.trans e3; replace h1 := h1.ext e3; replace h2 := h2.ext e3
  have z3 := e3.size
  refine J_st (R_not rfl) rfl (J_done ?_)
  refine S_cond rfl (fun hc1 => ?_) (fun hc1 => ?_)
  · refine S_seq ?_
    refine S_reg [true] rfl rfl ?_
    refine J_st (R_assign rfl) rfl (J_done ?_)
    refine S_ret (E_done1 rfl rfl E ?_)
    cases x; cases y; simp_all
  · refine S_skip ?_
    refine S_seq ?_
    refine S_seq ?_
    refine S_reg [true, true, true, true, false, true] rfl rfl ?_
    refine J_st (R_fieldAddr0 fl43_1 rfl) rfl (J_st (R_load sc39 rfl (h1.one 1 rfl)) rfl (J_st (R_fieldAddr0 fl43_1 rfl) rfl (J_st (R_load sc39 rfl (h2.one 1 rfl)) rfl ?_)))
    refine J_call Try.call32 rfl (c_eqRecordS o2 x.staged o10 y.staged _ (hd2.rd.ext E) (hd10.rd.ext E)) rfl (fun _ w4 e4 hv => ?_)
    subst hv
    replace E := E.trans e4; replace h1 := h1.ext e4; replace h2 := h2.ext e4
    have z4 := e4.size
    refine J_st (R_not rfl) rfl (J_done ?_)
    refine S_cond rfl (fun hc2 => ?_) (fun hc2 => ?_)
    · refine S_seq ?_
      refine S_reg [true] rfl rfl ?_
      refine J_st (R_assign rfl) rfl (J_done ?_)
      refine S_ret (E_done1 rfl rfl E ?_)
      cases x; cases y; simp_all
    · refine S_skip ?_
      refine S_seq ?_
      refine S_seq ?_
      refine S_reg [true, true, true, true, false, true] rfl rfl ?_
      refine J_st (R_fieldAddr0 fl43_2 rfl) rfl (J_st (R_load sc39 rfl (h1.one 2 rfl)) rfl (J_st (R_fieldAddr0 fl43_2 rfl) rfl (J_st (R_load sc39 rfl (h2.one 2 rfl)) rfl ?_)))
      refine J_call Try.call32 rfl (c_eqRecordS o3 x.inputs o11 y.inputs _ (hd3.rd.ext E) (hd11.rd.ext E)) rfl (fun _ w5 e5 hv => ?_)
      subst hv
      replace E := E.trans e5; replace h1 := h1.ext e5; replace h2 := h2.ext e5
      have z5 := e5.size
      refine J_st (R_not rfl) rfl (J_done ?_)
      refine S_cond rfl (fun hc3 => ?_) (fun hc3 => ?_)
      · refine S_seq ?_
        refine S_reg [true] rfl rfl ?_
        refine J_st (R_assign rfl) rfl (J_done ?_)
        refine S_ret (E_done1 rfl rfl E ?_)
        cases x; cases y; simp_all
      · refine S_skip ?_
        refine S_seq ?_
        refine S_seq ?_
        refine S_reg [true, true, true, true, false, true] rfl rfl ?_
        refine J_st (R_fieldAddr0 fl43_3 rfl) rfl (J_st (R_load sc40 rfl (h1.one 3 rfl)) rfl (J_st (R_fieldAddr0 fl43_3 rfl) rfl (J_st (R_load sc40 rfl (h2.one 3 rfl)) rfl ?_)))
        refine J_call Try.call33 rfl (c_eqCellS o4 x.cells o12 y.cells _ (hd4.rd.ext E) (hd12.rd.ext E)) rfl (fun _ w6 e6 hv => ?_)
        subst hv
        replace E := E.trans e6; replace h1 := h1.ext e6; replace h2 := h2.ext e6
        have z6 := e6.size
        refine J_st (R_not rfl) rfl (J_done ?_)
        refine S_cond rfl (fun hc4 => ?_) (fun hc4 => ?_)
        · refine S_seq ?_
          refine S_reg [true] rfl rfl ?_
          refine J_st (R_assign rfl) rfl (J_done ?_)
          refine S_ret (E_done1 rfl rfl E ?_)
          cases x; cases y; simp_all
        · refine S_skip ?_
          refine S_seq ?_
          refine S_seq ?_
          refine S_reg [true, true, true, true, false, true] rfl rfl ?_
          refine J_st (R_fieldAddr0 fl43_4 rfl) rfl (J_st (R_load sc27 rfl (h1.one 4 rfl)) rfl (J_st (R_fieldAddr0 fl43_4 rfl) rfl (J_st (R_load sc27 rfl (h2.one 4 rfl)) rfl ?_)))
          refine J_call Try.call34 rfl (c_eqIntS o5 x.sums o13 y.sums _ (hd5.rd.ext E) (hd13.rd.ext E)) rfl (fun _ w7 e7 hv => ?_)
          subst hv
          replace E := E.trans e7; replace h1 := h1.ext e7; replace h2 := h2.ext e7
          have z7 := e7.size
          refine J_st (R_not rfl) rfl (J_done ?_)
          refine S_cond rfl (fun hc5 => ?_) (fun hc5 => ?_)
          · refine S_seq ?_
            refine S_reg [true] rfl rfl ?_
            refine J_st (R_assign rfl) rfl (J_done ?_)
            refine S_ret (E_done1 rfl rfl E ?_)
            cases x; cases y; simp_all
          · refine S_skip ?_
            refine S_seq ?_
            refine S_seq ?_
            refine S_reg [true, true, true, true, false, true] rfl rfl ?_
            refine J_st (R_fieldAddr0 fl43_5 rfl) rfl (J_st (R_load sc28 rfl (h1.one 5 rfl)) rfl (J_st (R_fieldAddr0 fl43_5 rfl) rfl (J_st (R_load sc28 rfl (h2.one 5 rfl)) rfl ?_)))
            refine J_call Try.call35 rfl (c_eqBoolS o6 x.black o14 y.black _ (hd6.rd.ext E) (hd14.rd.ext E)) rfl (fun _ w8 e8 hv => ?_)
            subst hv
            replace E := E.trans e8; replace h1 := h1.ext e8; replace h2 := h2.ext e8
            have z8 := e8.size
            refine J_st (R_not rfl) rfl (J_done ?_)
            refine S_cond rfl (fun hc6 => ?_) (fun hc6 => ?_)
            · refine S_seq ?_
              refine S_reg [true] rfl rfl ?_
              refine J_st (R_assign rfl) rfl (J_done ?_)
              refine S_ret (E_done1 rfl rfl E ?_)
              cases x; cases y; simp_all
            · refine S_skip ?_
              refine S_seq ?_
              refine S_seq ?_
              refine S_reg [true, true, true, true, false, true] rfl rfl ?_
              refine J_st (R_fieldAddr0 fl43_6 rfl) rfl (J_st (R_load sc28 rfl (h1.one 6 rfl)) rfl (J_st (R_fieldAddr0 fl43_6 rfl) rfl (J_st (R_load sc28 rfl (h2.one 6 rfl)) rfl ?_)))
              refine J_call Try.call35 rfl (c_eqBoolS o7 x.caps o15 y.caps _ (hd7.rd.ext E) (hd15.rd.ext E)) rfl (fun _ w9 e9 hv => ?_)
              subst hv
              replace E := E.trans e9; replace h1 := h1.ext e9; replace h2 := h2.ext e9
              have z9 := e9.size
              refine J_st (R_not rfl) rfl (J_done ?_)
              refine S_cond rfl (fun hc7 => ?_) (fun hc7 => ?_)
              · refine S_seq ?_
                refine S_reg [true] rfl rfl ?_
                refine J_st (R_assign rfl) rfl (J_done ?_)
                refine S_ret (E_done1 rfl rfl E ?_)
                cases x; cases y; simp_all
              · refine S_skip ?_
                refine S_seq ?_
                refine S_seq ?_
                refine S_reg [true, true, true, true, false, true] rfl rfl ?_
                refine J_st (R_fieldAddr0 fl43_7 rfl) rfl (J_st (R_load sc41 rfl (h1.one 7 rfl)) rfl (J_st (R_fieldAddr0 fl43_7 rfl) rfl (J_st (R_load sc41 rfl (h2.one 7 rfl)) rfl ?_)))
                refine J_call Try.call36 rfl (c_eqDoneS o8 x.dones o16 y.dones _ (hd8.rd.ext E) (hd16.rd.ext E)) rfl (fun _ w10 e10 hv => ?_)
                subst hv
                replace E := E.trans e10; replace h1 := h1.ext e10; replace h2 := h2.ext e10
                have z10 := e10.size
                refine J_st (R_not rfl) rfl (J_done ?_)
                refine S_cond rfl (fun hc8 => ?_) (fun hc8 => ?_)
                · refine S_seq ?_
                  refine S_reg [true] rfl rfl ?_
                  refine J_st (R_assign rfl) rfl (J_done ?_)
                  refine S_ret (E_done1 rfl rfl E ?_)
                  cases x; cases y; simp_all
                · refine S_skip ?_
                  refine S_seq ?_
                  refine S_reg [true] rfl rfl ?_
                  refine J_st (R_assign rfl) rfl (J_done ?_)
                  refine S_ret (E_done1 rfl rfl E ?_)
                  cases x; cases y; simp_all

set_option maxRecDepth 20000 in
theorem c_IndexFuncDone (vxs : Value) (xs : List Done) (fp : Value) (p : Done → Bool) (w : World) (hxs : RdS w vxs xs) (hp : PredF Try.prog w fp p) : Ct Try.prog 59 [vxs, fp] w (fun v _ => v = .int .i64 (findI xs p)) := by
  refine ct_of Try.func59 rfl Try.ntmps59 rfl ?_
  obtain ⟨fid, fs, fc, rfl, hcf, hpf⟩ := hp
  refine S_sub [(0, vxs), (1, .func (.func fid) fs.toArray fc.toArray)] ⟨rfl, rfl, trivial⟩ ?_
  have E : Ext w w := Ext.refl w
  refine S_seq ?_
  refine S_reg [true] rfl rfl ?_
  refine J_st (R_assign rfl) rfl (J_done ?_)
  refine S_seq ?_
  refine S_seq ?_
  refine S_reg [true, true, true] rfl rfl ?_
  refine J_st (R_move rfl) rfl (J_st (R_len Try.underlying41 rfl (hxs.ext E).len) rfl (J_st (R_move rfl) rfl (J_done ?_)))
  refine S_block ?_
  refine S_loop (fun (k : Nat) => [(0, vxs), (1, .func (.func fid) fs.toArray fc.toArray), (4, .int .i64 0), (7, .int .i64 ((xs.length : Nat) : Int)), (8, .int .i64 ((k : Nat) : Int))]) (fun (k : Nat) w' => Ext w w' ∧ w.heap.size ≤ w'.heap.size ∧ k ≤ xs.length ∧ (xs.take k).any p = false) (fun (k : Nat) => xs.length - k) 0 ⟨rfl, rfl, rfl, rfl, rfl, trivial⟩ ⟨E, Nat.le_refl _, Nat.zero_le _, rfl⟩ ?_
  clear E
  rintro k w1 ⟨E, z1, hk, hI⟩
  refine S_seq ?_
  refine S_reg [true] rfl rfl ?_
  refine J_st (R_lss rfl rfl) rfl (J_done ?_)
  refine S_seq ?_
  refine S_cond rfl (fun hc1 => ?_) (fun hc1 => ?_)
  · have hc1n : k < xs.length := by first | (have h := of_decide_eq_true hc1; omega) | (have h := hc1; simp at h; omega)
    refine S_skip ?_
    refine S_seq ?_
    refine S_block ?_
    refine S_seq ?_
    refine S_reg [true, true] rfl rfl ?_
    refine J_st (R_move rfl) rfl (J_st (R_assign rfl) rfl (J_done ?_))
    refine S_seq ?_
    refine S_reg [true, true, true, true, true, false] rfl rfl ?_
    refine J_st (R_move rfl) rfl (J_st (R_move rfl) rfl (J_st (R_move rfl) rfl ?_))
    have hi1 : k < xs.length := (by first | assumption | omega)
    refine J_st (R_index (i := k) sl41 rfl rfl (hxs.ext E) hi1) rfl (J_st (R_loadS st62 rfl ((hxs.ext E).get hi1) rfl) rfl ?_)
    refine J_callV (fs := fs) (cs := fc) hcf rfl rfl (hpf (xs[k]'hi1) _ E) rfl (fun _ w2 e1 hv => ?_)
    subst hv
    replace E := E.trans e1
    have z2 := e1.size
    refine J_done ?_
    refine S_cond rfl (fun hc2 => ?_) (fun hc2 => ?_)
    · refine S_seq ?_
      refine S_reg [true, true] rfl rfl ?_
      refine J_st (R_move rfl) rfl (J_st (R_assign rfl) rfl (J_done ?_))
      refine S_ret (E_inB_ret (E_lp_ret (E_inB_ret (E_done1 rfl rfl E ?_))))
      exact find_yes hI (by assumption) hc2
    · refine S_skip ?_
      refine S_nil (E_inB ?_)
      refine S_reg [true, true] rfl rfl ?_
      refine J_st (R_add rfl rfl (add_one hc1n hxs.1)) rfl (J_st (R_move rfl) rfl (J_done ?_))
      refine S_nil (E_again (k + 1) (by omega) ⟨rfl, rfl, rfl, rfl, rfl, trivial⟩ ⟨E, (by omega), (by omega), any_step hI (by assumption) hc2⟩)
  · have hc1n : ¬ k < xs.length := by first | (have h := of_decide_eq_false hc1; omega) | (have h := hc1; simp at h; omega)
    refine S_exit (E_lp_exit (E_inB_exit ?_))
    refine S_seq ?_
    refine S_reg [true] rfl rfl ?_
    refine J_st (R_assign rfl) rfl (J_done ?_)
    refine S_ret (E_done1 rfl rfl E ?_)
    exact find_no hI (by omega)

set_option maxRecDepth 20000 in
theorem c_ContainsFuncDone (vxs : Value) (xs : List Done) (fp : Value) (p : Done → Bool) (w : World) (hxs : RdS w vxs xs) (hp : PredF Try.prog w fp p) : Ct Try.prog 47 [vxs, fp] w (fun v _ => v = .bool (xs.any p)) := by
  refine ct_of Try.func47 rfl Try.ntmps47 rfl ?_
  obtain ⟨fid, fs, fc, rfl, hcf, hpf⟩ := hp
  refine S_sub [(0, vxs), (1, .func (.func fid) fs.toArray fc.toArray)] ⟨rfl, rfl, trivial⟩ ?_
  have E : Ext w w := Ext.refl w
  refine S_seq ?_
  refine S_reg [true] rfl rfl ?_
  refine J_st (R_assign rfl) rfl (J_done ?_)
  refine S_seq ?_
  refine S_reg [true, true, false, true, true] rfl rfl ?_
  refine J_st (R_move rfl) rfl (J_st (R_move rfl) rfl ?_)
  refine J_call Try.call59 (by rfl) (c_IndexFuncDone vxs xs (.func (.func fid) fs.toArray fc.toArray) (p) _ (hxs.ext E) ⟨fid, fs, fc, rfl, hcf, fun y w' e => hpf y w' (E.trans e)⟩) rfl (fun _ w1 e1 hv => ?_)
  subst hv
  replace E := E.trans e1
  have z1 := e1.size
  refine J_st (R_geq rfl rfl) rfl (J_st (R_assign rfl) rfl (J_done ?_))
  refine S_ret (E_done1 rfl rfl E ?_)
  exact any_find

set_option maxRecDepth 20000 in
theorem c_doneAt1 (r : Done) (be : Nat) (e : Int) (w : World) (he : At w be 0 [.int .i64 e]) : Ct Try.prog 48 [.agg (Enc.enc r).toArray, .pointer (some ⟨be, 0, none⟩)] w (fun v _ => v = .bool (r.epoch == e)) := by
  refine ct_of Try.func48 rfl Try.ntmps48 rfl ?_
  refine S_sub [(0, .agg (Enc.enc r).toArray), (1, .pointer (some ⟨be, 0, none⟩))] ⟨rfl, rfl, trivial⟩ ?_
  have E : Ext w w := Ext.refl w
  refine S_seq ?_
  refine S_reg [false, true] rfl rfl ?_
  refine J_box rfl rfl (fun b1 w1 e1 s1 h1 => ?_)
  have g_b1 : w.heap.size ≤ b1 := by have := E.size; omega
  have y_b1 := h1.lt
  replace E := E.trans e1
  have z1 := e1.size
  refine J_st (R_assign rfl) rfl (J_done ?_)
  refine S_seq ?_
  refine S_reg [true, true, true, true, true] rfl rfl ?_
  refine J_st (R_fieldAddr0 fl62_0 rfl) rfl (J_st (R_load sc3 rfl (h1.one 0 rfl)) rfl (J_st (R_load sc3 rfl ((he.ext E).one 0 rfl)) rfl (J_st (R_eql rfl rfl) rfl (J_st (R_assign rfl) rfl (J_done ?_)))))
  refine S_ret (E_done1 rfl rfl E ?_)
  rfl

set_option maxRecDepth 20000 in
theorem c_doneAt (vxs : Value) (xs : List Done) (e : Int) (w : World) (hxs : RdS w vxs xs) : Ct Try.prog 30 [vxs, .int .i64 e] w (fun v _ => v = .bool (xs.any (fun d => d.epoch == e))) := by
  refine ct_of Try.func30 rfl Try.ntmps30 rfl ?_
  refine S_sub [(0, vxs), (1, .int .i64 e)] ⟨rfl, rfl, trivial⟩ ?_
  have E : Ext w w := Ext.refl w
  refine S_seq ?_
  refine S_reg [false, true] rfl rfl ?_
  refine J_box1 rfl rfl rfl (fun b1 w1 e1 s1 h1 => ?_)
  have g_b1 : w.heap.size ≤ b1 := by have := E.size; omega
  have y_b1 := h1.lt
  replace E := E.trans e1
  have z1 := e1.size
  refine J_st (R_assign rfl) rfl (J_done ?_)
  refine S_seq ?_
  refine S_reg [true, true, false, true] rfl rfl ?_
  refine J_st (R_move rfl) rfl (J_st (R_makeFunc rfl rfl) rfl ?_)
  refine J_call Try.call47 (by rfl) (c_ContainsFuncDone vxs xs (.func (.func 48) [].toArray [.pointer (some ⟨b1, 0, none⟩)].toArray) ((fun (y : Done) => y.epoch == e)) _ (hxs.ext E) ⟨48, [], [.pointer (some ⟨b1, 0, none⟩)], rfl, Try.call48, fun y wX eX => c_doneAt1 y b1 e wX (At.ext (Blk.at h1) eX)⟩) rfl (fun _ w2 e2 hv => ?_)
  subst hv
  replace E := E.trans e2; replace h1 := h1.ext e2
  have z2 := e2.size
  refine J_st (R_assign rfl) rfl (J_done ?_)
  refine S_ret (E_done1 rfl rfl E ?_)
  rfl

set_option maxRecDepth 20000 in
theorem c_StampOk (s : Stamp) (w : World)  : Ct Try.prog 56 [.agg (Enc.enc s).toArray] w (fun v _ => v = .bool (stampOk s)) := by
  refine ct_of Try.func56 rfl Try.ntmps56 rfl ?_
  refine S_sub [(0, .agg (Enc.enc s).toArray)] ⟨rfl, trivial⟩ ?_
  have E : Ext w w := Ext.refl w
  refine S_seq ?_
  refine S_reg [false, true] rfl rfl ?_
  refine J_box rfl rfl (fun b1 w1 e1 s1 h1 => ?_)
  have g_b1 : w.heap.size ≤ b1 := by have := E.size; omega
  have y_b1 := h1.lt
  replace E := E.trans e1
  have z1 := e1.size
  refine J_st (R_assign rfl) rfl (J_done ?_)
  refine S_seq ?_
  refine S_reg [true, true, false, true, true, true, false, true, true] rfl rfl ?_
  refine J_st (R_fieldAddr0 fl57_0 rfl) rfl (J_st (R_load sc3 rfl (h1.one 0 rfl)) rfl ?_)
  refine J_call Try.call29 rfl (c_within s.epoch 0 3 _ ) rfl (fun _ w2 e2 hv => ?_)
  subst hv
  replace E := E.trans e2; replace h1 := h1.ext e2
  have z2 := e2.size
  refine J_st (R_move rfl) rfl ?_
  refine J_cut 4 [(0, .agg (Enc.enc s).toArray), (1, .pointer (some ⟨b1, 0, none⟩)), (2, .bool false), (10, .bool ((win s.epoch 0 3) && (win s.turn 0 6)))] (fun w' => Ext w w' ∧ w2.heap.size ≤ w'.heap.size ∧ Blk w' b1 (Enc.enc s)) ?_ ?_
  · refine J_if (gd := 6) rfl rfl (fun hg1 => ?_) (fun hg1 => ?_)
    · refine J_gd rfl rfl (R_fieldAddr0 fl57_1 rfl) rfl (J_gd rfl rfl (R_load sc3 rfl (h1.one 1 rfl)) rfl ?_)
      refine J_ung rfl rfl ?_
      refine J_call Try.call29 rfl (c_within s.turn 0 6 _ ) rfl (fun _ w4 e3 hv => ?_)
      subst hv
      replace E := E.trans e3; replace h1 := h1.ext e3
      have z3 := e3.size
      refine J_st (R_pickT rfl rfl) rfl (J_cutEnd ⟨rfl, rfl, rfl, congrArg (fun b => some (Value.bool b)) (show (win s.turn 0 6) = ((win s.epoch 0 3) && (win s.turn 0 6)) by first | (rw [hg1] <;> rfl) | (simp [hg1]; done) | (simp only [nat_nlt] <;> simp)), trivial⟩ ⟨E, (by omega), h1⟩)
    · refine J_gdno rfl rfl rfl rfl (J_gdno rfl rfl rfl rfl ?_)
      refine J_ungno rfl rfl rfl rfl ?_
      refine J_st (R_pickF rfl rfl) rfl (J_cutEnd ⟨rfl, rfl, rfl, congrArg (fun b => some (Value.bool b)) (show false = ((win s.epoch 0 3) && (win s.turn 0 6)) by first | (rw [hg1] <;> rfl) | (simp [hg1]; done) | (simp only [nat_nlt] <;> simp)), trivial⟩ ⟨E, (by omega), h1⟩)
  clear E h1
  rintro w3 ⟨E, z4, h1⟩
  refine J_st (R_assign rfl) rfl (J_done ?_)
  refine S_ret (E_done1 rfl rfl E ?_)
  rfl

set_option maxRecDepth 20000 in
theorem s_StampOk (s : Stamp) (w : World)  : Ct Try.prog 53 [.agg (Enc.enc s).toArray] w (fun v _ => v = .bool (stampOk s)) := by
  refine ct_of Try.func53 rfl Try.ntmps53 rfl ?_
  refine S_sub [(0, .agg (Enc.enc s).toArray)] ⟨rfl, trivial⟩ ?_
  have E : Ext w w := Ext.refl w
  refine S_seq ?_
  refine S_reg [false, true] rfl rfl ?_
  refine J_box rfl rfl (fun b1 w1 e1 s1 h1 => ?_)
  have g_b1 : w.heap.size ≤ b1 := by have := E.size; omega
  have y_b1 := h1.lt
  replace E := E.trans e1
  have z1 := e1.size
  refine J_st (R_assign rfl) rfl (J_done ?_)
  refine S_seq ?_
  refine S_reg [true, true, false, true, true, true, false, true, true] rfl rfl ?_
  refine J_st (R_fieldAddr0 fl57_0 rfl) rfl (J_st (R_load sc3 rfl (h1.one 0 rfl)) rfl ?_)
  refine J_call Try.call20 rfl (s_l01In s.epoch 0 3 _ ) rfl (fun _ w2 e2 hv => ?_)
  subst hv
  replace E := E.trans e2; replace h1 := h1.ext e2
  have z2 := e2.size
  refine J_st (R_move rfl) rfl ?_
  refine J_cut 4 [(0, .agg (Enc.enc s).toArray), (1, .pointer (some ⟨b1, 0, none⟩)), (2, .bool false), (10, .bool ((win s.epoch 0 3) && (win s.turn 0 6)))] (fun w' => Ext w w' ∧ w2.heap.size ≤ w'.heap.size ∧ Blk w' b1 (Enc.enc s)) ?_ ?_
  · refine J_if (gd := 6) rfl rfl (fun hg1 => ?_) (fun hg1 => ?_)
    · refine J_gd rfl rfl (R_fieldAddr0 fl57_1 rfl) rfl (J_gd rfl rfl (R_load sc3 rfl (h1.one 1 rfl)) rfl ?_)
      refine J_ung rfl rfl ?_
      refine J_call Try.call20 rfl (s_l01In s.turn 0 6 _ ) rfl (fun _ w4 e3 hv => ?_)
      subst hv
      replace E := E.trans e3; replace h1 := h1.ext e3
      have z3 := e3.size
      refine J_st (R_pickT rfl rfl) rfl (J_cutEnd ⟨rfl, rfl, rfl, congrArg (fun b => some (Value.bool b)) (show (win s.turn 0 6) = ((win s.epoch 0 3) && (win s.turn 0 6)) by first | (rw [hg1] <;> rfl) | (simp [hg1]; done) | (simp only [nat_nlt] <;> simp)), trivial⟩ ⟨E, (by omega), h1⟩)
    · refine J_gdno rfl rfl rfl rfl (J_gdno rfl rfl rfl rfl ?_)
      refine J_ungno rfl rfl rfl rfl ?_
      refine J_st (R_pickF rfl rfl) rfl (J_cutEnd ⟨rfl, rfl, rfl, congrArg (fun b => some (Value.bool b)) (show false = ((win s.epoch 0 3) && (win s.turn 0 6)) by first | (rw [hg1] <;> rfl) | (simp [hg1]; done) | (simp only [nat_nlt] <;> simp)), trivial⟩ ⟨E, (by omega), h1⟩)
  clear E h1
  rintro w3 ⟨E, z4, h1⟩
  refine J_st (R_assign rfl) rfl (J_done ?_)
  refine S_ret (E_done1 rfl rfl E ?_)
  rfl

set_option maxRecDepth 20000 in
theorem c_itemOk (a : Int) (b : Int) (w : World)  : Ct Try.prog 57 [.int .i64 a, .int .i64 b] w (fun v _ => v = .bool (win a 0 99 && win b 0 999)) := by
  refine ct_of Try.func57 rfl Try.ntmps57 rfl ?_
  refine S_sub [(0, .int .i64 a), (1, .int .i64 b)] ⟨rfl, rfl, trivial⟩ ?_
  have E : Ext w w := Ext.refl w
  refine S_seq ?_
  refine S_reg [true] rfl rfl ?_
  refine J_st (R_assign rfl) rfl (J_done ?_)
  refine S_seq ?_
  refine S_reg [true, false, true, true, false, true, true] rfl rfl ?_
  refine J_st (R_move rfl) rfl ?_
  refine J_call Try.call29 rfl (c_within a 0 99 _ ) rfl (fun _ w1 e1 hv => ?_)
  subst hv
  replace E := E.trans e1
  have z1 := e1.size
  refine J_st (R_move rfl) rfl ?_
  refine J_cut 3 [(0, .int .i64 a), (1, .int .i64 b), (4, .bool false), (10, .bool ((win a 0 99) && (win b 0 999)))] (fun w' => Ext w w' ∧ w1.heap.size ≤ w'.heap.size) ?_ ?_
  · refine J_if (gd := 7) rfl rfl (fun hg1 => ?_) (fun hg1 => ?_)
    · refine J_gd rfl rfl (R_move rfl) rfl ?_
      refine J_ung rfl rfl ?_
      refine J_call Try.call29 rfl (c_within b 0 999 _ ) rfl (fun _ w3 e2 hv => ?_)
      subst hv
      replace E := E.trans e2
      have z2 := e2.size
      refine J_st (R_pickT rfl rfl) rfl (J_cutEnd ⟨rfl, rfl, rfl, congrArg (fun b => some (Value.bool b)) (show (win b 0 999) = ((win a 0 99) && (win b 0 999)) by first | (rw [hg1] <;> rfl) | (simp [hg1]; done) | (simp only [nat_nlt] <;> simp)), trivial⟩ ⟨E, (by omega)⟩)
    · refine J_gdno rfl rfl rfl rfl ?_
      refine J_ungno rfl rfl rfl rfl ?_
      refine J_st (R_pickF rfl rfl) rfl (J_cutEnd ⟨rfl, rfl, rfl, congrArg (fun b => some (Value.bool b)) (show false = ((win a 0 99) && (win b 0 999)) by first | (rw [hg1] <;> rfl) | (simp [hg1]; done) | (simp only [nat_nlt] <;> simp)), trivial⟩ ⟨E, (by omega)⟩)
  clear E
  rintro w2 ⟨E, z3⟩
  refine J_st (R_assign rfl) rfl (J_done ?_)
  refine S_ret (E_done1 rfl rfl E ?_)
  rfl

set_option maxRecDepth 20000 in
theorem c_RecordOk (r : Record) (w : World)  : Ct Try.prog 44 [.agg (Enc.enc r).toArray] w (fun v _ => v = .bool (recordOk r)) := by
  refine ct_of Try.func44 rfl Try.ntmps44 rfl ?_
  refine S_sub [(0, .agg (Enc.enc r).toArray)] ⟨rfl, trivial⟩ ?_
  have E : Ext w w := Ext.refl w
  refine S_seq ?_
  refine S_reg [false, true] rfl rfl ?_
  refine J_box rfl rfl (fun b1 w1 e1 s1 h1 => ?_)
  have g_b1 : w.heap.size ≤ b1 := by have := E.size; omega
  have y_b1 := h1.lt
  replace E := E.trans e1
  have z1 := e1.size
  refine J_st (R_assign rfl) rfl (J_done ?_)
  refine S_seq ?_
  refine S_reg [true, true, false, true, true, true, false, true, true, true, true, true, true, false, true, true] rfl rfl ?_
  refine J_st (R_fieldAddr0 fl59_0 rfl) rfl (J_st (R_load sc3 rfl (h1.one 0 rfl)) rfl ?_)
  refine J_call Try.call29 rfl (c_within r.op 0 7 _ ) rfl (fun _ w2 e2 hv => ?_)
  subst hv
  replace E := E.trans e2; replace h1 := h1.ext e2
  have z2 := e2.size
  refine J_st (R_move rfl) rfl ?_
  refine J_cut 11 [(0, .agg (Enc.enc r).toArray), (1, .pointer (some ⟨b1, 0, none⟩)), (2, .bool false), (17, .bool (((win r.op 0 7) && (stampOk r.stamp)) && (win r.key 0 99 && win r.val 0 999)))] (fun w' => Ext w w' ∧ w2.heap.size ≤ w'.heap.size ∧ Blk w' b1 (Enc.enc r)) ?_ ?_
  · refine J_if (gd := 6) rfl rfl (fun hg1 => ?_) (fun hg1 => ?_)
    · refine J_gd rfl rfl (R_fieldAddr0 fl59_1 rfl) rfl (J_gd rfl rfl (R_loadS st57 rfl (h1.part 1 [.int .i64 r.stamp.epoch, .int .i64 r.stamp.turn] rfl) rfl) rfl ?_)
      refine J_ung rfl rfl ?_
      refine J_call Try.call56 rfl (c_StampOk r.stamp _ ) rfl (fun _ w4 e3 hv => ?_)
      subst hv
      replace E := E.trans e3; replace h1 := h1.ext e3
      have z3 := e3.size
      refine J_st (R_pickT rfl rfl) rfl (J_st (R_move rfl) rfl ?_)
      refine J_if (gd := 11) rfl rfl (fun hg2 => ?_) (fun hg2 => ?_)
      · refine J_gd rfl rfl (R_fieldAddr0 fl59_2 rfl) rfl (J_gd rfl rfl (R_load sc3 rfl (h1.one 3 rfl)) rfl (J_gd rfl rfl (R_fieldAddr0 fl59_3 rfl) rfl (J_gd rfl rfl (R_load sc3 rfl (h1.one 4 rfl)) rfl ?_)))
        refine J_ung rfl rfl ?_
        refine J_call Try.call57 rfl (c_itemOk r.key r.val _ ) rfl (fun _ w5 e4 hv => ?_)
        subst hv
        replace E := E.trans e4; replace h1 := h1.ext e4
        have z4 := e4.size
        refine J_st (R_pickT rfl rfl) rfl (J_cutEnd ⟨rfl, rfl, rfl, congrArg (fun b => some (Value.bool b)) (show (win r.key 0 99 && win r.val 0 999) = (((win r.op 0 7) && (stampOk r.stamp)) && (win r.key 0 99 && win r.val 0 999)) by first | (rw [hg1, hg2] <;> rfl) | (simp [hg1, hg2]; done) | (simp only [nat_nlt] <;> simp)), trivial⟩ ⟨E, (by omega), h1⟩)
      · refine J_gdno rfl rfl rfl rfl (J_gdno rfl rfl rfl rfl (J_gdno rfl rfl rfl rfl (J_gdno rfl rfl rfl rfl ?_)))
        refine J_ungno rfl rfl rfl rfl ?_
        refine J_st (R_pickF rfl rfl) rfl (J_cutEnd ⟨rfl, rfl, rfl, congrArg (fun b => some (Value.bool b)) (show false = (((win r.op 0 7) && (stampOk r.stamp)) && (win r.key 0 99 && win r.val 0 999)) by first | (rw [hg1, hg2] <;> rfl) | (simp [hg1, hg2]; done) | (simp only [nat_nlt] <;> simp)), trivial⟩ ⟨E, (by omega), h1⟩)
    · refine J_gdno rfl rfl rfl rfl (J_gdno rfl rfl rfl rfl ?_)
      refine J_ungno rfl rfl rfl rfl ?_
      refine J_st (R_pickF rfl rfl) rfl (J_st (R_move rfl) rfl (J_gdno rfl rfl rfl rfl (J_gdno rfl rfl rfl rfl (J_gdno rfl rfl rfl rfl (J_gdno rfl rfl rfl rfl ?_)))))
      refine J_ungno rfl rfl rfl rfl ?_
      refine J_st (R_pickF rfl rfl) rfl (J_cutEnd ⟨rfl, rfl, rfl, congrArg (fun b => some (Value.bool b)) (show false = (((win r.op 0 7) && (stampOk r.stamp)) && (win r.key 0 99 && win r.val 0 999)) by first | (rw [hg1] <;> rfl) | (simp [hg1]; done) | (simp only [nat_nlt] <;> simp)), trivial⟩ ⟨E, (by omega), h1⟩)
  clear E h1
  rintro w3 ⟨E, z5, h1⟩
  refine J_st (R_assign rfl) rfl (J_done ?_)
  refine S_ret (E_done1 rfl rfl E ?_)
  rfl

set_option maxRecDepth 20000 in
theorem s_RecordOk (r : Record) (w : World)  : Ct Try.prog 38 [.agg (Enc.enc r).toArray] w (fun v _ => v = .bool (recordOk r)) := by
  refine ct_of Try.func38 rfl Try.ntmps38 rfl ?_
  refine S_sub [(0, .agg (Enc.enc r).toArray)] ⟨rfl, trivial⟩ ?_
  have E : Ext w w := Ext.refl w
  refine S_seq ?_
  refine S_reg [false, true] rfl rfl ?_
  refine J_box rfl rfl (fun b1 w1 e1 s1 h1 => ?_)
  have g_b1 : w.heap.size ≤ b1 := by have := E.size; omega
  have y_b1 := h1.lt
  replace E := E.trans e1
  have z1 := e1.size
  refine J_st (R_assign rfl) rfl (J_done ?_)
  refine S_seq ?_
  refine S_reg [true, true, false, true, true, true, false, true, true, true, true, false, true, true, true, true, false, true, true] rfl rfl ?_
  refine J_st (R_fieldAddr0 fl59_0 rfl) rfl (J_st (R_load sc3 rfl (h1.one 0 rfl)) rfl ?_)
  refine J_call Try.call20 rfl (s_l01In r.op 0 7 _ ) rfl (fun _ w2 e2 hv => ?_)
  subst hv
  replace E := E.trans e2; replace h1 := h1.ext e2
  have z2 := e2.size
  refine J_st (R_move rfl) rfl ?_
  refine J_cut 14 [(0, .agg (Enc.enc r).toArray), (1, .pointer (some ⟨b1, 0, none⟩)), (2, .bool false), (20, .bool ((((win r.op 0 7) && (stampOk r.stamp)) && (win r.key 0 99)) && (win r.val 0 999)))] (fun w' => Ext w w' ∧ w2.heap.size ≤ w'.heap.size ∧ Blk w' b1 (Enc.enc r)) ?_ ?_
  · refine J_if (gd := 6) rfl rfl (fun hg1 => ?_) (fun hg1 => ?_)
    · refine J_gd rfl rfl (R_fieldAddr0 fl59_1 rfl) rfl (J_gd rfl rfl (R_loadS st57 rfl (h1.part 1 [.int .i64 r.stamp.epoch, .int .i64 r.stamp.turn] rfl) rfl) rfl ?_)
      refine J_ung rfl rfl ?_
      refine J_call Try.call53 rfl (s_StampOk r.stamp _ ) rfl (fun _ w4 e3 hv => ?_)
      subst hv
      replace E := E.trans e3; replace h1 := h1.ext e3
      have z3 := e3.size
      refine J_st (R_pickT rfl rfl) rfl (J_st (R_move rfl) rfl ?_)
      refine J_if (gd := 11) rfl rfl (fun hg2 => ?_) (fun hg2 => ?_)
      · refine J_gd rfl rfl (R_fieldAddr0 fl59_2 rfl) rfl (J_gd rfl rfl (R_load sc3 rfl (h1.one 3 rfl)) rfl ?_)
        refine J_ung rfl rfl ?_
        refine J_call Try.call20 rfl (s_l01In r.key 0 99 _ ) rfl (fun _ w5 e4 hv => ?_)
        subst hv
        replace E := E.trans e4; replace h1 := h1.ext e4
        have z4 := e4.size
        refine J_st (R_pickT rfl rfl) rfl (J_st (R_move rfl) rfl ?_)
        refine J_if (gd := 16) rfl rfl (fun hg3 => ?_) (fun hg3 => ?_)
        · refine J_gd rfl rfl (R_fieldAddr0 fl59_3 rfl) rfl (J_gd rfl rfl (R_load sc3 rfl (h1.one 4 rfl)) rfl ?_)
          refine J_ung rfl rfl ?_
          refine J_call Try.call20 rfl (s_l01In r.val 0 999 _ ) rfl (fun _ w6 e5 hv => ?_)
          subst hv
          replace E := E.trans e5; replace h1 := h1.ext e5
          have z5 := e5.size
          refine J_st (R_pickT rfl rfl) rfl (J_cutEnd ⟨rfl, rfl, rfl, congrArg (fun b => some (Value.bool b)) (show (win r.val 0 999) = ((((win r.op 0 7) && (stampOk r.stamp)) && (win r.key 0 99)) && (win r.val 0 999)) by first | (rw [hg1, hg2, hg3] <;> rfl) | (simp [hg1, hg2, hg3]; done) | (simp only [nat_nlt] <;> simp)), trivial⟩ ⟨E, (by omega), h1⟩)
        · refine J_gdno rfl rfl rfl rfl (J_gdno rfl rfl rfl rfl ?_)
          refine J_ungno rfl rfl rfl rfl ?_
          refine J_st (R_pickF rfl rfl) rfl (J_cutEnd ⟨rfl, rfl, rfl, congrArg (fun b => some (Value.bool b)) (show false = ((((win r.op 0 7) && (stampOk r.stamp)) && (win r.key 0 99)) && (win r.val 0 999)) by first | (rw [hg1, hg2, hg3] <;> rfl) | (simp [hg1, hg2, hg3]; done) | (simp only [nat_nlt] <;> simp)), trivial⟩ ⟨E, (by omega), h1⟩)
      · refine J_gdno rfl rfl rfl rfl (J_gdno rfl rfl rfl rfl ?_)
        refine J_ungno rfl rfl rfl rfl ?_
        refine J_st (R_pickF rfl rfl) rfl (J_st (R_move rfl) rfl (J_gdno rfl rfl rfl rfl (J_gdno rfl rfl rfl rfl ?_)))
        refine J_ungno rfl rfl rfl rfl ?_
        refine J_st (R_pickF rfl rfl) rfl (J_cutEnd ⟨rfl, rfl, rfl, congrArg (fun b => some (Value.bool b)) (show false = ((((win r.op 0 7) && (stampOk r.stamp)) && (win r.key 0 99)) && (win r.val 0 999)) by first | (rw [hg1, hg2] <;> rfl) | (simp [hg1, hg2]; done) | (simp only [nat_nlt] <;> simp)), trivial⟩ ⟨E, (by omega), h1⟩)
    · refine J_gdno rfl rfl rfl rfl (J_gdno rfl rfl rfl rfl ?_)
      refine J_ungno rfl rfl rfl rfl ?_
      refine J_st (R_pickF rfl rfl) rfl (J_st (R_move rfl) rfl (J_gdno rfl rfl rfl rfl (J_gdno rfl rfl rfl rfl ?_)))
      refine J_ungno rfl rfl rfl rfl ?_
      refine J_st (R_pickF rfl rfl) rfl (J_st (R_move rfl) rfl (J_gdno rfl rfl rfl rfl (J_gdno rfl rfl rfl rfl ?_)))
      refine J_ungno rfl rfl rfl rfl ?_
      refine J_st (R_pickF rfl rfl) rfl (J_cutEnd ⟨rfl, rfl, rfl, congrArg (fun b => some (Value.bool b)) (show false = ((((win r.op 0 7) && (stampOk r.stamp)) && (win r.key 0 99)) && (win r.val 0 999)) by first | (rw [hg1] <;> rfl) | (simp [hg1]; done) | (simp only [nat_nlt] <;> simp)), trivial⟩ ⟨E, (by omega), h1⟩)
  clear E h1
  rintro w3 ⟨E, z6, h1⟩
  refine J_st (R_assign rfl) rfl (J_done ?_)
  refine S_ret (E_done1 rfl rfl E ?_)
  simp [recordOk, Bool.and_assoc]

set_option maxRecDepth 20000 in
theorem c_isNode (cg : List Value) (g : Graph) (op : Int) (w : World) (hg : Dat.R w 0 w.heap.size cg g) : Ct Try.prog 45 [.agg cg.toArray, .int .i64 op] w (fun v _ => v = .bool (isNodeM g op)) := by
  refine ct_of Try.func45 rfl Try.ntmps45 rfl ?_
  obtain ⟨o1, rfl, hd1⟩ := Graph.op hg
  refine S_sub [(0, .agg [o1, .int .i64 g.workers, .int .i64 g.cap].toArray), (1, .int .i64 op)] ⟨rfl, rfl, trivial⟩ ?_
  have E : Ext w w := Ext.refl w
  refine S_seq ?_
  refine S_reg [false, true] rfl rfl ?_
  refine J_box rfl rfl (fun b1 w1 e1 s1 h1 => ?_)
  have g_b1 : w.heap.size ≤ b1 := by have := E.size; omega
  have y_b1 := h1.lt
  replace E := E.trans e1
  have z1 := e1.size
  refine J_st (R_assign rfl) rfl (J_done ?_)
  refine S_seq ?_
  refine S_reg [true, true, true, true, true, false, true] rfl rfl ?_
  refine J_st (R_move rfl) rfl (J_st (R_fieldAddr0 fl37_0 rfl) rfl (J_st (R_load sc35 rfl (h1.one 0 rfl)) rfl (J_st (R_len Try.underlying35 rfl (hd1.ext E).len) rfl (J_st (R_sub rfl rfl rfl) rfl ?_))))
  refine J_call Try.call29 rfl (c_within op 0 (IntKind.i64.wrap (((g.nodes.length : Nat) : Int) - 1)) _ ) rfl (fun _ w2 e2 hv => ?_)
  subst hv
  replace E := E.trans e2; replace h1 := h1.ext e2
  have z2 := e2.size
  refine J_st (R_assign rfl) rfl (J_done ?_)
  refine S_ret (E_done1 rfl rfl E ?_)
  have a1 := hd1.1.1
  unfold maxLen at a1
  rw [wrap_in (by omega) (by omega)]; rfl

set_option maxRecDepth 20000 in
theorem c_opsOk (cg : List Value) (g : Graph) (vxs : Value) (xs : List Record) (w : World) (hg : Dat.R w 0 w.heap.size cg g) (hxs : RdS w vxs xs) : Ct Try.prog 27 [.agg cg.toArray, vxs] w (fun v _ => v = .bool (xs.all (opOk g))) := by
  refine ct_of Try.func27 rfl Try.ntmps27 rfl ?_
  obtain ⟨o1, rfl, hd1⟩ := Graph.op hg
  refine S_sub [(0, .agg [o1, .int .i64 g.workers, .int .i64 g.cap].toArray), (1, vxs)] ⟨rfl, rfl, trivial⟩ ?_
  have E : Ext w w := Ext.refl w
  refine S_seq ?_
  refine S_reg [false, true] rfl rfl ?_
  refine J_box rfl rfl (fun b1 w1 e1 s1 h1 => ?_)
  have g_b1 : w.heap.size ≤ b1 := by have := E.size; omega
  have y_b1 := h1.lt
  replace E := E.trans e1
  have z1 := e1.size
  refine J_st (R_assign rfl) rfl (J_done ?_)
  refine S_seq ?_
  refine S_seq ?_
  refine S_reg [true, true, true] rfl rfl ?_
  refine J_st (R_move rfl) rfl (J_st (R_len Try.underlying39 rfl (hxs.ext E).len) rfl (J_st (R_move rfl) rfl (J_done ?_)))
  refine S_block ?_
  refine S_loop (fun (k : Nat) => [(2, .pointer (some ⟨b1, 0, none⟩)), (4, .bool false), (7, vxs), (8, .int .i64 ((xs.length : Nat) : Int)), (9, .int .i64 ((k : Nat) : Int))]) (fun (k : Nat) w' => Ext w w' ∧ w1.heap.size ≤ w'.heap.size ∧ Blk w' b1 ([o1, .int .i64 g.workers, .int .i64 g.cap]) ∧ k ≤ xs.length ∧ (xs.take k).all (opOk g) = true) (fun (k : Nat) => xs.length - k) 0 ⟨rfl, rfl, rfl, rfl, rfl, trivial⟩ ⟨E, Nat.le_refl _, h1, Nat.zero_le _, rfl⟩ ?_
  clear E h1
  rintro k w2 ⟨E, z2, h1, hk, hI⟩
  refine S_seq ?_
  refine S_reg [true] rfl rfl ?_
  refine J_st (R_lss rfl rfl) rfl (J_done ?_)
  refine S_seq ?_
  refine S_cond rfl (fun hc1 => ?_) (fun hc1 => ?_)
  · have hc1n : k < xs.length := by first | (have h := of_decide_eq_true hc1; omega) | (have h := hc1; simp at h; omega)
    refine S_skip ?_
    refine S_seq ?_
    refine S_block ?_
    refine S_seq ?_
    refine S_reg [true, true, false, false] rfl rfl ?_
    have hi1 : k < xs.length := (by first | assumption | omega)
    refine J_st (R_index (i := k) sl39 rfl rfl (hxs.ext E) hi1) rfl (J_st (R_loadS st59 rfl ((hxs.ext E).get hi1) rfl) rfl ?_)
    refine J_alloc st59 rfl (fun b2 w3 e2 s2 h2 => ?_)
    have g_b2 : w.heap.size ≤ b2 := by have := E.size; omega
    have y_b2 := h2.lt
    replace E := E.trans e2; replace h1 := h1.ext e2
    have z3 := e2.size
    refine J_storeS' (cs' := [.int .i64 ((xs[k]'hi1).op), .int .i64 (((xs[k]'hi1).stamp).epoch), .int .i64 (((xs[k]'hi1).stamp).turn), .int .i64 ((xs[k]'hi1).key), .int .i64 ((xs[k]'hi1).val)]) st59 rfl rfl rfl rfl h2 (Nat.le_of_ble_eq_true rfl) rfl (fun w4 m1 h2' => ?_)
    replace h2 := h2'
    replace E := E.step m1 (fun g hg => by cases hg; omega); replace h1 := h1.mod m1 (fun g hg => by cases hg; omega)
    have z4 := m1.size
    refine J_done ?_
    refine S_seq ?_
    refine S_reg [true, false, true, true, true, true, true, false, true, true] rfl rfl ?_
    refine J_st (R_loadS st59 rfl h2.at rfl) rfl ?_
    refine J_call Try.call44 rfl (c_RecordOk (xs[k]'hi1) _ ) rfl (fun _ w5 e3 hv => ?_)
    subst hv
    replace E := E.trans e3; replace h1 := h1.ext e3; replace h2 := h2.ext e3
    have z5 := e3.size
    refine J_st (R_not rfl) rfl (J_st (R_move rfl) rfl ?_)
    refine J_cut 6 [(2, .pointer (some ⟨b1, 0, none⟩)), (4, .bool false), (6, .pointer (some ⟨b2, 0, none⟩)), (7, vxs), (8, .int .i64 ((xs.length : Nat) : Int)), (9, .int .i64 ((k : Nat) : Int)), (10, .bool (decide (((k : Nat) : Int) < ((xs.length : Nat) : Int)))), (11, .pointer (some ⟨sblk vxs, soff vxs + k * 5, none⟩)), (12, .agg (Enc.enc (xs[k]'hi1)).toArray), (22, .bool ((!(recordOk (xs[k]'hi1))) || (!(isNodeM g ((xs[k]'hi1).op)))))] (fun w' => Ext w w' ∧ w5.heap.size ≤ w'.heap.size ∧ Blk w' b1 ([o1, .int .i64 g.workers, .int .i64 g.cap]) ∧ Blk w' b2 [.int .i64 ((xs[k]'hi1).op), .int .i64 (((xs[k]'hi1).stamp).epoch), .int .i64 (((xs[k]'hi1).stamp).turn), .int .i64 ((xs[k]'hi1).key), .int .i64 ((xs[k]'hi1).val)]) ?_ ?_
    · refine J_if (gd := 16) rfl rfl (fun hg1 => ?_) (fun hg1 => ?_)
      · refine J_gdno rfl rfl rfl rfl (J_gdno rfl rfl rfl rfl (J_gdno rfl rfl rfl rfl ?_))
        refine J_ungno rfl rfl rfl rfl ?_
        refine J_gdno rfl rfl rfl rfl (J_st (R_pickT rfl rfl) rfl (J_cutEnd ⟨rfl, rfl, rfl, rfl, rfl, rfl, rfl, rfl, rfl, congrArg (fun b => some (Value.bool b)) (show true = ((!(recordOk (xs[k]'hi1))) || (!(isNodeM g ((xs[k]'hi1).op)))) by first | (rw [hg1] <;> rfl) | (simp [hg1]; done) | (simp only [nat_nlt] <;> simp)), trivial⟩ ⟨E, (by omega), h1, h2⟩))
      · refine J_gd rfl rfl (R_loadS st37 rfl h1.at rfl) rfl (J_gd rfl rfl (R_fieldAddr0 fl59_0 rfl) rfl (J_gd rfl rfl (R_load sc3 rfl (h2.one 0 rfl)) rfl ?_))
        refine J_ung rfl rfl ?_
        refine J_call Try.call45 rfl (c_isNode [o1, .int .i64 g.workers, .int .i64 g.cap] g ((xs[k]'hi1).op) _ (Graph.mkR g (RdD.any (hd1.ext E)))) rfl (fun _ w7 e4 hv => ?_)
        subst hv
        replace E := E.trans e4; replace h1 := h1.ext e4; replace h2 := h2.ext e4
        have z6 := e4.size
        refine J_gd rfl rfl (R_not rfl) rfl (J_st (R_pickF rfl rfl) rfl (J_cutEnd ⟨rfl, rfl, rfl, rfl, rfl, rfl, rfl, rfl, rfl, congrArg (fun b => some (Value.bool b)) (show (!(isNodeM g ((xs[k]'hi1).op))) = ((!(recordOk (xs[k]'hi1))) || (!(isNodeM g ((xs[k]'hi1).op)))) by first | (rw [hg1] <;> rfl) | (simp [hg1]; done) | (simp only [nat_nlt] <;> simp)), trivial⟩ ⟨E, (by omega), h1, h2⟩))
    clear E h1 h2
    rintro w6 ⟨E, z7, h1, h2⟩
    refine J_done ?_
    refine S_cond rfl (fun hc2 => ?_) (fun hc2 => ?_)
    · refine S_seq ?_
      refine S_reg [true] rfl rfl ?_
      refine J_st (R_assign rfl) rfl (J_done ?_)
      refine S_ret (E_inB_ret (E_lp_ret (E_inB_ret (E_done1 rfl rfl E ?_))))
      exact all_no (by assumption) (kx hc2)
    · refine S_skip ?_
      refine S_nil (E_inB ?_)
      refine S_reg [true, true] rfl rfl ?_
      refine J_st (R_add rfl rfl (add_one hc1n hxs.1)) rfl (J_st (R_move rfl) rfl (J_done ?_))
      refine S_nil (E_again (k + 1) (by omega) ⟨rfl, rfl, rfl, rfl, rfl, trivial⟩ ⟨E, (by omega), h1, (by omega), all_step hI (by assumption) (ky hc2)⟩)
  · have hc1n : ¬ k < xs.length := by first | (have h := of_decide_eq_false hc1; omega) | (have h := hc1; simp at h; omega)
    refine S_exit (E_lp_exit (E_inB_exit ?_))
    refine S_seq ?_
    refine S_reg [true] rfl rfl ?_
    refine J_st (R_assign rfl) rfl (J_done ?_)
    refine S_ret (E_done1 rfl rfl E ?_)
    exact all_yes hI (by omega)

set_option maxRecDepth 20000 in
theorem s_l12Records (cg : List Value) (g : Graph) (vxs : Value) (xs : List Record) (w : World) (hg : Dat.R w 0 w.heap.size cg g) (hxs : RdS w vxs xs) : Ct Try.prog 18 [.agg cg.toArray, vxs] w (fun v _ => v = .bool (xs.all (opOk g))) := by
  refine ct_of Try.func18 rfl Try.ntmps18 rfl ?_
  obtain ⟨o1, rfl, hd1⟩ := Graph.op hg
  refine S_sub [(0, .agg [o1, .int .i64 g.workers, .int .i64 g.cap].toArray), (1, vxs)] ⟨rfl, rfl, trivial⟩ ?_
  have E : Ext w w := Ext.refl w
  refine S_seq ?_
  refine S_reg [false, true] rfl rfl ?_
  refine J_box rfl rfl (fun b1 w1 e1 s1 h1 => ?_)
  have g_b1 : w.heap.size ≤ b1 := by have := E.size; omega
  have y_b1 := h1.lt
  replace E := E.trans e1
  have z1 := e1.size
  refine J_st (R_assign rfl) rfl (J_done ?_)
  refine S_seq ?_
  refine S_seq ?_
  refine S_reg [true] rfl rfl ?_
  refine J_st (R_assign rfl) rfl (J_done ?_)
  refine S_block ?_
  refine S_loop (fun (k : Nat) => [(1, vxs), (2, .pointer (some ⟨b1, 0, none⟩)), (4, .bool false), (5, .int .i64 ((k : Nat) : Int))]) (fun (k : Nat) w' => Ext w w' ∧ w1.heap.size ≤ w'.heap.size ∧ Blk w' b1 ([o1, .int .i64 g.workers, .int .i64 g.cap]) ∧ k ≤ xs.length ∧ (xs.take k).all (opOk g) = true) (fun (k : Nat) => xs.length - k) 0 ⟨rfl, rfl, rfl, rfl, trivial⟩ ⟨E, Nat.le_refl _, h1, Nat.zero_le _, rfl⟩ ?_
  clear E h1
  rintro k w2 ⟨E, z2, h1, hk, hI⟩
  refine S_seq ?_
  refine S_seq ?_
  refine S_reg [true, true, true, true] rfl rfl ?_
  refine J_st (R_move rfl) rfl (J_st (R_move rfl) rfl (J_st (R_len Try.underlying39 rfl (hxs.ext E).len) rfl (J_st (R_lss rfl rfl) rfl (J_done ?_))))
  refine S_cond rfl (fun hc1 => ?_) (fun hc1 => ?_)
  · have hc1n : k < xs.length := by first | (have h := of_decide_eq_true hc1; omega) | (have h := hc1; simp at h; omega)
    refine S_skip ?_
    refine S_seq ?_
    refine S_block ?_
    refine S_seq ?_
    refine S_regD mixed [(0, true), (1, true), (2, true), (3, true), (4, false), (5, true), (6, true), (7, true), (8, true), (9, true), (10, true), (11, true), (12, true), (13, true), (14, true), (15, true), (16, true)] (by decide +kernel) rfl (fun w3 e2 => ?_)
    replace E := E.trans e2; replace h1 := h1.ext e2
    have z3 := e2.size
    refine J_st (R_move rfl) rfl (J_st (R_move rfl) rfl ?_)
    have hi1 : k < xs.length := (by first | assumption | omega)
    refine J_st (R_index (i := k) sl39 rfl rfl (hxs.ext E) hi1) rfl (J_st (R_loadS st59 rfl ((hxs.ext E).get hi1) rfl) rfl ?_)
    refine J_call Try.call38 rfl (s_RecordOk (xs[k]'hi1) _ ) rfl (fun _ w4 e3 hv => ?_)
    subst hv
    replace E := E.trans e3; replace h1 := h1.ext e3
    have z4 := e3.size
    refine J_st (R_not rfl) rfl (J_st (R_move rfl) rfl ?_)
    refine J_cut 10 [(1, vxs), (2, .pointer (some ⟨b1, 0, none⟩)), (4, .bool false), (5, .int .i64 ((k : Nat) : Int)), (6, .int .i64 ((k : Nat) : Int)), (7, vxs), (8, .int .i64 ((xs.length : Nat) : Int)), (9, .bool (decide (((k : Nat) : Int) < ((xs.length : Nat) : Int)))), (28, .bool ((!(recordOk (xs[k]'hi1))) || (decide (((g.nodes.length : Nat) : Int) ≤ ((xs[k]'hi1).op)))))] (fun w' => w4 = w') ?_ ?_
    · refine J_if (gd := 18) rfl rfl (fun hg1 => ?_) (fun hg1 => ?_)
      · refine J_gdno rfl rfl rfl rfl (J_gdno rfl rfl rfl rfl (J_gdno rfl rfl rfl rfl (J_gdno rfl rfl rfl rfl (J_gdno rfl rfl rfl rfl (J_gdno rfl rfl rfl rfl (J_gdno rfl rfl rfl rfl (J_gdno rfl rfl rfl rfl (J_gdno rfl rfl rfl rfl (J_st (R_pickT rfl rfl) rfl (J_cutEnd ⟨rfl, rfl, rfl, rfl, rfl, rfl, rfl, rfl, congrArg (fun b => some (Value.bool b)) (show true = ((!(recordOk (xs[k]'hi1))) || (decide (((g.nodes.length : Nat) : Int) ≤ ((xs[k]'hi1).op)))) by first | (rw [hg1] <;> rfl) | (simp [hg1]; done) | (simp only [nat_nlt] <;> simp)), trivial⟩ rfl))))))))))
      · refine J_gd rfl rfl (R_move rfl) rfl (J_gd rfl rfl (R_move rfl) rfl (J_gd rfl rfl (R_index (i := k) sl39 rfl rfl (hxs.ext E) hi1) rfl (J_gd rfl rfl (R_fieldAddr fl59_0 rfl) rfl (J_gd rfl rfl (R_load sc3 rfl (((hxs.ext E).get hi1).one 0 rfl)) rfl (J_gd rfl rfl (R_fieldAddr0 fl37_0 rfl) rfl (J_gd rfl rfl (R_load sc35 rfl (h1.one 0 rfl)) rfl (J_gd rfl rfl (R_len Try.underlying35 rfl (hd1.ext E).len) rfl (J_gd rfl rfl (R_geq rfl rfl) rfl (J_st (R_pickF rfl rfl) rfl (J_cutEnd ⟨rfl, rfl, rfl, rfl, rfl, rfl, rfl, rfl, congrArg (fun b => some (Value.bool b)) (show (decide (((g.nodes.length : Nat) : Int) ≤ ((xs[k]'hi1).op))) = ((!(recordOk (xs[k]'hi1))) || (decide (((g.nodes.length : Nat) : Int) ≤ ((xs[k]'hi1).op)))) by first | (rw [hg1] <;> rfl) | (simp [hg1]; done) | (simp only [nat_nlt] <;> simp)), trivial⟩ rfl))))))))))
    rintro _ rfl
    refine J_done ?_
    refine S_cond rfl (fun hc2 => ?_) (fun hc2 => ?_)
    · refine S_seq ?_
      refine S_reg [true] rfl rfl ?_
      refine J_st (R_assign rfl) rfl (J_done ?_)
      refine S_ret (E_inB_ret (E_lp_ret (E_inB_ret (E_done1 rfl rfl E ?_))))
      exact all_no (by assumption) (op_no hc2)
    · refine S_skip ?_
      refine S_nil (E_inB ?_)
      refine S_reg [true, true, true] rfl rfl ?_
      refine J_st (R_move rfl) rfl (J_st (R_add rfl rfl (add_one hc1n hxs.1)) rfl (J_st (R_assign rfl) rfl (J_done ?_)))
      refine S_nil (E_again (k + 1) (by omega) ⟨rfl, rfl, rfl, rfl, trivial⟩ ⟨E, (by omega), h1, (by omega), all_step hI (by assumption) (op_yes hc2)⟩)
  · have hc1n : ¬ k < xs.length := by first | (have h := of_decide_eq_false hc1; omega) | (have h := hc1; simp at h; omega)
    refine S_exit (E_lp_exit (E_inB_exit ?_))
    refine S_seq ?_
    refine S_reg [true] rfl rfl ?_
    refine J_st (R_assign rfl) rfl (J_done ?_)
    refine S_ret (E_done1 rfl rfl E ?_)
    exact all_yes hI (by omega)

end Go.Proofs.Ytdeahjinpceiaaa
