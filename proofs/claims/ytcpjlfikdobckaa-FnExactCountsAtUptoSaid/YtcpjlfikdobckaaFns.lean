/- What the functions that the laws call come to: a contract each; no condition. -/
import Derived.Test.YtcpjlfikdobckaaTypes
import Derived.Test.YtcpjlfikdobckaaSort
import Derived.Test.YtcpjlfikdobckaaLay
namespace Go.Proofs.Ytcpjlfikdobckaa
open Go Go.Proofs.Ytcpjlfikdobckaa.X Go.Proofs
set_option maxRecDepth 20000 in
theorem c_l02Order (a : Int) (b : Int) (w : World)  : Ct Try.prog 56 [.int .i64 a, .int .i64 b] w (fun v _ => v = .int .i64 (ordI a b)) := by
  refine ct_of Try.func56 rfl Try.ntmps56 rfl ?_
  refine S_sub [(0, .int .i64 a), (1, .int .i64 b)] ⟨rfl, rfl, trivial⟩ ?_
  have E : Ext w w := Ext.refl w
  refine S_seq ?_
  refine S_reg [true] rfl rfl ?_
  refine J_st (R_assign rfl) rfl (J_done ?_)
  refine S_seq ?_
  refine S_block ?_
  refine S_seq ?_
  refine S_reg [true, true, true, true] rfl rfl ?_
  refine J_st (R_move rfl) rfl (J_st (R_move rfl) rfl (J_st (R_lss rfl rfl) rfl (J_st (R_assign rfl) rfl (J_done ?_))))
  refine S_cond rfl (fun hc1 => ?_) (fun hc1 => ?_)
  · refine S_seq ?_
    refine S_reg [true] rfl rfl ?_
    refine J_st (R_assign rfl) rfl (J_done ?_)
    refine S_ret (E_inB_ret (E_done1 rfl rfl E ?_))
    refine congrArg (Value.int .i64) ?_
    simp at *
    unfold ordI; (repeat' split) <;> first | rfl | omega
  · refine S_seq ?_
    refine S_reg [true, true, true, true] rfl rfl ?_
    refine J_st (R_move rfl) rfl (J_st (R_move rfl) rfl (J_st (R_gtr rfl rfl) rfl (J_st (R_assign rfl) rfl (J_done ?_))))
    refine S_cond rfl (fun hc2 => ?_) (fun hc2 => ?_)
    · refine S_seq ?_
      refine S_reg [true] rfl rfl ?_
      refine J_st (R_assign rfl) rfl (J_done ?_)
      refine S_ret (E_inB_ret (E_done1 rfl rfl E ?_))
      refine congrArg (Value.int .i64) ?_
      simp at *
      unfold ordI; (repeat' split) <;> first | rfl | omega
    · refine S_skip ?_
      refine S_nil (E_inB ?_)
      refine S_seq ?_
      refine S_reg [true] rfl rfl ?_
      refine J_st (R_assign rfl) rfl (J_done ?_)
      refine S_ret (E_done1 rfl rfl E ?_)
      refine congrArg (Value.int .i64) ?_
      simp at *
      unfold ordI; (repeat' split) <;> first | rfl | omega

set_option maxRecDepth 20000 in
theorem c_toCell (x : Cell) (w : World)  : Ct Try.prog 39 [.agg (Enc.enc x).toArray] w (fun v _ => v = .agg (Enc.enc x).toArray) := by
  refine ct_of Try.func39 rfl Try.ntmps39 rfl ?_
  refine S_sub [(0, .agg (Enc.enc x).toArray)] ⟨rfl, trivial⟩ ?_
  have E : Ext w w := Ext.refl w
  refine S_seq ?_
  refine S_reg [false, false] rfl rfl ?_
  refine J_box rfl rfl (fun b1 w1 e1 s1 h1 => ?_)
  have g_b1 : w.heap.size ≤ b1 := by have := E.size; omega
  have y_b1 := h1.lt
  replace E := E.trans e1
  have z1 := e1.size
  refine J_alloc st77 rfl (fun b2 w2 e2 s2 h2 => ?_)
  have g_b2 : w.heap.size ≤ b2 := by have := E.size; omega
  have y_b2 := h2.lt
  replace E := E.trans e2; replace h1 := h1.ext e2
  have z2 := e2.size
  refine J_done ?_
  refine S_seq ?_
  refine S_reg [false] rfl rfl ?_
  refine J_alloc st77 rfl (fun b3 w3 e3 s3 h3 => ?_)
  have g_b3 : w.heap.size ≤ b3 := by have := E.size; omega
  have y_b3 := h3.lt
  replace E := E.trans e3; replace h1 := h1.ext e3; replace h2 := h2.ext e3
  have z3 := e3.size
  refine J_done ?_
  refine S_seq ?_
  refine S_reg [true, true, true, false] rfl rfl ?_
  refine J_st (R_fieldAddr0 fl79_0 rfl) rfl (J_st (R_load sc3 rfl (h1.one 0 rfl)) rfl (J_st (R_fieldAddr0 fl77_0 rfl) rfl ?_))
  refine J_store' (cs' := [.int .i64 x.op, .int .i64 0, .int .i64 0, .int .i64 0]) sc3 rfl rfl rfl h3 (Nat.le_of_ble_eq_true rfl) rfl (fun w4 m1 h3' => ?_)
  replace h3 := h3'
  replace E := E.step m1 (fun g hg => by cases hg; omega); replace h1 := h1.mod m1 (fun g hg => by cases hg; omega); replace h2 := h2.mod m1 (fun g hg => by cases hg; omega)
  have z4 := m1.size
  refine J_done ?_
  refine S_seq ?_
  refine S_reg [true, true, true, false] rfl rfl ?_
  refine J_st (R_fieldAddr0 fl79_1 rfl) rfl (J_st (R_load sc3 rfl (h1.one 1 rfl)) rfl (J_st (R_fieldAddr0 fl77_1 rfl) rfl ?_))
  refine J_store' (cs' := [.int .i64 x.op, .int .i64 x.epoch, .int .i64 0, .int .i64 0]) sc3 rfl rfl rfl h3 (Nat.le_of_ble_eq_true rfl) rfl (fun w5 m2 h3' => ?_)
  replace h3 := h3'
  replace E := E.step m2 (fun g hg => by cases hg; omega); replace h1 := h1.mod m2 (fun g hg => by cases hg; omega); replace h2 := h2.mod m2 (fun g hg => by cases hg; omega)
  have z5 := m2.size
  refine J_done ?_
  refine S_seq ?_
  refine S_reg [true, true, true, false] rfl rfl ?_
  refine J_st (R_fieldAddr0 fl79_2 rfl) rfl (J_st (R_load sc3 rfl (h1.one 2 rfl)) rfl (J_st (R_fieldAddr0 fl77_2 rfl) rfl ?_))
  refine J_store' (cs' := [.int .i64 x.op, .int .i64 x.epoch, .int .i64 x.key, .int .i64 0]) sc3 rfl rfl rfl h3 (Nat.le_of_ble_eq_true rfl) rfl (fun w6 m3 h3' => ?_)
  replace h3 := h3'
  replace E := E.step m3 (fun g hg => by cases hg; omega); replace h1 := h1.mod m3 (fun g hg => by cases hg; omega); replace h2 := h2.mod m3 (fun g hg => by cases hg; omega)
  have z6 := m3.size
  refine J_done ?_
  refine S_seq ?_
  refine S_reg [true, true, true, false] rfl rfl ?_
  refine J_st (R_fieldAddr0 fl79_3 rfl) rfl (J_st (R_load sc3 rfl (h1.one 3 rfl)) rfl (J_st (R_fieldAddr0 fl77_3 rfl) rfl ?_))
  refine J_store' (cs' := [.int .i64 x.op, .int .i64 x.epoch, .int .i64 x.key, .int .i64 x.val]) sc3 rfl rfl rfl h3 (Nat.le_of_ble_eq_true rfl) rfl (fun w7 m4 h3' => ?_)
  replace h3 := h3'
  replace E := E.step m4 (fun g hg => by cases hg; omega); replace h1 := h1.mod m4 (fun g hg => by cases hg; omega); replace h2 := h2.mod m4 (fun g hg => by cases hg; omega)
  have z7 := m4.size
  refine J_done ?_
  refine S_seq ?_
  refine S_reg [true, false] rfl rfl ?_
  refine J_st (R_loadS st77 rfl h3.at rfl) rfl ?_
  refine J_storeS' (cs' := [.int .i64 x.op, .int .i64 x.epoch, .int .i64 x.key, .int .i64 x.val]) st77 rfl rfl rfl rfl h2 (Nat.le_of_ble_eq_true rfl) rfl (fun w8 m5 h2' => ?_)
  replace h2 := h2'
  replace E := E.step m5 (fun g hg => by cases hg; omega); replace h1 := h1.mod m5 (fun g hg => by cases hg; omega); replace h3 := h3.mod m5 (fun g hg => by cases hg; omega)
  have z8 := m5.size
  refine J_done ?_
  refine S_ret (E_doneC rfl rfl (run_loadVar_st st77 h2.at rfl) E ?_)
  rfl

set_option maxRecDepth 20000 in
theorem c_eqCell (x : Cell) (y : Cell) (w : World)  : Ct Try.prog 45 [.agg (Enc.enc x).toArray, .agg (Enc.enc y).toArray] w (fun v _ => v = .bool (decide (x = y))) := by
  refine ct_of Try.func45 rfl Try.ntmps45 rfl ?_
  refine S_sub [(0, .agg (Enc.enc x).toArray), (1, .agg (Enc.enc y).toArray)] ⟨rfl, rfl, trivial⟩ ?_
  have E : Ext w w := Ext.refl w
  refine S_seq ?_
  refine S_reg [false, false, true] rfl rfl ?_
  refine J_box rfl rfl (fun b1 w1 e1 s1 h1 => ?_)
  have g_b1 : w.heap.size ≤ b1 := by have := E.size; omega
  have y_b1 := h1.lt
  replace E := E.trans e1
  have z1 := e1.size
  refine J_box rfl rfl (fun b2 w2 e2 s2 h2 => ?_)
  have g_b2 : w.heap.size ≤ b2 := by have := E.size; omega
  have y_b2 := h2.lt
  replace E := E.trans e2; replace h1 := h1.ext e2
  have z2 := e2.size
  refine J_st (R_assign rfl) rfl (J_done ?_)
  refine S_seq ?_
  refine S_seq ?_
  refine S_reg [true, true, true, true, true] rfl rfl ?_
  refine J_st (R_fieldAddr0 fl77_0 rfl) rfl (J_st (R_load sc3 rfl (h1.one 0 rfl)) rfl (J_st (R_fieldAddr0 fl77_0 rfl) rfl (J_st (R_load sc3 rfl (h2.one 0 rfl)) rfl (J_st (R_neq rfl rfl) rfl (J_done ?_)))))
  refine S_cond rfl (fun hc1 => ?_) (fun hc1 => ?_)
  · refine S_seq ?_
    refine S_reg [true] rfl rfl ?_
    refine J_st (R_assign rfl) rfl (J_done ?_)
    refine S_ret (E_done1 rfl rfl E ?_)
    cases x; cases y; simp_all
  · refine S_skip ?_
    refine S_seq ?_
    refine S_seq ?_
    refine S_reg [true, true, true, true, true] rfl rfl ?_
    refine J_st (R_fieldAddr0 fl77_1 rfl) rfl (J_st (R_load sc3 rfl (h1.one 1 rfl)) rfl (J_st (R_fieldAddr0 fl77_1 rfl) rfl (J_st (R_load sc3 rfl (h2.one 1 rfl)) rfl (J_st (R_neq rfl rfl) rfl (J_done ?_)))))
    refine S_cond rfl (fun hc2 => ?_) (fun hc2 => ?_)
    · refine S_seq ?_
      refine S_reg [true] rfl rfl ?_
      refine J_st (R_assign rfl) rfl (J_done ?_)
      refine S_ret (E_done1 rfl rfl E ?_)
      cases x; cases y; simp_all
    · refine S_skip ?_
      refine S_seq ?_
      refine S_seq ?_
      refine S_reg [true, true, true, true, true] rfl rfl ?_
      refine J_st (R_fieldAddr0 fl77_2 rfl) rfl (J_st (R_load sc3 rfl (h1.one 2 rfl)) rfl (J_st (R_fieldAddr0 fl77_2 rfl) rfl (J_st (R_load sc3 rfl (h2.one 2 rfl)) rfl (J_st (R_neq rfl rfl) rfl (J_done ?_)))))
      refine S_cond rfl (fun hc3 => ?_) (fun hc3 => ?_)
      · refine S_seq ?_
        refine S_reg [true] rfl rfl ?_
        refine J_st (R_assign rfl) rfl (J_done ?_)
        refine S_ret (E_done1 rfl rfl E ?_)
        cases x; cases y; simp_all
      · refine S_skip ?_
        refine S_seq ?_
        refine S_seq ?_
        refine S_reg [true, true, true, true, true] rfl rfl ?_
        refine J_st (R_fieldAddr0 fl77_3 rfl) rfl (J_st (R_load sc3 rfl (h1.one 3 rfl)) rfl (J_st (R_fieldAddr0 fl77_3 rfl) rfl (J_st (R_load sc3 rfl (h2.one 3 rfl)) rfl (J_st (R_neq rfl rfl) rfl (J_done ?_)))))
        refine S_cond rfl (fun hc4 => ?_) (fun hc4 => ?_)
        · refine S_seq ?_
          refine S_reg [true] rfl rfl ?_
          refine J_st (R_assign rfl) rfl (J_done ?_)
          refine S_ret (E_done1 rfl rfl E ?_)
          cases x; cases y; simp_all
        · refine S_skip ?_
          refine S_seq ?_
          refine S_reg [true] rfl rfl ?_
          refine J_st (R_assign rfl) rfl (J_done ?_)
          refine S_ret (E_done1 rfl rfl E ?_)
          cases x; cases y; simp_all

set_option maxRecDepth 20000 in
theorem c_szCellS (vxs : Value) (xs : List Cell) (n : Int) (w : World) (hxs : RdS w vxs xs) (h0 : 0 ≤ n ∧ n ≤ 1048576) : Ct Try.prog 14 [vxs, .int .i64 n] w (fun v _ => v = .int .i64 (szM xs.length n)) := by
  refine ct_of Try.func14 rfl Try.ntmps14 rfl ?_
  refine S_sub [(0, vxs), (1, .int .i64 n)] ⟨rfl, rfl, trivial⟩ ?_
  have E : Ext w w := Ext.refl w
  refine S_seq ?_
  refine S_reg [true] rfl rfl ?_
  refine J_st (R_assign rfl) rfl (J_done ?_)
  refine S_seq ?_
  refine S_reg [true, true, true, true, true] rfl rfl ?_
  refine J_st (R_move rfl) rfl (J_st (R_move rfl) rfl (J_st (R_len Try.underlying23 rfl (hxs.ext E).len) rfl (J_st (R_sub rfl rfl rfl) rfl (J_st (R_assign rfl) rfl (J_done ?_)))))
  refine S_seq ?_
  refine S_seq ?_
  refine S_reg [true, true] rfl rfl ?_
  refine J_st (R_move rfl) rfl (J_st (R_lss rfl rfl) rfl (J_done ?_))
  refine S_cond rfl (fun hc1 => ?_) (fun hc1 => ?_)
  · refine S_seq ?_
    refine S_reg [true] rfl rfl ?_
    refine J_st (R_assign rfl) rfl (J_done ?_)
    refine S_ret (E_done1 rfl rfl E ?_)
    exact sz_no h0.2 h0.1 hxs.1 hc1
  · refine S_skip ?_
    refine S_seq ?_
    refine S_reg [true, true] rfl rfl ?_
    refine J_st (R_move rfl) rfl (J_st (R_assign rfl) rfl (J_done ?_))
    refine S_ret (E_done1 rfl rfl E ?_)
    exact sz_yes h0.2 h0.1 hxs.1 hc1

set_option maxRecDepth 20000 in
theorem c_eqCellS (vxs : Value) (xs : List Cell) (vys : Value) (ys : List Cell) (w : World) (hxs : RdS w vxs xs) (hys : RdS w vys ys) : Ct Try.prog 28 [vxs, vys] w (fun v _ => v = .bool (decide (xs = ys))) := by
  refine ct_of Try.func28 rfl Try.ntmps28 rfl ?_
  refine S_sub [(0, vxs), (1, vys)] ⟨rfl, rfl, trivial⟩ ?_
  have E : Ext w w := Ext.refl w
  refine S_seq ?_
  refine S_reg [true] rfl rfl ?_
  refine J_st (R_assign rfl) rfl (J_done ?_)
  refine S_seq ?_
  refine S_seq ?_
  refine S_reg [true, true, true, true, true] rfl rfl ?_
  refine J_st (R_move rfl) rfl (J_st (R_len Try.underlying33 rfl (hxs.ext E).len) rfl (J_st (R_move rfl) rfl (J_st (R_len Try.underlying33 rfl (hys.ext E).len) rfl (J_st (R_neq rfl rfl) rfl (J_done ?_)))))
  refine S_cond rfl (fun hc1 => ?_) (fun hc1 => ?_)
  · have hc1n : ¬ xs.length = ys.length := by first | (have h := of_decide_eq_true hc1; omega) | (have h := hc1; simp at h; omega)
    refine S_seq ?_
    refine S_reg [true] rfl rfl ?_
    refine J_st (R_assign rfl) rfl (J_done ?_)
    refine S_ret (E_done1 rfl rfl E ?_)
    simp [eq_len hc1n]
  · have hc1n : xs.length = ys.length := by first | (have h := of_decide_eq_false hc1; omega) | (have h := hc1; simp at h; omega)
    refine S_skip ?_
    refine S_seq ?_
    refine S_seq ?_
    refine S_reg [true] rfl rfl ?_
    refine J_st (R_assign rfl) rfl (J_done ?_)
    refine S_block ?_
    refine S_loop (fun (k : Nat) => [(0, vxs), (1, vys), (4, .bool false), (5, .int .i64 ((k : Nat) : Int))]) (fun (k : Nat) w' => Ext w w' ∧ w.heap.size ≤ w'.heap.size ∧ k ≤ xs.length ∧ xs.take k = ys.take k) (fun (k : Nat) => xs.length - k) 0 ⟨rfl, rfl, rfl, rfl, trivial⟩ ⟨E, Nat.le_refl _, Nat.zero_le _, rfl⟩ ?_
    clear E
    rintro k w1 ⟨E, z1, hk, hp⟩
    refine S_seq ?_
    refine S_seq ?_
    refine S_reg [true, true, true, true] rfl rfl ?_
    refine J_st (R_move rfl) rfl (J_st (R_move rfl) rfl (J_st (R_len Try.underlying33 rfl (hxs.ext E).len) rfl (J_st (R_lss rfl rfl) rfl (J_done ?_))))
    refine S_cond rfl (fun hc2 => ?_) (fun hc2 => ?_)
    · have hc2n : k < xs.length := by first | (have h := of_decide_eq_true hc2; omega) | (have h := hc2; simp at h; omega)
      refine S_skip ?_
      refine S_seq ?_
      refine S_block ?_
      refine S_seq ?_
      refine S_regD mixed [(0, true), (1, true), (2, true), (3, true), (4, true), (5, true), (6, true), (7, true), (8, false), (9, true)] (by decide +kernel) rfl (fun w2 e1 => ?_)
      replace E := E.trans e1
      have z2 := e1.size
      refine J_st (R_move rfl) rfl (J_st (R_move rfl) rfl ?_)
      have hi1 : k < xs.length := (by first | assumption | omega | (simp only [List.length_set]; first | assumption | omega) | (simp only [List.getElem_set_self, List.length_set]; first | assumption | omega) | (simp only [setW, setLk, List.length_set]; first | assumption | omega) | (simp; done))
      refine J_st (R_index (i := k) sl33 rfl rfl (hxs.ext E) hi1) rfl (J_st (R_loadS st77 rfl ((hxs.ext E).get hi1) rfl) rfl (J_st (R_move rfl) rfl (J_st (R_move rfl) rfl ?_)))
      have hi2 : k < ys.length := (by first | assumption | omega | (simp only [List.length_set]; first | assumption | omega) | (simp only [List.getElem_set_self, List.length_set]; first | assumption | omega) | (simp only [setW, setLk, List.length_set]; first | assumption | omega) | (simp; done))
      refine J_st (R_index (i := k) sl33 rfl rfl (hys.ext E) hi2) rfl (J_st (R_loadS st77 rfl ((hys.ext E).get hi2) rfl) rfl ?_)
      refine J_call Try.call45 rfl (c_eqCell (xs[k]'hi1) (ys[k]'hi2) _ ) rfl (fun _ w3 e2 hv => ?_)
      subst hv
      replace E := E.trans e2
      have z3 := e2.size
      refine J_st (R_not rfl) rfl (J_done ?_)
      refine S_cond rfl (fun hc3 => ?_) (fun hc3 => ?_)
      · refine S_seq ?_
        refine S_reg [true] rfl rfl ?_
        refine J_st (R_assign rfl) rfl (J_done ?_)
        refine S_ret (E_inB_ret (E_lp_ret (E_inB_ret (E_done1 rfl rfl E ?_))))
        exact eqS_no (by omega) (by omega) (by simpa using hc3)
      · refine S_skip ?_
        refine S_nil (E_inB ?_)
        refine S_reg [true, true, true] rfl rfl ?_
        refine J_st (R_move rfl) rfl (J_st (R_add rfl rfl (add_one hc2n hxs.1)) rfl (J_st (R_assign rfl) rfl (J_done ?_)))
        refine S_nil (E_again (k + 1) (by omega) ⟨rfl, rfl, rfl, rfl, trivial⟩ ⟨E, (by omega), (by omega), eqS_step hp (by assumption) (by omega) (by simpa using hc3)⟩)
    · have hc2n : ¬ k < xs.length := by first | (have h := of_decide_eq_false hc2; omega) | (have h := hc2; simp at h; omega)
      refine S_exit (E_lp_exit (E_inB_exit ?_))
      refine S_seq ?_
      refine S_reg [true] rfl rfl ?_
      refine J_st (R_assign rfl) rfl (J_done ?_)
      refine S_ret (E_done1 rfl rfl E ?_)
      exact eqS_yes hp hc1n (by omega)

set_option maxRecDepth 20000 in
theorem c_isNaN (a : Int) (w : World)  : Ct Try.prog 79 [.int .i64 a] w (fun v _ => v = .bool false) := by
  refine ct_of Try.func79 rfl Try.ntmps79 rfl ?_
  refine S_sub [(0, .int .i64 a)] ⟨rfl, trivial⟩ ?_
  have E : Ext w w := Ext.refl w
  refine S_seq ?_
  refine S_reg [true] rfl rfl ?_
  refine J_st (R_assign rfl) rfl (J_done ?_)
  refine S_seq ?_
  refine S_reg [true, true, true, true] rfl rfl ?_
  refine J_st (R_move rfl) rfl (J_st (R_move rfl) rfl (J_st (R_neq rfl rfl) rfl (J_st (R_assign rfl) rfl (J_done ?_))))
  refine S_ret (E_done1 rfl rfl E ?_)
  simp

set_option maxRecDepth 20000 in
theorem c_cmpCompare (a : Int) (b : Int) (w : World)  : Ct Try.prog 77 [.int .i64 a, .int .i64 b] w (fun v _ => v = .int .i64 (ordI a b)) := by
  refine ct_of Try.func77 rfl Try.ntmps77 rfl ?_
  refine S_sub [(0, .int .i64 a), (1, .int .i64 b)] ⟨rfl, rfl, trivial⟩ ?_
  have E : Ext w w := Ext.refl w
  refine S_seq ?_
  refine S_reg [true] rfl rfl ?_
  refine J_st (R_assign rfl) rfl (J_done ?_)
  refine S_seq ?_
  refine S_reg [true, false, true] rfl rfl ?_
  refine J_st (R_move rfl) rfl ?_
  refine J_call Try.call79 rfl (c_isNaN a _ ) rfl (fun _ w1 e1 hv => ?_)
  subst hv
  replace E := E.trans e1
  have z1 := e1.size
  refine J_st (R_assign rfl) rfl (J_done ?_)
  refine S_seq ?_
  refine S_reg [true, false, true] rfl rfl ?_
  refine J_st (R_move rfl) rfl ?_
  refine J_call Try.call79 rfl (c_isNaN b _ ) rfl (fun _ w2 e2 hv => ?_)
  subst hv
  replace E := E.trans e2
  have z2 := e2.size
  refine J_st (R_assign rfl) rfl (J_done ?_)
  refine S_seq ?_
  refine S_seq ?_
  refine S_reg [true] rfl rfl ?_
  refine J_st (R_move rfl) rfl (J_done ?_)
  refine S_condF rfl ?_
  refine S_skip ?_
  refine S_seq ?_
  refine S_seq ?_
  refine S_reg [true] rfl rfl ?_
  refine J_st (R_move rfl) rfl (J_done ?_)
  refine S_condF rfl ?_
  refine S_skip ?_
  refine S_seq ?_
  refine S_seq ?_
  refine S_reg [true, true, true] rfl rfl ?_
  refine J_st (R_move rfl) rfl (J_st (R_move rfl) rfl (J_st (R_lss rfl rfl) rfl (J_done ?_)))
  refine S_cond rfl (fun hc1 => ?_) (fun hc1 => ?_)
  · refine S_seq ?_
    refine S_reg [true] rfl rfl ?_
    refine J_st (R_assign rfl) rfl (J_done ?_)
    refine S_ret (E_done1 rfl rfl E ?_)
    refine congrArg (Value.int .i64) ?_
    simp at *
    unfold ordI; (repeat' split) <;> first | rfl | omega
  · refine S_skip ?_
    refine S_seq ?_
    refine S_seq ?_
    refine S_reg [true, true, true] rfl rfl ?_
    refine J_st (R_move rfl) rfl (J_st (R_move rfl) rfl (J_st (R_gtr rfl rfl) rfl (J_done ?_)))
    refine S_cond rfl (fun hc2 => ?_) (fun hc2 => ?_)
    · refine S_seq ?_
      refine S_reg [true] rfl rfl ?_
      refine J_st (R_assign rfl) rfl (J_done ?_)
      refine S_ret (E_done1 rfl rfl E ?_)
      refine congrArg (Value.int .i64) ?_
      simp at *
      unfold ordI; (repeat' split) <;> first | rfl | omega
    · refine S_skip ?_
      refine S_seq ?_
      refine S_reg [true] rfl rfl ?_
      refine J_st (R_assign rfl) rfl (J_done ?_)
      refine S_ret (E_done1 rfl rfl E ?_)
      refine congrArg (Value.int .i64) ?_
      simp at *
      unfold ordI; (repeat' split) <;> first | rfl | omega

set_option maxRecDepth 20000 in
theorem c_slicesCompare (vxs : Value) (xs : List Int) (vys : Value) (ys : List Int) (w : World) (hxs : RdS w vxs xs) (hys : RdS w vys ys) : Ct Try.prog 71 [vxs, vys] w (fun v _ => v = .int .i64 (cmpL xs ys)) := by
  refine ct_of Try.func71 rfl Try.ntmps71 rfl ?_
  refine S_sub [(0, vxs), (1, vys)] ⟨rfl, rfl, trivial⟩ ?_
  have E : Ext w w := Ext.refl w
  refine S_seq ?_
  refine S_reg [true] rfl rfl ?_
  refine J_st (R_assign rfl) rfl (J_done ?_)
  refine S_seq ?_
  refine S_seq ?_
  refine S_reg [true, true, true] rfl rfl ?_
  refine J_st (R_move rfl) rfl (J_st (R_len Try.underlying24 rfl (hxs.ext E).len) rfl (J_st (R_move rfl) rfl (J_done ?_)))
  refine S_block ?_
  refine S_loop (fun (k : Nat) => [(0, vxs), (1, vys), (4, .int .i64 0), (9, vxs), (10, .int .i64 ((xs.length : Nat) : Int)), (11, .int .i64 ((k : Nat) : Int))]) (fun (k : Nat) w' => Ext w w' ∧ w.heap.size ≤ w'.heap.size ∧ k ≤ xs.length ∧ k ≤ ys.length ∧ cmpL (xs.drop k) (ys.drop k) = cmpL xs ys) (fun (k : Nat) => xs.length - k) 0 ⟨rfl, rfl, rfl, rfl, rfl, rfl, trivial⟩ ⟨E, Nat.le_refl _, Nat.zero_le _, Nat.zero_le _, rfl⟩ ?_
  clear E
  rintro k w1 ⟨E, z1, hk, hky, hI⟩
  refine S_seq ?_
  refine S_reg [true] rfl rfl ?_
  refine J_st (R_lss rfl rfl) rfl (J_done ?_)
  refine S_seq ?_
  refine S_cond rfl (fun hc1 => ?_) (fun hc1 => ?_)
  · have hc1n : k < xs.length := by first | (have h := of_decide_eq_true hc1; omega) | (have h := hc1; simp at h; omega)
    refine S_skip ?_
    refine S_seq ?_
    refine S_block ?_
    refine S_seq ?_
    refine S_reg [true, true, true, true, true] rfl rfl ?_
    refine J_st (R_move rfl) rfl ?_
    have hi1 : k < xs.length := (by first | assumption | omega | (simp only [List.length_set]; first | assumption | omega) | (simp only [List.getElem_set_self, List.length_set]; first | assumption | omega) | (simp only [setW, setLk, List.length_set]; first | assumption | omega) | (simp; done))
    refine J_st (R_index (i := k) sl24 rfl rfl (hxs.ext E) hi1) rfl (J_st (R_load sc3 rfl (((hxs.ext E).get hi1).one 0 rfl)) rfl (J_st (R_assign rfl) rfl (J_st (R_assign rfl) rfl (J_done ?_))))
    refine S_seq ?_
    refine S_seq ?_
    refine S_reg [true, true, true, true] rfl rfl ?_
    refine J_st (R_move rfl) rfl (J_st (R_move rfl) rfl (J_st (R_len Try.underlying24 rfl (hys.ext E).len) rfl (J_st (R_geq rfl rfl) rfl (J_done ?_))))
    refine S_cond rfl (fun hc2 => ?_) (fun hc2 => ?_)
    · have hc2n : k ≥ ys.length := by first | (have h := of_decide_eq_true hc2; omega) | (have h := hc2; simp at h; omega)
      refine S_seq ?_
      refine S_reg [true] rfl rfl ?_
      refine J_st (R_assign rfl) rfl (J_done ?_)
      refine S_ret (E_inB_ret (E_lp_ret (E_inB_ret (E_done1 rfl rfl E ?_))))
      exact cmpL_1 hI (by omega) (by omega)
    · have hc2n : ¬ k ≥ ys.length := by first | (have h := of_decide_eq_false hc2; omega) | (have h := hc2; simp at h; omega)
      refine S_skip ?_
      refine S_seq ?_
      refine S_reg [true, true, true, true, true] rfl rfl ?_
      refine J_st (R_move rfl) rfl (J_st (R_move rfl) rfl ?_)
      have hi2 : k < ys.length := (by first | assumption | omega | (simp only [List.length_set]; first | assumption | omega) | (simp only [List.getElem_set_self, List.length_set]; first | assumption | omega) | (simp only [setW, setLk, List.length_set]; first | assumption | omega) | (simp; done))
      refine J_st (R_index (i := k) sl24 rfl rfl (hys.ext E) hi2) rfl (J_st (R_load sc3 rfl (((hys.ext E).get hi2).one 0 rfl)) rfl (J_st (R_assign rfl) rfl (J_done ?_)))
      refine S_seq ?_
      refine S_reg [true, true, false, true] rfl rfl ?_
      refine J_st (R_move rfl) rfl (J_st (R_move rfl) rfl ?_)
      refine J_call Try.call77 rfl (c_cmpCompare (xs[k]'hi1) (ys[k]'hi2) _ ) rfl (fun _ w2 e1 hv => ?_)
      subst hv
      replace E := E.trans e1
      have z2 := e1.size
      refine J_st (R_assign rfl) rfl (J_done ?_)
      refine S_seq ?_
      refine S_reg [true, true] rfl rfl ?_
      refine J_st (R_move rfl) rfl (J_st (R_neq rfl rfl) rfl (J_done ?_))
      refine S_cond rfl (fun hc3 => ?_) (fun hc3 => ?_)
      · refine S_seq ?_
        refine S_reg [true, true] rfl rfl ?_
        refine J_st (R_move rfl) rfl (J_st (R_assign rfl) rfl (J_done ?_))
        refine S_ret (E_inB_ret (E_lp_ret (E_inB_ret (E_done1 rfl rfl E ?_))))
        exact cmpL_2 hI (by omega) (by omega) (by simpa using hc3)
      · refine S_skip ?_
        refine S_nil (E_inB ?_)
        refine S_reg [true, true] rfl rfl ?_
        refine J_st (R_add rfl rfl (add_one hc1n hxs.1)) rfl (J_st (R_move rfl) rfl (J_done ?_))
        refine S_nil (E_again (k + 1) (by omega) ⟨rfl, rfl, rfl, rfl, rfl, rfl, trivial⟩ ⟨E, (by omega), (by omega), (by omega), cmpL_step hI (by omega) (by omega) (by simpa using hc3)⟩)
  · have hc1n : ¬ k < xs.length := by first | (have h := of_decide_eq_false hc1; omega) | (have h := hc1; simp at h; omega)
    refine S_exit (E_lp_exit (E_inB_exit ?_))
    refine S_seq ?_
    refine S_seq ?_
    refine S_reg [true, true, true, true, true] rfl rfl ?_
    refine J_st (R_move rfl) rfl (J_st (R_len Try.underlying24 rfl (hxs.ext E).len) rfl (J_st (R_move rfl) rfl (J_st (R_len Try.underlying24 rfl (hys.ext E).len) rfl (J_st (R_lss rfl rfl) rfl (J_done ?_)))))
    refine S_cond rfl (fun hc4 => ?_) (fun hc4 => ?_)
    · have hc4n : xs.length < ys.length := by first | (have h := of_decide_eq_true hc4; omega) | (have h := hc4; simp at h; omega)
      refine S_seq ?_
      refine S_reg [true] rfl rfl ?_
      refine J_st (R_assign rfl) rfl (J_done ?_)
      refine S_ret (E_done1 rfl rfl E ?_)
      exact cmpL_3 hI (by omega) (by omega)
    · have hc4n : ¬ xs.length < ys.length := by first | (have h := of_decide_eq_false hc4; omega) | (have h := hc4; simp at h; omega)
      refine S_skip ?_
      refine S_seq ?_
      refine S_reg [true] rfl rfl ?_
      refine J_st (R_assign rfl) rfl (J_done ?_)
      refine S_ret (E_done1 rfl rfl E ?_)
      exact cmpL_4 hI (by omega) (by omega)

set_option maxRecDepth 20000 in
theorem c_orderOf (vxs : Value) (xs : List Int) (vys : Value) (ys : List Int) (w : World) (hxs : RdS w vxs xs) (hys : RdS w vys ys) : Ct Try.prog 60 [vxs, vys] w (fun v _ => v = .int .i64 (cmpL xs ys)) := by
  refine ct_of Try.func60 rfl Try.ntmps60 rfl ?_
  refine S_sub [(0, vxs), (1, vys)] ⟨rfl, rfl, trivial⟩ ?_
  have E : Ext w w := Ext.refl w
  refine S_seq ?_
  refine S_reg [true] rfl rfl ?_
  refine J_st (R_assign rfl) rfl (J_done ?_)
  refine S_seq ?_
  refine S_reg [true, true, false, true] rfl rfl ?_
  refine J_st (R_move rfl) rfl (J_st (R_move rfl) rfl ?_)
  refine J_call Try.call71 rfl (c_slicesCompare vxs xs vys ys _ (hxs.ext E) (hys.ext E)) rfl (fun _ w1 e1 hv => ?_)
  subst hv
  replace E := E.trans e1
  have z1 := e1.size
  refine J_st (R_assign rfl) rfl (J_done ?_)
  refine S_ret (E_done1 rfl rfl E ?_)
  rfl

set_option maxRecDepth 20000 in
theorem c_toCellS (vxs : Value) (xs : List Cell) (w : World) (hxs : RdS w vxs xs) (hb : xs.length ≤ 1048576) : Ct Try.prog 20 [vxs] w (fun v w' => Own w' w.heap.size w'.heap.size 4 v (List.flatMap (Enc.enc (α := Cell)) xs)) := by
  refine ct_of Try.func20 rfl Try.ntmps20 rfl ?_
  refine S_sub [(0, vxs)] ⟨rfl, trivial⟩ ?_
  have E : Ext w w := Ext.refl w
  refine S_seq ?_
  refine S_reg [true] rfl rfl ?_
  refine J_st (R_assign rfl) rfl (J_done ?_)
  refine S_seq ?_
  refine S_reg [true, true, false, true] rfl rfl ?_
  refine J_st (R_move rfl) rfl (J_st (R_len Try.underlying23 rfl (hxs.ext E).len) rfl ?_)
  refine J_make (m := xs.length) sl33 rfl rfl (by omega) (by decide) rfl (fun b1 w1 e1 s1 h1 => ?_)
  have g_b1 : w.heap.size ≤ b1 := by have := E.size; omega
  have y_b1 := h1.lt
  replace E := E.trans e1
  have z1 := e1.size
  refine J_st (R_assign rfl) rfl (J_done ?_)
  refine S_seq ?_
  refine S_seq ?_
  refine S_reg [true] rfl rfl ?_
  refine J_st (R_assign rfl) rfl (J_done ?_)
  refine S_block ?_
  refine S_loop (fun (k : Nat) => [(0, vxs), (2, .slice none 0 0), (3, .slice (some ⟨b1, 0, none⟩) xs.length xs.length), (4, .int .i64 ((k : Nat) : Int))]) (fun (k : Nat) w' => Ext w w' ∧ w1.heap.size ≤ w'.heap.size ∧ k ≤ xs.length ∧ Blk w' b1 (mk xs [.int .i64 0, .int .i64 0, .int .i64 0, .int .i64 0] k xs.length)) (fun (k : Nat) => xs.length - k) 0 ⟨rfl, rfl, rfl, rfl, trivial⟩ ⟨E, Nat.le_refl _, Nat.zero_le _, (mk_zero xs [.int .i64 0, .int .i64 0, .int .i64 0, .int .i64 0] xs.length) ▸ h1⟩ ?_
  clear E h1
  rintro k w2 ⟨E, z2, hk, h1⟩
  refine S_seq ?_
  refine S_seq ?_
  refine S_reg [true, true, true, true] rfl rfl ?_
  refine J_st (R_move rfl) rfl (J_st (R_move rfl) rfl (J_st (R_len Try.underlying23 rfl (hxs.ext E).len) rfl (J_st (R_lss rfl rfl) rfl (J_done ?_))))
  refine S_cond rfl (fun hc1 => ?_) (fun hc1 => ?_)
  · have hc1n : k < xs.length := by first | (have h := of_decide_eq_true hc1; omega) | (have h := hc1; simp at h; omega)
    refine S_skip ?_
    refine S_seq ?_
    refine S_block ?_
    refine S_reg [true, true, true, true, true, true, false, true, false] rfl rfl ?_
    refine J_st (R_move rfl) rfl (J_st (R_move rfl) rfl (J_st (R_move rfl) rfl (J_st (R_move rfl) rfl ?_)))
    have hi1 : k < xs.length := (by first | assumption | omega | (simp only [List.length_set]; first | assumption | omega) | (simp only [List.getElem_set_self, List.length_set]; first | assumption | omega) | (simp only [setW, setLk, List.length_set]; first | assumption | omega) | (simp; done))
    refine J_st (R_index (i := k) sl23 rfl rfl (hxs.ext E) hi1) rfl (J_st (R_loadS st79 rfl ((hxs.ext E).get hi1) rfl) rfl ?_)
    refine J_call Try.call39 rfl (c_toCell (xs[k]'hi1) _ ) rfl (fun _ w3 e2 hv => ?_)
    subst hv
    replace E := E.trans e2; replace h1 := h1.ext e2
    have z3 := e2.size
    refine J_st (R_indexB sl33 rfl rfl (by first | assumption | omega | (simp only [List.length_set]; first | assumption | omega) | (simp only [List.getElem_set_self, List.length_set]; first | assumption | omega) | (simp only [setW, setLk, List.length_set]; first | assumption | omega) | (simp; done))) rfl ?_
    refine J_storeS' (cs' := mk xs [.int .i64 0, .int .i64 0, .int .i64 0, .int .i64 0] (k + 1) xs.length) st77 rfl rfl rfl rfl h1 (mk_room xs [.int .i64 0, .int .i64 0, .int .i64 0, .int .i64 0] rfl hc1n hc1n (by rfl)) (mk_step xs [.int .i64 0, .int .i64 0, .int .i64 0, .int .i64 0] rfl hc1n hc1n) (fun w4 m1 h1' => ?_)
    replace h1 := h1'
    replace E := E.step m1 (fun g hg => by cases hg; omega)
    have z4 := m1.size
    refine J_done ?_
    refine S_nil (E_inB ?_)
    refine S_reg [true, true, true] rfl rfl ?_
    refine J_st (R_move rfl) rfl (J_st (R_add rfl rfl (add_one hc1n hxs.1)) rfl (J_st (R_assign rfl) rfl (J_done ?_)))
    refine S_nil (E_again (k + 1) (by omega) ⟨rfl, rfl, rfl, rfl, trivial⟩ ⟨E, (by omega), (by omega), h1⟩)
  · have hc1n : ¬ k < xs.length := by first | (have h := of_decide_eq_false hc1; omega) | (have h := hc1; simp at h; omega)
    refine S_exit (E_lp_exit (E_inB_exit ?_))
    refine S_seq ?_
    refine S_reg [true, true] rfl rfl ?_
    refine J_st (R_move rfl) rfl (J_st (R_assign rfl) rfl (J_done ?_))
    refine S_ret (E_done1 rfl rfl E ?_)
    obtain rfl : k = xs.length := by omega
    rw [mk_all] at h1
    exact Own.ofBlk h1 (by omega) (by have := h1.lt; omega) (sum_flat xs) hxs.1

set_option maxRecDepth 20000 in
theorem markCellS (vxs : Value) (lo hi : Nat) (xs : List Cell) (k : Nat) (w : World) (hxs : Own w lo hi 4 vxs (List.flatMap (Enc.enc (α := Cell)) xs)) (hb : k + xs.length * 4 ≤ 1099511627776) : CtR Try.prog 33 [vxs, .int .i64 ((k : Nat) : Int)] w lo hi (fun v w' => v = .int .i64 ((k + 4 * xs.length : Nat) : Int) ∧ Own w' lo hi 4 vxs (List.flatMap (Enc.enc (α := Cell)) (mkL 4 mkCell k xs.length))) := by
  refine ctR_of Try.func33 rfl Try.ntmps33 rfl ?_
  refine S_sub [(0, vxs), (1, .int .i64 ((k : Nat) : Int))] ⟨rfl, rfl, trivial⟩ ?_
  have E : ModR w w lo hi := ModR.refl w lo hi
  refine S_seq ?_
  refine S_reg [true] rfl rfl ?_
  refine J_st (R_assign rfl) rfl (J_done ?_)
  refine S_seq ?_
  refine S_seq ?_
  refine S_reg [true] rfl rfl ?_
  refine J_st (R_assign rfl) rfl (J_done ?_)
  refine S_block ?_
  refine S_loop (fun (xq : Nat × Nat × List Cell) => let ⟨i, q, bs⟩ := xq; [(0, vxs), (1, .int .i64 ((q : Nat) : Int)), (4, .int .i64 0), (5, .int .i64 ((i : Nat) : Int))]) (fun (xq : Nat × Nat × List Cell) w' => let ⟨i, q, bs⟩ := xq; ModR w w' lo hi ∧ w.heap.size ≤ w'.heap.size ∧ i + bs.length = xs.length ∧ q = k + 4 * i ∧ Own w' lo hi 4 vxs (List.flatMap (Enc.enc (α := Cell)) (mkL 4 mkCell k i ++ bs))) (fun (xq : Nat × Nat × List Cell) => let ⟨i, q, bs⟩ := xq; xs.length - i) (0, k, xs) ⟨rfl, rfl, rfl, rfl, trivial⟩ ⟨E, Nat.le_refl _, (by simp), (by simp), (by simpa [mkL] using hxs)⟩ ?_
  clear E hxs
  rintro ⟨i, q, bs⟩ w1 ⟨E, z1, hi, hq, hxs⟩
  refine S_sub [(0, vxs), (1, .int .i64 ((q : Nat) : Int)), (4, .int .i64 0), (5, .int .i64 ((i : Nat) : Int))] ⟨rfl, rfl, rfl, rfl, trivial⟩ ?_
  refine S_seq ?_
  refine S_seq ?_
  refine S_reg [true, true, true, true] rfl rfl ?_
  refine J_st (R_move rfl) rfl (J_st (R_move rfl) rfl (J_st (R_len Try.underlying33 rfl (Own.lenE (by decide) hxs (by simp only [List.length_append, mkL_length, List.length_cons]; omega))) rfl (J_st (R_lss rfl rfl) rfl (J_done ?_))))
  refine S_cond rfl (fun hc1 => ?_) (fun hc1 => ?_)
  · rcases bs with _ | ⟨x, bs⟩
    · exact absurd hi (by have h := hc1; simp at h ⊢; omega)
    simp only [List.length_cons] at hi
    have hc1n : i < xs.length := by first | (have h := of_decide_eq_true hc1; omega) | (have h := hc1; simp at h; omega)
    refine S_skip ?_
    refine S_seq ?_
    refine S_block ?_
    refine S_seq ?_
    refine S_reg [true, true, true, true, true, false] rfl rfl ?_
    refine J_st (R_move rfl) rfl (J_st (R_move rfl) rfl (J_st (R_move rfl) rfl (J_st (R_index sl33 rfl rfl (Own.rd (by decide) hxs) (by simp only [List.length_append, mkL_length, List.length_cons]; omega)) rfl (J_st (R_fieldAddr fl77_0 rfl) rfl ?_))))
    refine J_storeOwn (α := Cell) (i := i) (f := 0) (⟨((q : Nat) : Int), x.epoch, x.key, x.val⟩ : Cell) sc3 rfl rfl rfl rfl hxs (mkL_length _ _ _ _) (by decide) rfl (fun w2 m1 hxs' => ?_)
    have hq := hxs.blk
    replace hxs := hxs'
    replace E := E.mod m1 (fun g hg => by have := hq g hg; omega)
    have z2 := m1.size
    clear hq
    refine J_done ?_
    refine S_seq ?_
    refine S_reg [true, true, true] rfl rfl ?_
    refine J_st (R_move rfl) rfl (J_st (R_add rfl rfl (add_nat (by unfold maxLen; omega))) rfl (J_st (R_assign rfl) rfl (J_done ?_)))
    refine S_seq ?_
    refine S_reg [true, true, true, true, true, false] rfl rfl ?_
    refine J_st (R_move rfl) rfl (J_st (R_move rfl) rfl (J_st (R_move rfl) rfl (J_st (R_index sl33 rfl rfl (Own.rd (by decide) hxs) (by simp only [List.length_append, mkL_length, List.length_cons]; omega)) rfl (J_st (R_fieldAddr fl77_1 rfl) rfl ?_))))
    refine J_storeOwn (α := Cell) (i := i) (f := 1) (⟨((q : Nat) : Int), ((q + 1 : Nat) : Int), x.key, x.val⟩ : Cell) sc3 rfl rfl rfl rfl hxs (mkL_length _ _ _ _) (by decide) rfl (fun w3 m2 hxs' => ?_)
    have hq := hxs.blk
    replace hxs := hxs'
    replace E := E.mod m2 (fun g hg => by have := hq g hg; omega)
    have z3 := m2.size
    clear hq
    refine J_done ?_
    refine S_seq ?_
    refine S_reg [true, true, true] rfl rfl ?_
    refine J_st (R_move rfl) rfl (J_st (R_add rfl rfl (add_nat (by unfold maxLen; omega))) rfl (J_st (R_assign rfl) rfl (J_done ?_)))
    refine S_seq ?_
    refine S_reg [true, true, true, true, true, false] rfl rfl ?_
    refine J_st (R_move rfl) rfl (J_st (R_move rfl) rfl (J_st (R_move rfl) rfl (J_st (R_index sl33 rfl rfl (Own.rd (by decide) hxs) (by simp only [List.length_append, mkL_length, List.length_cons]; omega)) rfl (J_st (R_fieldAddr fl77_2 rfl) rfl ?_))))
    refine J_storeOwn (α := Cell) (i := i) (f := 2) (⟨((q : Nat) : Int), ((q + 1 : Nat) : Int), ((q + 1 + 1 : Nat) : Int), x.val⟩ : Cell) sc3 rfl rfl rfl rfl hxs (mkL_length _ _ _ _) (by decide) rfl (fun w4 m3 hxs' => ?_)
    have hq := hxs.blk
    replace hxs := hxs'
    replace E := E.mod m3 (fun g hg => by have := hq g hg; omega)
    have z4 := m3.size
    clear hq
    refine J_done ?_
    refine S_seq ?_
    refine S_reg [true, true, true] rfl rfl ?_
    refine J_st (R_move rfl) rfl (J_st (R_add rfl rfl (add_nat (by unfold maxLen; omega))) rfl (J_st (R_assign rfl) rfl (J_done ?_)))
    refine S_seq ?_
    refine S_reg [true, true, true, true, true, false] rfl rfl ?_
    refine J_st (R_move rfl) rfl (J_st (R_move rfl) rfl (J_st (R_move rfl) rfl (J_st (R_index sl33 rfl rfl (Own.rd (by decide) hxs) (by simp only [List.length_append, mkL_length, List.length_cons]; omega)) rfl (J_st (R_fieldAddr fl77_3 rfl) rfl ?_))))
    refine J_storeOwn (α := Cell) (i := i) (f := 3) (⟨((q : Nat) : Int), ((q + 1 : Nat) : Int), ((q + 1 + 1 : Nat) : Int), ((q + 1 + 1 + 1 : Nat) : Int)⟩ : Cell) sc3 rfl rfl rfl rfl hxs (mkL_length _ _ _ _) (by decide) rfl (fun w5 m4 hxs' => ?_)
    have hq := hxs.blk
    replace hxs := hxs'
    replace E := E.mod m4 (fun g hg => by have := hq g hg; omega)
    have z5 := m4.size
    clear hq
    refine J_done ?_
    refine S_reg [true, true, true] rfl rfl ?_
    refine J_st (R_move rfl) rfl (J_st (R_add rfl rfl (add_nat (by unfold maxLen; omega))) rfl (J_st (R_assign rfl) rfl (J_done ?_)))
    refine S_nil (E_inB ?_)
    refine S_reg [true, true, true] rfl rfl ?_
    refine J_st (R_move rfl) rfl (J_st (R_add rfl rfl (add_nat (by unfold maxLen; omega))) rfl (J_st (R_assign rfl) rfl (J_done ?_)))
    refine S_nil (E_again (i + 1, q + 1 + 1 + 1 + 1, bs) (by simp; omega) ⟨rfl, rfl, rfl, rfl, trivial⟩ ⟨E, (by omega), (by omega), (by omega), (by subst hq; rw [← mkL_succ]; exact hxs)⟩)
  · have hc1n : ¬ i < xs.length := by first | (have h := of_decide_eq_false hc1; omega) | (have h := hc1; simp at h; omega)
    refine S_exit (E_lp_exit (E_inB_exit ?_))
    refine S_seq ?_
    refine S_reg [true, true] rfl rfl ?_
    refine J_st (R_move rfl) rfl (J_st (R_assign rfl) rfl (J_done ?_))
    refine S_ret (E_done1 rfl rfl E ?_)
    exact ⟨by subst hq; rw [show i = xs.length from by omega], by obtain rfl : bs = [] := List.eq_nil_of_length_eq_zero (by omega); rw [show xs.length = i from by simp at hi; omega]; simpa using hxs⟩

set_option maxRecDepth 20000 in
theorem c_szIntS (vxs : Value) (xs : List Int) (n : Int) (w : World) (hxs : RdS w vxs xs) (h0 : 0 ≤ n ∧ n ≤ 1048576) : Ct Try.prog 15 [vxs, .int .i64 n] w (fun v _ => v = .int .i64 (szM xs.length n)) := by
  refine ct_of Try.func15 rfl Try.ntmps15 rfl ?_
  refine S_sub [(0, vxs), (1, .int .i64 n)] ⟨rfl, rfl, trivial⟩ ?_
  have E : Ext w w := Ext.refl w
  refine S_seq ?_
  refine S_reg [true] rfl rfl ?_
  refine J_st (R_assign rfl) rfl (J_done ?_)
  refine S_seq ?_
  refine S_reg [true, true, true, true, true] rfl rfl ?_
  refine J_st (R_move rfl) rfl (J_st (R_move rfl) rfl (J_st (R_len Try.underlying24 rfl (hxs.ext E).len) rfl (J_st (R_sub rfl rfl rfl) rfl (J_st (R_assign rfl) rfl (J_done ?_)))))
  refine S_seq ?_
  refine S_seq ?_
  refine S_reg [true, true] rfl rfl ?_
  refine J_st (R_move rfl) rfl (J_st (R_lss rfl rfl) rfl (J_done ?_))
  refine S_cond rfl (fun hc1 => ?_) (fun hc1 => ?_)
  · refine S_seq ?_
    refine S_reg [true] rfl rfl ?_
    refine J_st (R_assign rfl) rfl (J_done ?_)
    refine S_ret (E_done1 rfl rfl E ?_)
    exact sz_no h0.2 h0.1 hxs.1 hc1
  · refine S_skip ?_
    refine S_seq ?_
    refine S_reg [true, true] rfl rfl ?_
    refine J_st (R_move rfl) rfl (J_st (R_assign rfl) rfl (J_done ?_))
    refine S_ret (E_done1 rfl rfl E ?_)
    exact sz_yes h0.2 h0.1 hxs.1 hc1

set_option maxRecDepth 20000 in
theorem c_toIntS (vxs : Value) (xs : List Int) (w : World) (hxs : RdS w vxs xs) (hb : xs.length ≤ 1048576) : Ct Try.prog 21 [vxs] w (fun v w' => Own w' w.heap.size w'.heap.size 1 v (List.flatMap (Enc.enc (α := Int)) xs)) := by
  refine ct_of Try.func21 rfl Try.ntmps21 rfl ?_
  refine S_sub [(0, vxs)] ⟨rfl, trivial⟩ ?_
  have E : Ext w w := Ext.refl w
  refine S_seq ?_
  refine S_reg [true] rfl rfl ?_
  refine J_st (R_assign rfl) rfl (J_done ?_)
  refine S_seq ?_
  refine S_reg [true, true, false, true] rfl rfl ?_
  refine J_st (R_move rfl) rfl (J_st (R_len Try.underlying24 rfl (hxs.ext E).len) rfl ?_)
  refine J_make (m := xs.length) sl24 rfl rfl (by omega) (by decide) rfl (fun b1 w1 e1 s1 h1 => ?_)
  have g_b1 : w.heap.size ≤ b1 := by have := E.size; omega
  have y_b1 := h1.lt
  replace E := E.trans e1
  have z1 := e1.size
  refine J_st (R_assign rfl) rfl (J_done ?_)
  refine S_seq ?_
  refine S_seq ?_
  refine S_reg [true] rfl rfl ?_
  refine J_st (R_assign rfl) rfl (J_done ?_)
  refine S_block ?_
  refine S_loop (fun (k : Nat) => [(0, vxs), (2, .slice none 0 0), (3, .slice (some ⟨b1, 0, none⟩) xs.length xs.length), (4, .int .i64 ((k : Nat) : Int))]) (fun (k : Nat) w' => Ext w w' ∧ w1.heap.size ≤ w'.heap.size ∧ k ≤ xs.length ∧ Blk w' b1 (mk xs [.int .i64 0] k xs.length)) (fun (k : Nat) => xs.length - k) 0 ⟨rfl, rfl, rfl, rfl, trivial⟩ ⟨E, Nat.le_refl _, Nat.zero_le _, (mk_zero xs [.int .i64 0] xs.length) ▸ h1⟩ ?_
  clear E h1
  rintro k w2 ⟨E, z2, hk, h1⟩
  refine S_seq ?_
  refine S_seq ?_
  refine S_reg [true, true, true, true] rfl rfl ?_
  refine J_st (R_move rfl) rfl (J_st (R_move rfl) rfl (J_st (R_len Try.underlying24 rfl (hxs.ext E).len) rfl (J_st (R_lss rfl rfl) rfl (J_done ?_))))
  refine S_cond rfl (fun hc1 => ?_) (fun hc1 => ?_)
  · have hc1n : k < xs.length := by first | (have h := of_decide_eq_true hc1; omega) | (have h := hc1; simp at h; omega)
    refine S_skip ?_
    refine S_seq ?_
    refine S_block ?_
    refine S_reg [true, true, true, true, true, true, true, false] rfl rfl ?_
    refine J_st (R_move rfl) rfl (J_st (R_move rfl) rfl (J_st (R_move rfl) rfl (J_st (R_move rfl) rfl ?_)))
    have hi1 : k < xs.length := (by first | assumption | omega | (simp only [List.length_set]; first | assumption | omega) | (simp only [List.getElem_set_self, List.length_set]; first | assumption | omega) | (simp only [setW, setLk, List.length_set]; first | assumption | omega) | (simp; done))
    refine J_st (R_index (i := k) sl24 rfl rfl (hxs.ext E) hi1) rfl (J_st (R_load sc3 rfl (((hxs.ext E).get hi1).one 0 rfl)) rfl (J_st (R_indexB sl24 rfl rfl (by first | assumption | omega | (simp only [List.length_set]; first | assumption | omega) | (simp only [List.getElem_set_self, List.length_set]; first | assumption | omega) | (simp only [setW, setLk, List.length_set]; first | assumption | omega) | (simp; done))) rfl ?_))
    refine J_store' (cs' := mk xs [.int .i64 0] (k + 1) xs.length) sc3 rfl rfl rfl h1 (mk_room xs [.int .i64 0] rfl hc1n hc1n (by rfl)) (mk_step xs [.int .i64 0] rfl hc1n hc1n) (fun w3 m1 h1' => ?_)
    replace h1 := h1'
    replace E := E.step m1 (fun g hg => by cases hg; omega)
    have z3 := m1.size
    refine J_done ?_
    refine S_nil (E_inB ?_)
    refine S_reg [true, true, true] rfl rfl ?_
    refine J_st (R_move rfl) rfl (J_st (R_add rfl rfl (add_one hc1n hxs.1)) rfl (J_st (R_assign rfl) rfl (J_done ?_)))
    refine S_nil (E_again (k + 1) (by omega) ⟨rfl, rfl, rfl, rfl, trivial⟩ ⟨E, (by omega), (by omega), h1⟩)
  · have hc1n : ¬ k < xs.length := by first | (have h := of_decide_eq_false hc1; omega) | (have h := hc1; simp at h; omega)
    refine S_exit (E_lp_exit (E_inB_exit ?_))
    refine S_seq ?_
    refine S_reg [true, true] rfl rfl ?_
    refine J_st (R_move rfl) rfl (J_st (R_assign rfl) rfl (J_done ?_))
    refine S_ret (E_done1 rfl rfl E ?_)
    obtain rfl : k = xs.length := by omega
    rw [mk_all] at h1
    exact Own.ofBlk h1 (by omega) (by have := h1.lt; omega) (sum_flat xs) hxs.1

set_option maxRecDepth 20000 in
theorem c_eqIntS (vxs : Value) (xs : List Int) (vys : Value) (ys : List Int) (w : World) (hxs : RdS w vxs xs) (hys : RdS w vys ys) : Ct Try.prog 29 [vxs, vys] w (fun v _ => v = .bool (decide (xs = ys))) := by
  refine ct_of Try.func29 rfl Try.ntmps29 rfl ?_
  refine S_sub [(0, vxs), (1, vys)] ⟨rfl, rfl, trivial⟩ ?_
  have E : Ext w w := Ext.refl w
  refine S_seq ?_
  refine S_reg [true] rfl rfl ?_
  refine J_st (R_assign rfl) rfl (J_done ?_)
  refine S_seq ?_
  refine S_seq ?_
  refine S_reg [true, true, true, true, true] rfl rfl ?_
  refine J_st (R_move rfl) rfl (J_st (R_len Try.underlying24 rfl (hxs.ext E).len) rfl (J_st (R_move rfl) rfl (J_st (R_len Try.underlying24 rfl (hys.ext E).len) rfl (J_st (R_neq rfl rfl) rfl (J_done ?_)))))
  refine S_cond rfl (fun hc1 => ?_) (fun hc1 => ?_)
  · have hc1n : ¬ xs.length = ys.length := by first | (have h := of_decide_eq_true hc1; omega) | (have h := hc1; simp at h; omega)
    refine S_seq ?_
    refine S_reg [true] rfl rfl ?_
    refine J_st (R_assign rfl) rfl (J_done ?_)
    refine S_ret (E_done1 rfl rfl E ?_)
    simp [eq_len hc1n]
  · have hc1n : xs.length = ys.length := by first | (have h := of_decide_eq_false hc1; omega) | (have h := hc1; simp at h; omega)
    refine S_skip ?_
    refine S_seq ?_
    refine S_seq ?_
    refine S_reg [true] rfl rfl ?_
    refine J_st (R_assign rfl) rfl (J_done ?_)
    refine S_block ?_
    refine S_loop (fun (k : Nat) => [(0, vxs), (1, vys), (4, .bool false), (5, .int .i64 ((k : Nat) : Int))]) (fun (k : Nat) w' => Ext w w' ∧ w.heap.size ≤ w'.heap.size ∧ k ≤ xs.length ∧ xs.take k = ys.take k) (fun (k : Nat) => xs.length - k) 0 ⟨rfl, rfl, rfl, rfl, trivial⟩ ⟨E, Nat.le_refl _, Nat.zero_le _, rfl⟩ ?_
    clear E
    rintro k w1 ⟨E, z1, hk, hp⟩
    refine S_seq ?_
    refine S_seq ?_
    refine S_reg [true, true, true, true] rfl rfl ?_
    refine J_st (R_move rfl) rfl (J_st (R_move rfl) rfl (J_st (R_len Try.underlying24 rfl (hxs.ext E).len) rfl (J_st (R_lss rfl rfl) rfl (J_done ?_))))
    refine S_cond rfl (fun hc2 => ?_) (fun hc2 => ?_)
    · have hc2n : k < xs.length := by first | (have h := of_decide_eq_true hc2; omega) | (have h := hc2; simp at h; omega)
      refine S_skip ?_
      refine S_seq ?_
      refine S_block ?_
      refine S_seq ?_
      refine S_regD mixed [(0, true), (1, true), (2, true), (3, true), (4, true), (5, true), (6, true), (7, true), (8, true)] (by decide +kernel) rfl (fun w2 e1 => ?_)
      replace E := E.trans e1
      have z2 := e1.size
      refine J_st (R_move rfl) rfl (J_st (R_move rfl) rfl ?_)
      have hi1 : k < xs.length := (by first | assumption | omega | (simp only [List.length_set]; first | assumption | omega) | (simp only [List.getElem_set_self, List.length_set]; first | assumption | omega) | (simp only [setW, setLk, List.length_set]; first | assumption | omega) | (simp; done))
      refine J_st (R_index (i := k) sl24 rfl rfl (hxs.ext E) hi1) rfl (J_st (R_load sc3 rfl (((hxs.ext E).get hi1).one 0 rfl)) rfl (J_st (R_move rfl) rfl (J_st (R_move rfl) rfl ?_)))
      have hi2 : k < ys.length := (by first | assumption | omega | (simp only [List.length_set]; first | assumption | omega) | (simp only [List.getElem_set_self, List.length_set]; first | assumption | omega) | (simp only [setW, setLk, List.length_set]; first | assumption | omega) | (simp; done))
      refine J_st (R_index (i := k) sl24 rfl rfl (hys.ext E) hi2) rfl (J_st (R_load sc3 rfl (((hys.ext E).get hi2).one 0 rfl)) rfl (J_st (R_neq rfl rfl) rfl (J_done ?_)))
      refine S_cond rfl (fun hc3 => ?_) (fun hc3 => ?_)
      · refine S_seq ?_
        refine S_reg [true] rfl rfl ?_
        refine J_st (R_assign rfl) rfl (J_done ?_)
        refine S_ret (E_inB_ret (E_lp_ret (E_inB_ret (E_done1 rfl rfl E ?_))))
        exact eqS_no (by omega) (by omega) (by simpa using hc3)
      · refine S_skip ?_
        refine S_nil (E_inB ?_)
        refine S_reg [true, true, true] rfl rfl ?_
        refine J_st (R_move rfl) rfl (J_st (R_add rfl rfl (add_one hc2n hxs.1)) rfl (J_st (R_assign rfl) rfl (J_done ?_)))
        refine S_nil (E_again (k + 1) (by omega) ⟨rfl, rfl, rfl, rfl, trivial⟩ ⟨E, (by omega), (by omega), eqS_step hp (by assumption) (by omega) (by simpa using hc3)⟩)
    · have hc2n : ¬ k < xs.length := by first | (have h := of_decide_eq_false hc2; omega) | (have h := hc2; simp at h; omega)
      refine S_exit (E_lp_exit (E_inB_exit ?_))
      refine S_seq ?_
      refine S_reg [true] rfl rfl ?_
      refine J_st (R_assign rfl) rfl (J_done ?_)
      refine S_ret (E_done1 rfl rfl E ?_)
      exact eqS_yes hp hc1n (by omega)

set_option maxRecDepth 20000 in
theorem s_l01In (x : Int) (lo : Int) (hi : Int) (w : World)  : Ct Try.prog 49 [.int .i64 x, .int .i64 lo, .int .i64 hi] w (fun v _ => v = .bool (win x lo hi)) := by
  refine ct_of Try.func49 rfl Try.ntmps49 rfl ?_
  refine S_sub [(0, .int .i64 x), (1, .int .i64 lo), (2, .int .i64 hi)] ⟨rfl, rfl, rfl, trivial⟩ ?_
  have E : Ext w w := Ext.refl w
  refine S_seq ?_
  refine S_reg [true] rfl rfl ?_
  refine J_st (R_assign rfl) rfl (J_done ?_)
  refine S_seq ?_
  refine S_reg [true, true, true, true, true, true, true, true, true] rfl rfl ?_
  refine J_st (R_move rfl) rfl (J_st (R_move rfl) rfl (J_st (R_geq rfl rfl) rfl (J_st (R_move rfl) rfl ?_)))
  refine J_cut 4 [(0, .int .i64 x), (1, .int .i64 lo), (2, .int .i64 hi), (6, .bool false), (14, .bool ((decide (lo ≤ x)) && (decide (x ≤ hi))))] (fun w' => w = w') ?_ ?_
  · refine J_if (gd := 10) rfl rfl (fun hg1 => ?_) (fun hg1 => ?_)
    · refine J_gd rfl rfl (R_move rfl) rfl (J_gd rfl rfl (R_move rfl) rfl (J_gd rfl rfl (R_leq rfl rfl) rfl (J_st (R_pickT rfl rfl) rfl (J_cutEnd ⟨rfl, rfl, rfl, rfl, congrArg (fun b => some (Value.bool b)) (show (decide (x ≤ hi)) = ((decide (lo ≤ x)) && (decide (x ≤ hi))) by first | (rw [hg1] <;> rfl) | (simp [hg1]; done) | (simp only [nat_nlt] <;> simp)), trivial⟩ rfl))))
    · refine J_gdno rfl rfl rfl rfl (J_gdno rfl rfl rfl rfl (J_gdno rfl rfl rfl rfl (J_st (R_pickF rfl rfl) rfl (J_cutEnd ⟨rfl, rfl, rfl, rfl, congrArg (fun b => some (Value.bool b)) (show false = ((decide (lo ≤ x)) && (decide (x ≤ hi))) by first | (rw [hg1] <;> rfl) | (simp [hg1]; done) | (simp only [nat_nlt] <;> simp)), trivial⟩ rfl))))
  rintro _ rfl
  refine J_st (R_assign rfl) rfl (J_done ?_)
  refine S_ret (E_done1 rfl rfl E ?_)
  rfl

set_option maxRecDepth 20000 in
theorem c_within (x : Int) (lo : Int) (hi : Int) (w : World)  : Ct Try.prog 55 [.int .i64 x, .int .i64 lo, .int .i64 hi] w (fun v _ => v = .bool (win x lo hi)) := by
  refine ct_of Try.func55 rfl Try.ntmps55 rfl ?_
  refine S_sub [(0, .int .i64 x), (1, .int .i64 lo), (2, .int .i64 hi)] ⟨rfl, rfl, rfl, trivial⟩ ?_
  have E : Ext w w := Ext.refl w
  refine S_seq ?_
  refine S_reg [true] rfl rfl ?_
  refine J_st (R_assign rfl) rfl (J_done ?_)
  refine S_seq ?_
  refine S_reg [true, true, true, true, true, true, true, true, true] rfl rfl ?_
  refine J_st (R_move rfl) rfl (J_st (R_move rfl) rfl (J_st (R_geq rfl rfl) rfl (J_st (R_move rfl) rfl ?_)))
  refine J_cut 4 [(0, .int .i64 x), (1, .int .i64 lo), (2, .int .i64 hi), (6, .bool false), (14, .bool ((decide (lo ≤ x)) && (decide (x ≤ hi))))] (fun w' => w = w') ?_ ?_
  · refine J_if (gd := 10) rfl rfl (fun hg1 => ?_) (fun hg1 => ?_)
    · refine J_gd rfl rfl (R_move rfl) rfl (J_gd rfl rfl (R_move rfl) rfl (J_gd rfl rfl (R_leq rfl rfl) rfl (J_st (R_pickT rfl rfl) rfl (J_cutEnd ⟨rfl, rfl, rfl, rfl, congrArg (fun b => some (Value.bool b)) (show (decide (x ≤ hi)) = ((decide (lo ≤ x)) && (decide (x ≤ hi))) by first | (rw [hg1] <;> rfl) | (simp [hg1]; done) | (simp only [nat_nlt] <;> simp)), trivial⟩ rfl))))
    · refine J_gdno rfl rfl rfl rfl (J_gdno rfl rfl rfl rfl (J_gdno rfl rfl rfl rfl (J_st (R_pickF rfl rfl) rfl (J_cutEnd ⟨rfl, rfl, rfl, rfl, congrArg (fun b => some (Value.bool b)) (show false = ((decide (lo ≤ x)) && (decide (x ≤ hi))) by first | (rw [hg1] <;> rfl) | (simp [hg1]; done) | (simp only [nat_nlt] <;> simp)), trivial⟩ rfl))))
  rintro _ rfl
  refine J_st (R_assign rfl) rfl (J_done ?_)
  refine S_ret (E_done1 rfl rfl E ?_)
  rfl

set_option maxRecDepth 20000 in
theorem c_toStamp (x : Stamp) (w : World)  : Ct Try.prog 52 [.agg (Enc.enc x).toArray] w (fun v _ => v = .agg (Enc.enc x).toArray) := by
  refine ct_of Try.func52 rfl Try.ntmps52 rfl ?_
  refine S_sub [(0, .agg (Enc.enc x).toArray)] ⟨rfl, trivial⟩ ?_
  have E : Ext w w := Ext.refl w
  refine S_seq ?_
  refine S_reg [false, false] rfl rfl ?_
  refine J_box rfl rfl (fun b1 w1 e1 s1 h1 => ?_)
  have g_b1 : w.heap.size ≤ b1 := by have := E.size; omega
  have y_b1 := h1.lt
  replace E := E.trans e1
  have z1 := e1.size
  refine J_alloc st57 rfl (fun b2 w2 e2 s2 h2 => ?_)
  have g_b2 : w.heap.size ≤ b2 := by have := E.size; omega
  have y_b2 := h2.lt
  replace E := E.trans e2; replace h1 := h1.ext e2
  have z2 := e2.size
  refine J_done ?_
  refine S_seq ?_
  refine S_reg [false] rfl rfl ?_
  refine J_alloc st57 rfl (fun b3 w3 e3 s3 h3 => ?_)
  have g_b3 : w.heap.size ≤ b3 := by have := E.size; omega
  have y_b3 := h3.lt
  replace E := E.trans e3; replace h1 := h1.ext e3; replace h2 := h2.ext e3
  have z3 := e3.size
  refine J_done ?_
  refine S_seq ?_
  refine S_reg [true, true, true, false] rfl rfl ?_
  refine J_st (R_fieldAddr0 fl73_0 rfl) rfl (J_st (R_load sc3 rfl (h1.one 0 rfl)) rfl (J_st (R_fieldAddr0 fl57_0 rfl) rfl ?_))
  refine J_store' (cs' := [.int .i64 x.epoch, .int .i64 0]) sc3 rfl rfl rfl h3 (Nat.le_of_ble_eq_true rfl) rfl (fun w4 m1 h3' => ?_)
  replace h3 := h3'
  replace E := E.step m1 (fun g hg => by cases hg; omega); replace h1 := h1.mod m1 (fun g hg => by cases hg; omega); replace h2 := h2.mod m1 (fun g hg => by cases hg; omega)
  have z4 := m1.size
  refine J_done ?_
  refine S_seq ?_
  refine S_reg [true, true, true, false] rfl rfl ?_
  refine J_st (R_fieldAddr0 fl73_1 rfl) rfl (J_st (R_load sc3 rfl (h1.one 1 rfl)) rfl (J_st (R_fieldAddr0 fl57_1 rfl) rfl ?_))
  refine J_store' (cs' := [.int .i64 x.epoch, .int .i64 x.turn]) sc3 rfl rfl rfl h3 (Nat.le_of_ble_eq_true rfl) rfl (fun w5 m2 h3' => ?_)
  replace h3 := h3'
  replace E := E.step m2 (fun g hg => by cases hg; omega); replace h1 := h1.mod m2 (fun g hg => by cases hg; omega); replace h2 := h2.mod m2 (fun g hg => by cases hg; omega)
  have z5 := m2.size
  refine J_done ?_
  refine S_seq ?_
  refine S_reg [true, false] rfl rfl ?_
  refine J_st (R_loadS st57 rfl h3.at rfl) rfl ?_
  refine J_storeS' (cs' := [.int .i64 x.epoch, .int .i64 x.turn]) st57 rfl rfl rfl rfl h2 (Nat.le_of_ble_eq_true rfl) rfl (fun w6 m3 h2' => ?_)
  replace h2 := h2'
  replace E := E.step m3 (fun g hg => by cases hg; omega); replace h1 := h1.mod m3 (fun g hg => by cases hg; omega); replace h3 := h3.mod m3 (fun g hg => by cases hg; omega)
  have z6 := m3.size
  refine J_done ?_
  refine S_ret (E_doneC rfl rfl (run_loadVar_st st57 h2.at rfl) E ?_)
  rfl

set_option maxRecDepth 20000 in
theorem c_toRecord (x : Record) (w : World)  : Ct Try.prog 38 [.agg (Enc.enc x).toArray] w (fun v _ => v = .agg (Enc.enc x).toArray) := by
  refine ct_of Try.func38 rfl Try.ntmps38 rfl ?_
  refine S_sub [(0, .agg (Enc.enc x).toArray)] ⟨rfl, trivial⟩ ?_
  have E : Ext w w := Ext.refl w
  refine S_seq ?_
  refine S_reg [false, false] rfl rfl ?_
  refine J_box rfl rfl (fun b1 w1 e1 s1 h1 => ?_)
  have g_b1 : w.heap.size ≤ b1 := by have := E.size; omega
  have y_b1 := h1.lt
  replace E := E.trans e1
  have z1 := e1.size
  refine J_alloc st71 rfl (fun b2 w2 e2 s2 h2 => ?_)
  have g_b2 : w.heap.size ≤ b2 := by have := E.size; omega
  have y_b2 := h2.lt
  replace E := E.trans e2; replace h1 := h1.ext e2
  have z2 := e2.size
  refine J_done ?_
  refine S_seq ?_
  refine S_reg [false] rfl rfl ?_
  refine J_alloc st71 rfl (fun b3 w3 e3 s3 h3 => ?_)
  have g_b3 : w.heap.size ≤ b3 := by have := E.size; omega
  have y_b3 := h3.lt
  replace E := E.trans e3; replace h1 := h1.ext e3; replace h2 := h2.ext e3
  have z3 := e3.size
  refine J_done ?_
  refine S_seq ?_
  refine S_reg [true, true, true, false] rfl rfl ?_
  refine J_st (R_fieldAddr0 fl75_0 rfl) rfl (J_st (R_load sc3 rfl (h1.one 0 rfl)) rfl (J_st (R_fieldAddr0 fl71_0 rfl) rfl ?_))
  refine J_store' (cs' := [.int .i64 x.op, .int .i64 0, .int .i64 0, .int .i64 0, .int .i64 0]) sc3 rfl rfl rfl h3 (Nat.le_of_ble_eq_true rfl) rfl (fun w4 m1 h3' => ?_)
  replace h3 := h3'
  replace E := E.step m1 (fun g hg => by cases hg; omega); replace h1 := h1.mod m1 (fun g hg => by cases hg; omega); replace h2 := h2.mod m1 (fun g hg => by cases hg; omega)
  have z4 := m1.size
  refine J_done ?_
  refine S_seq ?_
  refine S_reg [true, true, false, true, false] rfl rfl ?_
  refine J_st (R_fieldAddr0 fl75_1 rfl) rfl (J_st (R_loadS st73 rfl (h1.part 1 [.int .i64 x.stamp.epoch, .int .i64 x.stamp.turn] rfl) rfl) rfl ?_)
  refine J_call Try.call52 rfl (c_toStamp x.stamp _ ) rfl (fun _ w5 e4 hv => ?_)
  subst hv
  replace E := E.trans e4; replace h1 := h1.ext e4; replace h2 := h2.ext e4; replace h3 := h3.ext e4
  have z5 := e4.size
  refine J_st (R_fieldAddr0 fl71_1 rfl) rfl ?_
  refine J_storeS' (cs' := [.int .i64 x.op, .int .i64 x.stamp.epoch, .int .i64 x.stamp.turn, .int .i64 0, .int .i64 0]) st57 rfl rfl rfl rfl h3 (Nat.le_of_ble_eq_true rfl) rfl (fun w6 m2 h3' => ?_)
  replace h3 := h3'
  replace E := E.step m2 (fun g hg => by cases hg; omega); replace h1 := h1.mod m2 (fun g hg => by cases hg; omega); replace h2 := h2.mod m2 (fun g hg => by cases hg; omega)
  have z6 := m2.size
  refine J_done ?_
  refine S_seq ?_
  refine S_reg [true, true, true, false] rfl rfl ?_
  refine J_st (R_fieldAddr0 fl75_2 rfl) rfl (J_st (R_load sc3 rfl (h1.one 3 rfl)) rfl (J_st (R_fieldAddr0 fl71_2 rfl) rfl ?_))
  refine J_store' (cs' := [.int .i64 x.op, .int .i64 x.stamp.epoch, .int .i64 x.stamp.turn, .int .i64 x.key, .int .i64 0]) sc3 rfl rfl rfl h3 (Nat.le_of_ble_eq_true rfl) rfl (fun w7 m3 h3' => ?_)
  replace h3 := h3'
  replace E := E.step m3 (fun g hg => by cases hg; omega); replace h1 := h1.mod m3 (fun g hg => by cases hg; omega); replace h2 := h2.mod m3 (fun g hg => by cases hg; omega)
  have z7 := m3.size
  refine J_done ?_
  refine S_seq ?_
  refine S_reg [true, true, true, false] rfl rfl ?_
  refine J_st (R_fieldAddr0 fl75_3 rfl) rfl (J_st (R_load sc3 rfl (h1.one 4 rfl)) rfl (J_st (R_fieldAddr0 fl71_3 rfl) rfl ?_))
  refine J_store' (cs' := [.int .i64 x.op, .int .i64 x.stamp.epoch, .int .i64 x.stamp.turn, .int .i64 x.key, .int .i64 x.val]) sc3 rfl rfl rfl h3 (Nat.le_of_ble_eq_true rfl) rfl (fun w8 m4 h3' => ?_)
  replace h3 := h3'
  replace E := E.step m4 (fun g hg => by cases hg; omega); replace h1 := h1.mod m4 (fun g hg => by cases hg; omega); replace h2 := h2.mod m4 (fun g hg => by cases hg; omega)
  have z8 := m4.size
  refine J_done ?_
  refine S_seq ?_
  refine S_reg [true, false] rfl rfl ?_
  refine J_st (R_loadS st71 rfl h3.at rfl) rfl ?_
  refine J_storeS' (cs' := [.int .i64 x.op, .int .i64 x.stamp.epoch, .int .i64 x.stamp.turn, .int .i64 x.key, .int .i64 x.val]) st71 rfl rfl rfl rfl h2 (Nat.le_of_ble_eq_true rfl) rfl (fun w9 m5 h2' => ?_)
  replace h2 := h2'
  replace E := E.step m5 (fun g hg => by cases hg; omega); replace h1 := h1.mod m5 (fun g hg => by cases hg; omega); replace h3 := h3.mod m5 (fun g hg => by cases hg; omega)
  have z9 := m5.size
  refine J_done ?_
  refine S_ret (E_doneC rfl rfl (run_loadVar_st st71 h2.at rfl) E ?_)
  rfl

set_option maxRecDepth 20000 in
theorem c_eqStamp (x : Stamp) (y : Stamp) (w : World)  : Ct Try.prog 43 [.agg (Enc.enc x).toArray, .agg (Enc.enc y).toArray] w (fun v _ => v = .bool (decide (x = y))) := by
  refine ct_of Try.func43 rfl Try.ntmps43 rfl ?_
  refine S_sub [(0, .agg (Enc.enc x).toArray), (1, .agg (Enc.enc y).toArray)] ⟨rfl, rfl, trivial⟩ ?_
  have E : Ext w w := Ext.refl w
  refine S_seq ?_
  refine S_reg [false, false, true] rfl rfl ?_
  refine J_box rfl rfl (fun b1 w1 e1 s1 h1 => ?_)
  have g_b1 : w.heap.size ≤ b1 := by have := E.size; omega
  have y_b1 := h1.lt
  replace E := E.trans e1
  have z1 := e1.size
  refine J_box rfl rfl (fun b2 w2 e2 s2 h2 => ?_)
  have g_b2 : w.heap.size ≤ b2 := by have := E.size; omega
  have y_b2 := h2.lt
  replace E := E.trans e2; replace h1 := h1.ext e2
  have z2 := e2.size
  refine J_st (R_assign rfl) rfl (J_done ?_)
  refine S_seq ?_
  refine S_seq ?_
  refine S_reg [true, true, true, true, true] rfl rfl ?_
  refine J_st (R_fieldAddr0 fl57_0 rfl) rfl (J_st (R_load sc3 rfl (h1.one 0 rfl)) rfl (J_st (R_fieldAddr0 fl57_0 rfl) rfl (J_st (R_load sc3 rfl (h2.one 0 rfl)) rfl (J_st (R_neq rfl rfl) rfl (J_done ?_)))))
  refine S_cond rfl (fun hc1 => ?_) (fun hc1 => ?_)
  · refine S_seq ?_
    refine S_reg [true] rfl rfl ?_
    refine J_st (R_assign rfl) rfl (J_done ?_)
    refine S_ret (E_done1 rfl rfl E ?_)
    cases x; cases y; simp_all
  · refine S_skip ?_
    refine S_seq ?_
    refine S_seq ?_
    refine S_reg [true, true, true, true, true] rfl rfl ?_
    refine J_st (R_fieldAddr0 fl57_1 rfl) rfl (J_st (R_load sc3 rfl (h1.one 1 rfl)) rfl (J_st (R_fieldAddr0 fl57_1 rfl) rfl (J_st (R_load sc3 rfl (h2.one 1 rfl)) rfl (J_st (R_neq rfl rfl) rfl (J_done ?_)))))
    refine S_cond rfl (fun hc2 => ?_) (fun hc2 => ?_)
    · refine S_seq ?_
      refine S_reg [true] rfl rfl ?_
      refine J_st (R_assign rfl) rfl (J_done ?_)
      refine S_ret (E_done1 rfl rfl E ?_)
      cases x; cases y; simp_all
    · refine S_skip ?_
      refine S_seq ?_
      refine S_reg [true] rfl rfl ?_
      refine J_st (R_assign rfl) rfl (J_done ?_)
      refine S_ret (E_done1 rfl rfl E ?_)
      cases x; cases y; simp_all

set_option maxRecDepth 20000 in
theorem c_eqRecord (x : Record) (y : Record) (w : World)  : Ct Try.prog 44 [.agg (Enc.enc x).toArray, .agg (Enc.enc y).toArray] w (fun v _ => v = .bool (decide (x = y))) := by
  refine ct_of Try.func44 rfl Try.ntmps44 rfl ?_
  refine S_sub [(0, .agg (Enc.enc x).toArray), (1, .agg (Enc.enc y).toArray)] ⟨rfl, rfl, trivial⟩ ?_
  have E : Ext w w := Ext.refl w
  refine S_seq ?_
  refine S_reg [false, false, true] rfl rfl ?_
  refine J_box rfl rfl (fun b1 w1 e1 s1 h1 => ?_)
  have g_b1 : w.heap.size ≤ b1 := by have := E.size; omega
  have y_b1 := h1.lt
  replace E := E.trans e1
  have z1 := e1.size
  refine J_box rfl rfl (fun b2 w2 e2 s2 h2 => ?_)
  have g_b2 : w.heap.size ≤ b2 := by have := E.size; omega
  have y_b2 := h2.lt
  replace E := E.trans e2; replace h1 := h1.ext e2
  have z2 := e2.size
  refine J_st (R_assign rfl) rfl (J_done ?_)
  refine S_seq ?_
  refine S_seq ?_
  refine S_reg [true, true, true, true, true] rfl rfl ?_
  refine J_st (R_fieldAddr0 fl71_0 rfl) rfl (J_st (R_load sc3 rfl (h1.one 0 rfl)) rfl (J_st (R_fieldAddr0 fl71_0 rfl) rfl (J_st (R_load sc3 rfl (h2.one 0 rfl)) rfl (J_st (R_neq rfl rfl) rfl (J_done ?_)))))
  refine S_cond rfl (fun hc1 => ?_) (fun hc1 => ?_)
  · refine S_seq ?_
    refine S_reg [true] rfl rfl ?_
    refine J_st (R_assign rfl) rfl (J_done ?_)
    refine S_ret (E_done1 rfl rfl E ?_)
    cases x; cases y; simp_all
  · refine S_skip ?_
    refine S_seq ?_
    refine S_seq ?_
    refine S_reg [true, true, true, true, false, true] rfl rfl ?_
    refine J_st (R_fieldAddr0 fl71_1 rfl) rfl (J_st (R_loadS st57 rfl (h1.part 1 [.int .i64 x.stamp.epoch, .int .i64 x.stamp.turn] rfl) rfl) rfl (J_st (R_fieldAddr0 fl71_1 rfl) rfl (J_st (R_loadS st57 rfl (h2.part 1 [.int .i64 y.stamp.epoch, .int .i64 y.stamp.turn] rfl) rfl) rfl ?_)))
    refine J_call Try.call43 rfl (c_eqStamp x.stamp y.stamp _ ) rfl (fun _ w3 e3 hv => ?_)
    subst hv
    replace E := E.trans e3; replace h1 := h1.ext e3; replace h2 := h2.ext e3
    have z3 := e3.size
    refine J_st (R_not rfl) rfl (J_done ?_)
    refine S_cond rfl (fun hc2 => ?_) (fun hc2 => ?_)
    · refine S_seq ?_
      refine S_reg [true] rfl rfl ?_
      refine J_st (R_assign rfl) rfl (J_done ?_)
      refine S_ret (E_done1 rfl rfl E ?_)
      cases x; cases y; simp_all
    · refine S_skip ?_
      refine S_seq ?_
      refine S_seq ?_
      refine S_reg [true, true, true, true, true] rfl rfl ?_
      refine J_st (R_fieldAddr0 fl71_2 rfl) rfl (J_st (R_load sc3 rfl (h1.one 3 rfl)) rfl (J_st (R_fieldAddr0 fl71_2 rfl) rfl (J_st (R_load sc3 rfl (h2.one 3 rfl)) rfl (J_st (R_neq rfl rfl) rfl (J_done ?_)))))
      refine S_cond rfl (fun hc3 => ?_) (fun hc3 => ?_)
      · refine S_seq ?_
        refine S_reg [true] rfl rfl ?_
        refine J_st (R_assign rfl) rfl (J_done ?_)
        refine S_ret (E_done1 rfl rfl E ?_)
        cases x; cases y; simp_all
      · refine S_skip ?_
        refine S_seq ?_
        refine S_seq ?_
        refine S_reg [true, true, true, true, true] rfl rfl ?_
        refine J_st (R_fieldAddr0 fl71_3 rfl) rfl (J_st (R_load sc3 rfl (h1.one 4 rfl)) rfl (J_st (R_fieldAddr0 fl71_3 rfl) rfl (J_st (R_load sc3 rfl (h2.one 4 rfl)) rfl (J_st (R_neq rfl rfl) rfl (J_done ?_)))))
        refine S_cond rfl (fun hc4 => ?_) (fun hc4 => ?_)
        · refine S_seq ?_
          refine S_reg [true] rfl rfl ?_
          refine J_st (R_assign rfl) rfl (J_done ?_)
          refine S_ret (E_done1 rfl rfl E ?_)
          cases x; cases y; simp_all
        · refine S_skip ?_
          refine S_seq ?_
          refine S_reg [true] rfl rfl ?_
          refine J_st (R_assign rfl) rfl (J_done ?_)
          refine S_ret (E_done1 rfl rfl E ?_)
          cases x; cases y; simp_all

set_option maxRecDepth 20000 in
theorem c_toDone (x : Done) (w : World)  : Ct Try.prog 40 [.agg (Enc.enc x).toArray] w (fun v _ => v = .agg (Enc.enc x).toArray) := by
  refine ct_of Try.func40 rfl Try.ntmps40 rfl ?_
  refine S_sub [(0, .agg (Enc.enc x).toArray)] ⟨rfl, trivial⟩ ?_
  have E : Ext w w := Ext.refl w
  refine S_seq ?_
  refine S_reg [false, false] rfl rfl ?_
  refine J_box rfl rfl (fun b1 w1 e1 s1 h1 => ?_)
  have g_b1 : w.heap.size ≤ b1 := by have := E.size; omega
  have y_b1 := h1.lt
  replace E := E.trans e1
  have z1 := e1.size
  refine J_alloc st81 rfl (fun b2 w2 e2 s2 h2 => ?_)
  have g_b2 : w.heap.size ≤ b2 := by have := E.size; omega
  have y_b2 := h2.lt
  replace E := E.trans e2; replace h1 := h1.ext e2
  have z2 := e2.size
  refine J_done ?_
  refine S_seq ?_
  refine S_reg [false] rfl rfl ?_
  refine J_alloc st81 rfl (fun b3 w3 e3 s3 h3 => ?_)
  have g_b3 : w.heap.size ≤ b3 := by have := E.size; omega
  have y_b3 := h3.lt
  replace E := E.trans e3; replace h1 := h1.ext e3; replace h2 := h2.ext e3
  have z3 := e3.size
  refine J_done ?_
  refine S_seq ?_
  refine S_reg [true, true, true, false] rfl rfl ?_
  refine J_st (R_fieldAddr0 fl83_0 rfl) rfl (J_st (R_load sc3 rfl (h1.one 0 rfl)) rfl (J_st (R_fieldAddr0 fl81_0 rfl) rfl ?_))
  refine J_store' (cs' := [.int .i64 x.epoch, .bool false]) sc3 rfl rfl rfl h3 (Nat.le_of_ble_eq_true rfl) rfl (fun w4 m1 h3' => ?_)
  replace h3 := h3'
  replace E := E.step m1 (fun g hg => by cases hg; omega); replace h1 := h1.mod m1 (fun g hg => by cases hg; omega); replace h2 := h2.mod m1 (fun g hg => by cases hg; omega)
  have z4 := m1.size
  refine J_done ?_
  refine S_seq ?_
  refine S_reg [true, true, true, false] rfl rfl ?_
  refine J_st (R_fieldAddr0 fl83_1 rfl) rfl (J_st (R_load sc4 rfl (h1.one 1 rfl)) rfl (J_st (R_fieldAddr0 fl81_1 rfl) rfl ?_))
  refine J_store' (cs' := [.int .i64 x.epoch, .bool x.capped]) sc4 rfl rfl rfl h3 (Nat.le_of_ble_eq_true rfl) rfl (fun w5 m2 h3' => ?_)
  replace h3 := h3'
  replace E := E.step m2 (fun g hg => by cases hg; omega); replace h1 := h1.mod m2 (fun g hg => by cases hg; omega); replace h2 := h2.mod m2 (fun g hg => by cases hg; omega)
  have z5 := m2.size
  refine J_done ?_
  refine S_seq ?_
  refine S_reg [true, false] rfl rfl ?_
  refine J_st (R_loadS st81 rfl h3.at rfl) rfl ?_
  refine J_storeS' (cs' := [.int .i64 x.epoch, .bool x.capped]) st81 rfl rfl rfl rfl h2 (Nat.le_of_ble_eq_true rfl) rfl (fun w6 m3 h2' => ?_)
  replace h2 := h2'
  replace E := E.step m3 (fun g hg => by cases hg; omega); replace h1 := h1.mod m3 (fun g hg => by cases hg; omega); replace h3 := h3.mod m3 (fun g hg => by cases hg; omega)
  have z6 := m3.size
  refine J_done ?_
  refine S_ret (E_doneC rfl rfl (run_loadVar_st st81 h2.at rfl) E ?_)
  rfl

set_option maxRecDepth 20000 in
theorem c_eqDone (x : Done) (y : Done) (w : World)  : Ct Try.prog 46 [.agg (Enc.enc x).toArray, .agg (Enc.enc y).toArray] w (fun v _ => v = .bool (decide (x = y))) := by
  refine ct_of Try.func46 rfl Try.ntmps46 rfl ?_
  refine S_sub [(0, .agg (Enc.enc x).toArray), (1, .agg (Enc.enc y).toArray)] ⟨rfl, rfl, trivial⟩ ?_
  have E : Ext w w := Ext.refl w
  refine S_seq ?_
  refine S_reg [false, false, true] rfl rfl ?_
  refine J_box rfl rfl (fun b1 w1 e1 s1 h1 => ?_)
  have g_b1 : w.heap.size ≤ b1 := by have := E.size; omega
  have y_b1 := h1.lt
  replace E := E.trans e1
  have z1 := e1.size
  refine J_box rfl rfl (fun b2 w2 e2 s2 h2 => ?_)
  have g_b2 : w.heap.size ≤ b2 := by have := E.size; omega
  have y_b2 := h2.lt
  replace E := E.trans e2; replace h1 := h1.ext e2
  have z2 := e2.size
  refine J_st (R_assign rfl) rfl (J_done ?_)
  refine S_seq ?_
  refine S_seq ?_
  refine S_reg [true, true, true, true, true] rfl rfl ?_
  refine J_st (R_fieldAddr0 fl81_0 rfl) rfl (J_st (R_load sc3 rfl (h1.one 0 rfl)) rfl (J_st (R_fieldAddr0 fl81_0 rfl) rfl (J_st (R_load sc3 rfl (h2.one 0 rfl)) rfl (J_st (R_neq rfl rfl) rfl (J_done ?_)))))
  refine S_cond rfl (fun hc1 => ?_) (fun hc1 => ?_)
  · refine S_seq ?_
    refine S_reg [true] rfl rfl ?_
    refine J_st (R_assign rfl) rfl (J_done ?_)
    refine S_ret (E_done1 rfl rfl E ?_)
    cases x; cases y; simp_all
  · refine S_skip ?_
    refine S_seq ?_
    refine S_seq ?_
    refine S_reg [true, true, true, true, true] rfl rfl ?_
    refine J_st (R_fieldAddr0 fl81_1 rfl) rfl (J_st (R_load sc4 rfl (h1.one 1 rfl)) rfl (J_st (R_fieldAddr0 fl81_1 rfl) rfl (J_st (R_load sc4 rfl (h2.one 1 rfl)) rfl (J_st (R_neqB (Try.underlying4) rfl rfl) rfl (J_done ?_)))))
    refine S_cond rfl (fun hc2 => ?_) (fun hc2 => ?_)
    · refine S_seq ?_
      refine S_reg [true] rfl rfl ?_
      refine J_st (R_assign rfl) rfl (J_done ?_)
      refine S_ret (E_done1 rfl rfl E ?_)
      cases x; cases y; simp_all
    · refine S_skip ?_
      refine S_seq ?_
      refine S_reg [true] rfl rfl ?_
      refine J_st (R_assign rfl) rfl (J_done ?_)
      refine S_ret (E_done1 rfl rfl E ?_)
      cases x; cases y; simp_all

set_option maxRecDepth 20000 in
theorem c_szRecordS (vxs : Value) (xs : List Record) (n : Int) (w : World) (hxs : RdS w vxs xs) (h0 : 0 ≤ n ∧ n ≤ 1048576) : Ct Try.prog 13 [vxs, .int .i64 n] w (fun v _ => v = .int .i64 (szM xs.length n)) := by
  refine ct_of Try.func13 rfl Try.ntmps13 rfl ?_
  refine S_sub [(0, vxs), (1, .int .i64 n)] ⟨rfl, rfl, trivial⟩ ?_
  have E : Ext w w := Ext.refl w
  refine S_seq ?_
  refine S_reg [true] rfl rfl ?_
  refine J_st (R_assign rfl) rfl (J_done ?_)
  refine S_seq ?_
  refine S_reg [true, true, true, true, true] rfl rfl ?_
  refine J_st (R_move rfl) rfl (J_st (R_move rfl) rfl (J_st (R_len Try.underlying22 rfl (hxs.ext E).len) rfl (J_st (R_sub rfl rfl rfl) rfl (J_st (R_assign rfl) rfl (J_done ?_)))))
  refine S_seq ?_
  refine S_seq ?_
  refine S_reg [true, true] rfl rfl ?_
  refine J_st (R_move rfl) rfl (J_st (R_lss rfl rfl) rfl (J_done ?_))
  refine S_cond rfl (fun hc1 => ?_) (fun hc1 => ?_)
  · refine S_seq ?_
    refine S_reg [true] rfl rfl ?_
    refine J_st (R_assign rfl) rfl (J_done ?_)
    refine S_ret (E_done1 rfl rfl E ?_)
    exact sz_no h0.2 h0.1 hxs.1 hc1
  · refine S_skip ?_
    refine S_seq ?_
    refine S_reg [true, true] rfl rfl ?_
    refine J_st (R_move rfl) rfl (J_st (R_assign rfl) rfl (J_done ?_))
    refine S_ret (E_done1 rfl rfl E ?_)
    exact sz_yes h0.2 h0.1 hxs.1 hc1

set_option maxRecDepth 20000 in
theorem c_toRecordS (vxs : Value) (xs : List Record) (w : World) (hxs : RdS w vxs xs) (hb : xs.length ≤ 1048576) : Ct Try.prog 19 [vxs] w (fun v w' => Own w' w.heap.size w'.heap.size 5 v (List.flatMap (Enc.enc (α := Record)) xs)) := by
  refine ct_of Try.func19 rfl Try.ntmps19 rfl ?_
  refine S_sub [(0, vxs)] ⟨rfl, trivial⟩ ?_
  have E : Ext w w := Ext.refl w
  refine S_seq ?_
  refine S_reg [true] rfl rfl ?_
  refine J_st (R_assign rfl) rfl (J_done ?_)
  refine S_seq ?_
  refine S_reg [true, true, false, true] rfl rfl ?_
  refine J_st (R_move rfl) rfl (J_st (R_len Try.underlying22 rfl (hxs.ext E).len) rfl ?_)
  refine J_make (m := xs.length) sl32 rfl rfl (by omega) (by decide) rfl (fun b1 w1 e1 s1 h1 => ?_)
  have g_b1 : w.heap.size ≤ b1 := by have := E.size; omega
  have y_b1 := h1.lt
  replace E := E.trans e1
  have z1 := e1.size
  refine J_st (R_assign rfl) rfl (J_done ?_)
  refine S_seq ?_
  refine S_seq ?_
  refine S_reg [true] rfl rfl ?_
  refine J_st (R_assign rfl) rfl (J_done ?_)
  refine S_block ?_
  refine S_loop (fun (k : Nat) => [(0, vxs), (2, .slice none 0 0), (3, .slice (some ⟨b1, 0, none⟩) xs.length xs.length), (4, .int .i64 ((k : Nat) : Int))]) (fun (k : Nat) w' => Ext w w' ∧ w1.heap.size ≤ w'.heap.size ∧ k ≤ xs.length ∧ Blk w' b1 (mk xs [.int .i64 0, .int .i64 0, .int .i64 0, .int .i64 0, .int .i64 0] k xs.length)) (fun (k : Nat) => xs.length - k) 0 ⟨rfl, rfl, rfl, rfl, trivial⟩ ⟨E, Nat.le_refl _, Nat.zero_le _, (mk_zero xs [.int .i64 0, .int .i64 0, .int .i64 0, .int .i64 0, .int .i64 0] xs.length) ▸ h1⟩ ?_
  clear E h1
  rintro k w2 ⟨E, z2, hk, h1⟩
  refine S_seq ?_
  refine S_seq ?_
  refine S_reg [true, true, true, true] rfl rfl ?_
  refine J_st (R_move rfl) rfl (J_st (R_move rfl) rfl (J_st (R_len Try.underlying22 rfl (hxs.ext E).len) rfl (J_st (R_lss rfl rfl) rfl (J_done ?_))))
  refine S_cond rfl (fun hc1 => ?_) (fun hc1 => ?_)
  · have hc1n : k < xs.length := by first | (have h := of_decide_eq_true hc1; omega) | (have h := hc1; simp at h; omega)
    refine S_skip ?_
    refine S_seq ?_
    refine S_block ?_
    refine S_reg [true, true, true, true, true, true, false, true, false] rfl rfl ?_
    refine J_st (R_move rfl) rfl (J_st (R_move rfl) rfl (J_st (R_move rfl) rfl (J_st (R_move rfl) rfl ?_)))
    have hi1 : k < xs.length := (by first | assumption | omega | (simp only [List.length_set]; first | assumption | omega) | (simp only [List.getElem_set_self, List.length_set]; first | assumption | omega) | (simp only [setW, setLk, List.length_set]; first | assumption | omega) | (simp; done))
    refine J_st (R_index (i := k) sl22 rfl rfl (hxs.ext E) hi1) rfl (J_st (R_loadS st75 rfl ((hxs.ext E).get hi1) rfl) rfl ?_)
    refine J_call Try.call38 rfl (c_toRecord (xs[k]'hi1) _ ) rfl (fun _ w3 e2 hv => ?_)
    subst hv
    replace E := E.trans e2; replace h1 := h1.ext e2
    have z3 := e2.size
    refine J_st (R_indexB sl32 rfl rfl (by first | assumption | omega | (simp only [List.length_set]; first | assumption | omega) | (simp only [List.getElem_set_self, List.length_set]; first | assumption | omega) | (simp only [setW, setLk, List.length_set]; first | assumption | omega) | (simp; done))) rfl ?_
    refine J_storeS' (cs' := mk xs [.int .i64 0, .int .i64 0, .int .i64 0, .int .i64 0, .int .i64 0] (k + 1) xs.length) st71 rfl rfl rfl rfl h1 (mk_room xs [.int .i64 0, .int .i64 0, .int .i64 0, .int .i64 0, .int .i64 0] rfl hc1n hc1n (by rfl)) (mk_step xs [.int .i64 0, .int .i64 0, .int .i64 0, .int .i64 0, .int .i64 0] rfl hc1n hc1n) (fun w4 m1 h1' => ?_)
    replace h1 := h1'
    replace E := E.step m1 (fun g hg => by cases hg; omega)
    have z4 := m1.size
    refine J_done ?_
    refine S_nil (E_inB ?_)
    refine S_reg [true, true, true] rfl rfl ?_
    refine J_st (R_move rfl) rfl (J_st (R_add rfl rfl (add_one hc1n hxs.1)) rfl (J_st (R_assign rfl) rfl (J_done ?_)))
    refine S_nil (E_again (k + 1) (by omega) ⟨rfl, rfl, rfl, rfl, trivial⟩ ⟨E, (by omega), (by omega), h1⟩)
  · have hc1n : ¬ k < xs.length := by first | (have h := of_decide_eq_false hc1; omega) | (have h := hc1; simp at h; omega)
    refine S_exit (E_lp_exit (E_inB_exit ?_))
    refine S_seq ?_
    refine S_reg [true, true] rfl rfl ?_
    refine J_st (R_move rfl) rfl (J_st (R_assign rfl) rfl (J_done ?_))
    refine S_ret (E_done1 rfl rfl E ?_)
    obtain rfl : k = xs.length := by omega
    rw [mk_all] at h1
    exact Own.ofBlk h1 (by omega) (by have := h1.lt; omega) (sum_flat xs) hxs.1

set_option maxRecDepth 20000 in
theorem c_eqRecordS (vxs : Value) (xs : List Record) (vys : Value) (ys : List Record) (w : World) (hxs : RdS w vxs xs) (hys : RdS w vys ys) : Ct Try.prog 27 [vxs, vys] w (fun v _ => v = .bool (decide (xs = ys))) := by
  refine ct_of Try.func27 rfl Try.ntmps27 rfl ?_
  refine S_sub [(0, vxs), (1, vys)] ⟨rfl, rfl, trivial⟩ ?_
  have E : Ext w w := Ext.refl w
  refine S_seq ?_
  refine S_reg [true] rfl rfl ?_
  refine J_st (R_assign rfl) rfl (J_done ?_)
  refine S_seq ?_
  refine S_seq ?_
  refine S_reg [true, true, true, true, true] rfl rfl ?_
  refine J_st (R_move rfl) rfl (J_st (R_len Try.underlying32 rfl (hxs.ext E).len) rfl (J_st (R_move rfl) rfl (J_st (R_len Try.underlying32 rfl (hys.ext E).len) rfl (J_st (R_neq rfl rfl) rfl (J_done ?_)))))
  refine S_cond rfl (fun hc1 => ?_) (fun hc1 => ?_)
  · have hc1n : ¬ xs.length = ys.length := by first | (have h := of_decide_eq_true hc1; omega) | (have h := hc1; simp at h; omega)
    refine S_seq ?_
    refine S_reg [true] rfl rfl ?_
    refine J_st (R_assign rfl) rfl (J_done ?_)
    refine S_ret (E_done1 rfl rfl E ?_)
    simp [eq_len hc1n]
  · have hc1n : xs.length = ys.length := by first | (have h := of_decide_eq_false hc1; omega) | (have h := hc1; simp at h; omega)
    refine S_skip ?_
    refine S_seq ?_
    refine S_seq ?_
    refine S_reg [true] rfl rfl ?_
    refine J_st (R_assign rfl) rfl (J_done ?_)
    refine S_block ?_
    refine S_loop (fun (k : Nat) => [(0, vxs), (1, vys), (4, .bool false), (5, .int .i64 ((k : Nat) : Int))]) (fun (k : Nat) w' => Ext w w' ∧ w.heap.size ≤ w'.heap.size ∧ k ≤ xs.length ∧ xs.take k = ys.take k) (fun (k : Nat) => xs.length - k) 0 ⟨rfl, rfl, rfl, rfl, trivial⟩ ⟨E, Nat.le_refl _, Nat.zero_le _, rfl⟩ ?_
    clear E
    rintro k w1 ⟨E, z1, hk, hp⟩
    refine S_seq ?_
    refine S_seq ?_
    refine S_reg [true, true, true, true] rfl rfl ?_
    refine J_st (R_move rfl) rfl (J_st (R_move rfl) rfl (J_st (R_len Try.underlying32 rfl (hxs.ext E).len) rfl (J_st (R_lss rfl rfl) rfl (J_done ?_))))
    refine S_cond rfl (fun hc2 => ?_) (fun hc2 => ?_)
    · have hc2n : k < xs.length := by first | (have h := of_decide_eq_true hc2; omega) | (have h := hc2; simp at h; omega)
      refine S_skip ?_
      refine S_seq ?_
      refine S_block ?_
      refine S_seq ?_
      refine S_regD mixed [(0, true), (1, true), (2, true), (3, true), (4, true), (5, true), (6, true), (7, true), (8, false), (9, true)] (by decide +kernel) rfl (fun w2 e1 => ?_)
      replace E := E.trans e1
      have z2 := e1.size
      refine J_st (R_move rfl) rfl (J_st (R_move rfl) rfl ?_)
      have hi1 : k < xs.length := (by first | assumption | omega | (simp only [List.length_set]; first | assumption | omega) | (simp only [List.getElem_set_self, List.length_set]; first | assumption | omega) | (simp only [setW, setLk, List.length_set]; first | assumption | omega) | (simp; done))
      refine J_st (R_index (i := k) sl32 rfl rfl (hxs.ext E) hi1) rfl (J_st (R_loadS st71 rfl ((hxs.ext E).get hi1) rfl) rfl (J_st (R_move rfl) rfl (J_st (R_move rfl) rfl ?_)))
      have hi2 : k < ys.length := (by first | assumption | omega | (simp only [List.length_set]; first | assumption | omega) | (simp only [List.getElem_set_self, List.length_set]; first | assumption | omega) | (simp only [setW, setLk, List.length_set]; first | assumption | omega) | (simp; done))
      refine J_st (R_index (i := k) sl32 rfl rfl (hys.ext E) hi2) rfl (J_st (R_loadS st71 rfl ((hys.ext E).get hi2) rfl) rfl ?_)
      refine J_call Try.call44 rfl (c_eqRecord (xs[k]'hi1) (ys[k]'hi2) _ ) rfl (fun _ w3 e2 hv => ?_)
      subst hv
      replace E := E.trans e2
      have z3 := e2.size
      refine J_st (R_not rfl) rfl (J_done ?_)
      refine S_cond rfl (fun hc3 => ?_) (fun hc3 => ?_)
      · refine S_seq ?_
        refine S_reg [true] rfl rfl ?_
        refine J_st (R_assign rfl) rfl (J_done ?_)
        refine S_ret (E_inB_ret (E_lp_ret (E_inB_ret (E_done1 rfl rfl E ?_))))
        exact eqS_no (by omega) (by omega) (by simpa using hc3)
      · refine S_skip ?_
        refine S_nil (E_inB ?_)
        refine S_reg [true, true, true] rfl rfl ?_
        refine J_st (R_move rfl) rfl (J_st (R_add rfl rfl (add_one hc2n hxs.1)) rfl (J_st (R_assign rfl) rfl (J_done ?_)))
        refine S_nil (E_again (k + 1) (by omega) ⟨rfl, rfl, rfl, rfl, trivial⟩ ⟨E, (by omega), (by omega), eqS_step hp (by assumption) (by omega) (by simpa using hc3)⟩)
    · have hc2n : ¬ k < xs.length := by first | (have h := of_decide_eq_false hc2; omega) | (have h := hc2; simp at h; omega)
      refine S_exit (E_lp_exit (E_inB_exit ?_))
      refine S_seq ?_
      refine S_reg [true] rfl rfl ?_
      refine J_st (R_assign rfl) rfl (J_done ?_)
      refine S_ret (E_done1 rfl rfl E ?_)
      exact eqS_yes hp hc1n (by omega)

set_option maxRecDepth 20000 in
theorem c_szBoolS (vxs : Value) (xs : List Bool) (n : Int) (w : World) (hxs : RdS w vxs xs) (h0 : 0 ≤ n ∧ n ≤ 1048576) : Ct Try.prog 16 [vxs, .int .i64 n] w (fun v _ => v = .int .i64 (szM xs.length n)) := by
  refine ct_of Try.func16 rfl Try.ntmps16 rfl ?_
  refine S_sub [(0, vxs), (1, .int .i64 n)] ⟨rfl, rfl, trivial⟩ ?_
  have E : Ext w w := Ext.refl w
  refine S_seq ?_
  refine S_reg [true] rfl rfl ?_
  refine J_st (R_assign rfl) rfl (J_done ?_)
  refine S_seq ?_
  refine S_reg [true, true, true, true, true] rfl rfl ?_
  refine J_st (R_move rfl) rfl (J_st (R_move rfl) rfl (J_st (R_len Try.underlying25 rfl (hxs.ext E).len) rfl (J_st (R_sub rfl rfl rfl) rfl (J_st (R_assign rfl) rfl (J_done ?_)))))
  refine S_seq ?_
  refine S_seq ?_
  refine S_reg [true, true] rfl rfl ?_
  refine J_st (R_move rfl) rfl (J_st (R_lss rfl rfl) rfl (J_done ?_))
  refine S_cond rfl (fun hc1 => ?_) (fun hc1 => ?_)
  · refine S_seq ?_
    refine S_reg [true] rfl rfl ?_
    refine J_st (R_assign rfl) rfl (J_done ?_)
    refine S_ret (E_done1 rfl rfl E ?_)
    exact sz_no h0.2 h0.1 hxs.1 hc1
  · refine S_skip ?_
    refine S_seq ?_
    refine S_reg [true, true] rfl rfl ?_
    refine J_st (R_move rfl) rfl (J_st (R_assign rfl) rfl (J_done ?_))
    refine S_ret (E_done1 rfl rfl E ?_)
    exact sz_yes h0.2 h0.1 hxs.1 hc1

set_option maxRecDepth 20000 in
theorem c_toBoolS (vxs : Value) (xs : List Bool) (w : World) (hxs : RdS w vxs xs) (hb : xs.length ≤ 1048576) : Ct Try.prog 22 [vxs] w (fun v w' => Own w' w.heap.size w'.heap.size 1 v (List.flatMap (Enc.enc (α := Bool)) xs)) := by
  refine ct_of Try.func22 rfl Try.ntmps22 rfl ?_
  refine S_sub [(0, vxs)] ⟨rfl, trivial⟩ ?_
  have E : Ext w w := Ext.refl w
  refine S_seq ?_
  refine S_reg [true] rfl rfl ?_
  refine J_st (R_assign rfl) rfl (J_done ?_)
  refine S_seq ?_
  refine S_reg [true, true, false, true] rfl rfl ?_
  refine J_st (R_move rfl) rfl (J_st (R_len Try.underlying25 rfl (hxs.ext E).len) rfl ?_)
  refine J_make (m := xs.length) sl25 rfl rfl (by omega) (by decide) rfl (fun b1 w1 e1 s1 h1 => ?_)
  have g_b1 : w.heap.size ≤ b1 := by have := E.size; omega
  have y_b1 := h1.lt
  replace E := E.trans e1
  have z1 := e1.size
  refine J_st (R_assign rfl) rfl (J_done ?_)
  refine S_seq ?_
  refine S_seq ?_
  refine S_reg [true] rfl rfl ?_
  refine J_st (R_assign rfl) rfl (J_done ?_)
  refine S_block ?_
  refine S_loop (fun (k : Nat) => [(0, vxs), (2, .slice none 0 0), (3, .slice (some ⟨b1, 0, none⟩) xs.length xs.length), (4, .int .i64 ((k : Nat) : Int))]) (fun (k : Nat) w' => Ext w w' ∧ w1.heap.size ≤ w'.heap.size ∧ k ≤ xs.length ∧ Blk w' b1 (mk xs [.bool false] k xs.length)) (fun (k : Nat) => xs.length - k) 0 ⟨rfl, rfl, rfl, rfl, trivial⟩ ⟨E, Nat.le_refl _, Nat.zero_le _, (mk_zero xs [.bool false] xs.length) ▸ h1⟩ ?_
  clear E h1
  rintro k w2 ⟨E, z2, hk, h1⟩
  refine S_seq ?_
  refine S_seq ?_
  refine S_reg [true, true, true, true] rfl rfl ?_
  refine J_st (R_move rfl) rfl (J_st (R_move rfl) rfl (J_st (R_len Try.underlying25 rfl (hxs.ext E).len) rfl (J_st (R_lss rfl rfl) rfl (J_done ?_))))
  refine S_cond rfl (fun hc1 => ?_) (fun hc1 => ?_)
  · have hc1n : k < xs.length := by first | (have h := of_decide_eq_true hc1; omega) | (have h := hc1; simp at h; omega)
    refine S_skip ?_
    refine S_seq ?_
    refine S_block ?_
    refine S_reg [true, true, true, true, true, true, true, false] rfl rfl ?_
    refine J_st (R_move rfl) rfl (J_st (R_move rfl) rfl (J_st (R_move rfl) rfl (J_st (R_move rfl) rfl ?_)))
    have hi1 : k < xs.length := (by first | assumption | omega | (simp only [List.length_set]; first | assumption | omega) | (simp only [List.getElem_set_self, List.length_set]; first | assumption | omega) | (simp only [setW, setLk, List.length_set]; first | assumption | omega) | (simp; done))
    refine J_st (R_index (i := k) sl25 rfl rfl (hxs.ext E) hi1) rfl (J_st (R_load sc4 rfl (((hxs.ext E).get hi1).one 0 rfl)) rfl (J_st (R_indexB sl25 rfl rfl (by first | assumption | omega | (simp only [List.length_set]; first | assumption | omega) | (simp only [List.getElem_set_self, List.length_set]; first | assumption | omega) | (simp only [setW, setLk, List.length_set]; first | assumption | omega) | (simp; done))) rfl ?_))
    refine J_store' (cs' := mk xs [.bool false] (k + 1) xs.length) sc4 rfl rfl rfl h1 (mk_room xs [.bool false] rfl hc1n hc1n (by rfl)) (mk_step xs [.bool false] rfl hc1n hc1n) (fun w3 m1 h1' => ?_)
    replace h1 := h1'
    replace E := E.step m1 (fun g hg => by cases hg; omega)
    have z3 := m1.size
    refine J_done ?_
    refine S_nil (E_inB ?_)
    refine S_reg [true, true, true] rfl rfl ?_
    refine J_st (R_move rfl) rfl (J_st (R_add rfl rfl (add_one hc1n hxs.1)) rfl (J_st (R_assign rfl) rfl (J_done ?_)))
    refine S_nil (E_again (k + 1) (by omega) ⟨rfl, rfl, rfl, rfl, trivial⟩ ⟨E, (by omega), (by omega), h1⟩)
  · have hc1n : ¬ k < xs.length := by first | (have h := of_decide_eq_false hc1; omega) | (have h := hc1; simp at h; omega)
    refine S_exit (E_lp_exit (E_inB_exit ?_))
    refine S_seq ?_
    refine S_reg [true, true] rfl rfl ?_
    refine J_st (R_move rfl) rfl (J_st (R_assign rfl) rfl (J_done ?_))
    refine S_ret (E_done1 rfl rfl E ?_)
    obtain rfl : k = xs.length := by omega
    rw [mk_all] at h1
    exact Own.ofBlk h1 (by omega) (by have := h1.lt; omega) (sum_flat xs) hxs.1

set_option maxRecDepth 20000 in
theorem c_eqBoolS (vxs : Value) (xs : List Bool) (vys : Value) (ys : List Bool) (w : World) (hxs : RdS w vxs xs) (hys : RdS w vys ys) : Ct Try.prog 30 [vxs, vys] w (fun v _ => v = .bool (decide (xs = ys))) := by
  refine ct_of Try.func30 rfl Try.ntmps30 rfl ?_
  refine S_sub [(0, vxs), (1, vys)] ⟨rfl, rfl, trivial⟩ ?_
  have E : Ext w w := Ext.refl w
  refine S_seq ?_
  refine S_reg [true] rfl rfl ?_
  refine J_st (R_assign rfl) rfl (J_done ?_)
  refine S_seq ?_
  refine S_seq ?_
  refine S_reg [true, true, true, true, true] rfl rfl ?_
  refine J_st (R_move rfl) rfl (J_st (R_len Try.underlying25 rfl (hxs.ext E).len) rfl (J_st (R_move rfl) rfl (J_st (R_len Try.underlying25 rfl (hys.ext E).len) rfl (J_st (R_neq rfl rfl) rfl (J_done ?_)))))
  refine S_cond rfl (fun hc1 => ?_) (fun hc1 => ?_)
  · have hc1n : ¬ xs.length = ys.length := by first | (have h := of_decide_eq_true hc1; omega) | (have h := hc1; simp at h; omega)
    refine S_seq ?_
    refine S_reg [true] rfl rfl ?_
    refine J_st (R_assign rfl) rfl (J_done ?_)
    refine S_ret (E_done1 rfl rfl E ?_)
    simp [eq_len hc1n]
  · have hc1n : xs.length = ys.length := by first | (have h := of_decide_eq_false hc1; omega) | (have h := hc1; simp at h; omega)
    refine S_skip ?_
    refine S_seq ?_
    refine S_seq ?_
    refine S_reg [true] rfl rfl ?_
    refine J_st (R_assign rfl) rfl (J_done ?_)
    refine S_block ?_
    refine S_loop (fun (k : Nat) => [(0, vxs), (1, vys), (4, .bool false), (5, .int .i64 ((k : Nat) : Int))]) (fun (k : Nat) w' => Ext w w' ∧ w.heap.size ≤ w'.heap.size ∧ k ≤ xs.length ∧ xs.take k = ys.take k) (fun (k : Nat) => xs.length - k) 0 ⟨rfl, rfl, rfl, rfl, trivial⟩ ⟨E, Nat.le_refl _, Nat.zero_le _, rfl⟩ ?_
    clear E
    rintro k w1 ⟨E, z1, hk, hp⟩
    refine S_seq ?_
    refine S_seq ?_
    refine S_reg [true, true, true, true] rfl rfl ?_
    refine J_st (R_move rfl) rfl (J_st (R_move rfl) rfl (J_st (R_len Try.underlying25 rfl (hxs.ext E).len) rfl (J_st (R_lss rfl rfl) rfl (J_done ?_))))
    refine S_cond rfl (fun hc2 => ?_) (fun hc2 => ?_)
    · have hc2n : k < xs.length := by first | (have h := of_decide_eq_true hc2; omega) | (have h := hc2; simp at h; omega)
      refine S_skip ?_
      refine S_seq ?_
      refine S_block ?_
      refine S_seq ?_
      refine S_regD mixed [(0, true), (1, true), (2, true), (3, true), (4, true), (5, true), (6, true), (7, true), (8, true)] (by decide +kernel) rfl (fun w2 e1 => ?_)
      replace E := E.trans e1
      have z2 := e1.size
      refine J_st (R_move rfl) rfl (J_st (R_move rfl) rfl ?_)
      have hi1 : k < xs.length := (by first | assumption | omega | (simp only [List.length_set]; first | assumption | omega) | (simp only [List.getElem_set_self, List.length_set]; first | assumption | omega) | (simp only [setW, setLk, List.length_set]; first | assumption | omega) | (simp; done))
      refine J_st (R_index (i := k) sl25 rfl rfl (hxs.ext E) hi1) rfl (J_st (R_load sc4 rfl (((hxs.ext E).get hi1).one 0 rfl)) rfl (J_st (R_move rfl) rfl (J_st (R_move rfl) rfl ?_)))
      have hi2 : k < ys.length := (by first | assumption | omega | (simp only [List.length_set]; first | assumption | omega) | (simp only [List.getElem_set_self, List.length_set]; first | assumption | omega) | (simp only [setW, setLk, List.length_set]; first | assumption | omega) | (simp; done))
      refine J_st (R_index (i := k) sl25 rfl rfl (hys.ext E) hi2) rfl (J_st (R_load sc4 rfl (((hys.ext E).get hi2).one 0 rfl)) rfl (J_st (R_neqB (Try.underlying4) rfl rfl) rfl (J_done ?_)))
      refine S_cond rfl (fun hc3 => ?_) (fun hc3 => ?_)
      · refine S_seq ?_
        refine S_reg [true] rfl rfl ?_
        refine J_st (R_assign rfl) rfl (J_done ?_)
        refine S_ret (E_inB_ret (E_lp_ret (E_inB_ret (E_done1 rfl rfl E ?_))))
        exact eqS_no (by omega) (by omega) (by simpa using hc3)
      · refine S_skip ?_
        refine S_nil (E_inB ?_)
        refine S_reg [true, true, true] rfl rfl ?_
        refine J_st (R_move rfl) rfl (J_st (R_add rfl rfl (add_one hc2n hxs.1)) rfl (J_st (R_assign rfl) rfl (J_done ?_)))
        refine S_nil (E_again (k + 1) (by omega) ⟨rfl, rfl, rfl, rfl, trivial⟩ ⟨E, (by omega), (by omega), eqS_step hp (by assumption) (by omega) (by simpa using hc3)⟩)
    · have hc2n : ¬ k < xs.length := by first | (have h := of_decide_eq_false hc2; omega) | (have h := hc2; simp at h; omega)
      refine S_exit (E_lp_exit (E_inB_exit ?_))
      refine S_seq ?_
      refine S_reg [true] rfl rfl ?_
      refine J_st (R_assign rfl) rfl (J_done ?_)
      refine S_ret (E_done1 rfl rfl E ?_)
      exact eqS_yes hp hc1n (by omega)

set_option maxRecDepth 20000 in
theorem c_szDoneS (vxs : Value) (xs : List Done) (n : Int) (w : World) (hxs : RdS w vxs xs) (h0 : 0 ≤ n ∧ n ≤ 1048576) : Ct Try.prog 17 [vxs, .int .i64 n] w (fun v _ => v = .int .i64 (szM xs.length n)) := by
  refine ct_of Try.func17 rfl Try.ntmps17 rfl ?_
  refine S_sub [(0, vxs), (1, .int .i64 n)] ⟨rfl, rfl, trivial⟩ ?_
  have E : Ext w w := Ext.refl w
  refine S_seq ?_
  refine S_reg [true] rfl rfl ?_
  refine J_st (R_assign rfl) rfl (J_done ?_)
  refine S_seq ?_
  refine S_reg [true, true, true, true, true] rfl rfl ?_
  refine J_st (R_move rfl) rfl (J_st (R_move rfl) rfl (J_st (R_len Try.underlying26 rfl (hxs.ext E).len) rfl (J_st (R_sub rfl rfl rfl) rfl (J_st (R_assign rfl) rfl (J_done ?_)))))
  refine S_seq ?_
  refine S_seq ?_
  refine S_reg [true, true] rfl rfl ?_
  refine J_st (R_move rfl) rfl (J_st (R_lss rfl rfl) rfl (J_done ?_))
  refine S_cond rfl (fun hc1 => ?_) (fun hc1 => ?_)
  · refine S_seq ?_
    refine S_reg [true] rfl rfl ?_
    refine J_st (R_assign rfl) rfl (J_done ?_)
    refine S_ret (E_done1 rfl rfl E ?_)
    exact sz_no h0.2 h0.1 hxs.1 hc1
  · refine S_skip ?_
    refine S_seq ?_
    refine S_reg [true, true] rfl rfl ?_
    refine J_st (R_move rfl) rfl (J_st (R_assign rfl) rfl (J_done ?_))
    refine S_ret (E_done1 rfl rfl E ?_)
    exact sz_yes h0.2 h0.1 hxs.1 hc1

set_option maxRecDepth 20000 in
theorem c_toDoneS (vxs : Value) (xs : List Done) (w : World) (hxs : RdS w vxs xs) (hb : xs.length ≤ 1048576) : Ct Try.prog 23 [vxs] w (fun v w' => Own w' w.heap.size w'.heap.size 2 v (List.flatMap (Enc.enc (α := Done)) xs)) := by
  refine ct_of Try.func23 rfl Try.ntmps23 rfl ?_
  refine S_sub [(0, vxs)] ⟨rfl, trivial⟩ ?_
  have E : Ext w w := Ext.refl w
  refine S_seq ?_
  refine S_reg [true] rfl rfl ?_
  refine J_st (R_assign rfl) rfl (J_done ?_)
  refine S_seq ?_
  refine S_reg [true, true, false, true] rfl rfl ?_
  refine J_st (R_move rfl) rfl (J_st (R_len Try.underlying26 rfl (hxs.ext E).len) rfl ?_)
  refine J_make (m := xs.length) sl34 rfl rfl (by omega) (by decide) rfl (fun b1 w1 e1 s1 h1 => ?_)
  have g_b1 : w.heap.size ≤ b1 := by have := E.size; omega
  have y_b1 := h1.lt
  replace E := E.trans e1
  have z1 := e1.size
  refine J_st (R_assign rfl) rfl (J_done ?_)
  refine S_seq ?_
  refine S_seq ?_
  refine S_reg [true] rfl rfl ?_
  refine J_st (R_assign rfl) rfl (J_done ?_)
  refine S_block ?_
  refine S_loop (fun (k : Nat) => [(0, vxs), (2, .slice none 0 0), (3, .slice (some ⟨b1, 0, none⟩) xs.length xs.length), (4, .int .i64 ((k : Nat) : Int))]) (fun (k : Nat) w' => Ext w w' ∧ w1.heap.size ≤ w'.heap.size ∧ k ≤ xs.length ∧ Blk w' b1 (mk xs [.int .i64 0, .bool false] k xs.length)) (fun (k : Nat) => xs.length - k) 0 ⟨rfl, rfl, rfl, rfl, trivial⟩ ⟨E, Nat.le_refl _, Nat.zero_le _, (mk_zero xs [.int .i64 0, .bool false] xs.length) ▸ h1⟩ ?_
  clear E h1
  rintro k w2 ⟨E, z2, hk, h1⟩
  refine S_seq ?_
  refine S_seq ?_
  refine S_reg [true, true, true, true] rfl rfl ?_
  refine J_st (R_move rfl) rfl (J_st (R_move rfl) rfl (J_st (R_len Try.underlying26 rfl (hxs.ext E).len) rfl (J_st (R_lss rfl rfl) rfl (J_done ?_))))
  refine S_cond rfl (fun hc1 => ?_) (fun hc1 => ?_)
  · have hc1n : k < xs.length := by first | (have h := of_decide_eq_true hc1; omega) | (have h := hc1; simp at h; omega)
    refine S_skip ?_
    refine S_seq ?_
    refine S_block ?_
    refine S_reg [true, true, true, true, true, true, false, true, false] rfl rfl ?_
    refine J_st (R_move rfl) rfl (J_st (R_move rfl) rfl (J_st (R_move rfl) rfl (J_st (R_move rfl) rfl ?_)))
    have hi1 : k < xs.length := (by first | assumption | omega | (simp only [List.length_set]; first | assumption | omega) | (simp only [List.getElem_set_self, List.length_set]; first | assumption | omega) | (simp only [setW, setLk, List.length_set]; first | assumption | omega) | (simp; done))
    refine J_st (R_index (i := k) sl26 rfl rfl (hxs.ext E) hi1) rfl (J_st (R_loadS st83 rfl ((hxs.ext E).get hi1) rfl) rfl ?_)
    refine J_call Try.call40 rfl (c_toDone (xs[k]'hi1) _ ) rfl (fun _ w3 e2 hv => ?_)
    subst hv
    replace E := E.trans e2; replace h1 := h1.ext e2
    have z3 := e2.size
    refine J_st (R_indexB sl34 rfl rfl (by first | assumption | omega | (simp only [List.length_set]; first | assumption | omega) | (simp only [List.getElem_set_self, List.length_set]; first | assumption | omega) | (simp only [setW, setLk, List.length_set]; first | assumption | omega) | (simp; done))) rfl ?_
    refine J_storeS' (cs' := mk xs [.int .i64 0, .bool false] (k + 1) xs.length) st81 rfl rfl rfl rfl h1 (mk_room xs [.int .i64 0, .bool false] rfl hc1n hc1n (by rfl)) (mk_step xs [.int .i64 0, .bool false] rfl hc1n hc1n) (fun w4 m1 h1' => ?_)
    replace h1 := h1'
    replace E := E.step m1 (fun g hg => by cases hg; omega)
    have z4 := m1.size
    refine J_done ?_
    refine S_nil (E_inB ?_)
    refine S_reg [true, true, true] rfl rfl ?_
    refine J_st (R_move rfl) rfl (J_st (R_add rfl rfl (add_one hc1n hxs.1)) rfl (J_st (R_assign rfl) rfl (J_done ?_)))
    refine S_nil (E_again (k + 1) (by omega) ⟨rfl, rfl, rfl, rfl, trivial⟩ ⟨E, (by omega), (by omega), h1⟩)
  · have hc1n : ¬ k < xs.length := by first | (have h := of_decide_eq_false hc1; omega) | (have h := hc1; simp at h; omega)
    refine S_exit (E_lp_exit (E_inB_exit ?_))
    refine S_seq ?_
    refine S_reg [true, true] rfl rfl ?_
    refine J_st (R_move rfl) rfl (J_st (R_assign rfl) rfl (J_done ?_))
    refine S_ret (E_done1 rfl rfl E ?_)
    obtain rfl : k = xs.length := by omega
    rw [mk_all] at h1
    exact Own.ofBlk h1 (by omega) (by have := h1.lt; omega) (sum_flat xs) hxs.1

set_option maxRecDepth 20000 in
theorem c_eqDoneS (vxs : Value) (xs : List Done) (vys : Value) (ys : List Done) (w : World) (hxs : RdS w vxs xs) (hys : RdS w vys ys) : Ct Try.prog 31 [vxs, vys] w (fun v _ => v = .bool (decide (xs = ys))) := by
  refine ct_of Try.func31 rfl Try.ntmps31 rfl ?_
  refine S_sub [(0, vxs), (1, vys)] ⟨rfl, rfl, trivial⟩ ?_
  have E : Ext w w := Ext.refl w
  refine S_seq ?_
  refine S_reg [true] rfl rfl ?_
  refine J_st (R_assign rfl) rfl (J_done ?_)
  refine S_seq ?_
  refine S_seq ?_
  refine S_reg [true, true, true, true, true] rfl rfl ?_
  refine J_st (R_move rfl) rfl (J_st (R_len Try.underlying34 rfl (hxs.ext E).len) rfl (J_st (R_move rfl) rfl (J_st (R_len Try.underlying34 rfl (hys.ext E).len) rfl (J_st (R_neq rfl rfl) rfl (J_done ?_)))))
  refine S_cond rfl (fun hc1 => ?_) (fun hc1 => ?_)
  · have hc1n : ¬ xs.length = ys.length := by first | (have h := of_decide_eq_true hc1; omega) | (have h := hc1; simp at h; omega)
    refine S_seq ?_
    refine S_reg [true] rfl rfl ?_
    refine J_st (R_assign rfl) rfl (J_done ?_)
    refine S_ret (E_done1 rfl rfl E ?_)
    simp [eq_len hc1n]
  · have hc1n : xs.length = ys.length := by first | (have h := of_decide_eq_false hc1; omega) | (have h := hc1; simp at h; omega)
    refine S_skip ?_
    refine S_seq ?_
    refine S_seq ?_
    refine S_reg [true] rfl rfl ?_
    refine J_st (R_assign rfl) rfl (J_done ?_)
    refine S_block ?_
    refine S_loop (fun (k : Nat) => [(0, vxs), (1, vys), (4, .bool false), (5, .int .i64 ((k : Nat) : Int))]) (fun (k : Nat) w' => Ext w w' ∧ w.heap.size ≤ w'.heap.size ∧ k ≤ xs.length ∧ xs.take k = ys.take k) (fun (k : Nat) => xs.length - k) 0 ⟨rfl, rfl, rfl, rfl, trivial⟩ ⟨E, Nat.le_refl _, Nat.zero_le _, rfl⟩ ?_
    clear E
    rintro k w1 ⟨E, z1, hk, hp⟩
    refine S_seq ?_
    refine S_seq ?_
    refine S_reg [true, true, true, true] rfl rfl ?_
    refine J_st (R_move rfl) rfl (J_st (R_move rfl) rfl (J_st (R_len Try.underlying34 rfl (hxs.ext E).len) rfl (J_st (R_lss rfl rfl) rfl (J_done ?_))))
    refine S_cond rfl (fun hc2 => ?_) (fun hc2 => ?_)
    · have hc2n : k < xs.length := by first | (have h := of_decide_eq_true hc2; omega) | (have h := hc2; simp at h; omega)
      refine S_skip ?_
      refine S_seq ?_
      refine S_block ?_
      refine S_seq ?_
      refine S_regD mixed [(0, true), (1, true), (2, true), (3, true), (4, true), (5, true), (6, true), (7, true), (8, false), (9, true)] (by decide +kernel) rfl (fun w2 e1 => ?_)
      replace E := E.trans e1
      have z2 := e1.size
      refine J_st (R_move rfl) rfl (J_st (R_move rfl) rfl ?_)
      have hi1 : k < xs.length := (by first | assumption | omega | (simp only [List.length_set]; first | assumption | omega) | (simp only [List.getElem_set_self, List.length_set]; first | assumption | omega) | (simp only [setW, setLk, List.length_set]; first | assumption | omega) | (simp; done))
      refine J_st (R_index (i := k) sl34 rfl rfl (hxs.ext E) hi1) rfl (J_st (R_loadS st81 rfl ((hxs.ext E).get hi1) rfl) rfl (J_st (R_move rfl) rfl (J_st (R_move rfl) rfl ?_)))
      have hi2 : k < ys.length := (by first | assumption | omega | (simp only [List.length_set]; first | assumption | omega) | (simp only [List.getElem_set_self, List.length_set]; first | assumption | omega) | (simp only [setW, setLk, List.length_set]; first | assumption | omega) | (simp; done))
      refine J_st (R_index (i := k) sl34 rfl rfl (hys.ext E) hi2) rfl (J_st (R_loadS st81 rfl ((hys.ext E).get hi2) rfl) rfl ?_)
      refine J_call Try.call46 rfl (c_eqDone (xs[k]'hi1) (ys[k]'hi2) _ ) rfl (fun _ w3 e2 hv => ?_)
      subst hv
      replace E := E.trans e2
      have z3 := e2.size
      refine J_st (R_not rfl) rfl (J_done ?_)
      refine S_cond rfl (fun hc3 => ?_) (fun hc3 => ?_)
      · refine S_seq ?_
        refine S_reg [true] rfl rfl ?_
        refine J_st (R_assign rfl) rfl (J_done ?_)
        refine S_ret (E_inB_ret (E_lp_ret (E_inB_ret (E_done1 rfl rfl E ?_))))
        exact eqS_no (by omega) (by omega) (by simpa using hc3)
      · refine S_skip ?_
        refine S_nil (E_inB ?_)
        refine S_reg [true, true, true] rfl rfl ?_
        refine J_st (R_move rfl) rfl (J_st (R_add rfl rfl (add_one hc2n hxs.1)) rfl (J_st (R_assign rfl) rfl (J_done ?_)))
        refine S_nil (E_again (k + 1) (by omega) ⟨rfl, rfl, rfl, rfl, trivial⟩ ⟨E, (by omega), (by omega), eqS_step hp (by assumption) (by omega) (by simpa using hc3)⟩)
    · have hc2n : ¬ k < xs.length := by first | (have h := of_decide_eq_false hc2; omega) | (have h := hc2; simp at h; omega)
      refine S_exit (E_lp_exit (E_inB_exit ?_))
      refine S_seq ?_
      refine S_reg [true] rfl rfl ?_
      refine J_st (R_assign rfl) rfl (J_done ?_)
      refine S_ret (E_done1 rfl rfl E ?_)
      exact eqS_yes hp hc1n (by omega)

set_option maxHeartbeats 4000000 in
set_option maxRecDepth 20000 in
theorem c_szWorker (cx : List Value) (x : Worker) (n : Int) (w : World) (hx : Dat.R w 0 w.heap.size cx x) (h0 : 0 ≤ n ∧ n ≤ 1048576) : Ct Try.prog 4 [.agg cx.toArray, .int .i64 n] w (fun v _ => v = .int .i64 (szM (cntWorker x) n)) := by
  refine ct_of Try.func4 rfl Try.ntmps4 rfl ?_
  obtain ⟨o1, o2, o3, o4, o5, o6, o7, o8, rfl, hd1, hd2, hd3, hd4, hd5, hd6, hd7, hd8⟩ := Worker.op hx
  refine S_sub [(0, .agg [o1, o2, o3, o4, o5, o6, o7, o8].toArray), (1, .int .i64 n)] ⟨rfl, rfl, trivial⟩ ?_
  have E : Ext w w := Ext.refl w
  refine S_seq ?_
  refine S_reg [false, true] rfl rfl ?_
  refine J_box rfl rfl (fun b1 w1 e1 s1 h1 => ?_)
  have g_b1 : w.heap.size ≤ b1 := by have := E.size; omega
  have y_b1 := h1.lt
  replace E := E.trans e1
  have z1 := e1.size
  refine J_st (R_assign rfl) rfl (J_done ?_)
  refine S_seq ?_
  refine S_reg [true, true, true, false, true] rfl rfl ?_
  refine J_st (R_fieldAddr0 fl28_0 rfl) rfl (J_st (R_load sc22 rfl (h1.one 0 rfl)) rfl (J_st (R_move rfl) rfl ?_))
  refine J_call Try.call13 rfl (c_szRecordS o1 x.queue n _ (hd1.rd.ext E) (by first | omega | (simp only [mkL_length]; omega) | (rw [mkL_length]; done) | (simp only [mkL_length]; done))) rfl (fun _ w2 e2 hv => ?_)
  subst hv
  replace E := E.trans e2; replace h1 := h1.ext e2
  have z2 := e2.size
  refine J_st (R_assign rfl) rfl (J_done ?_)
  refine S_seq ?_
  refine S_seq ?_
  refine S_reg [true, true] rfl rfl ?_
  refine J_st (R_move rfl) rfl (J_st (R_lss rfl rfl) rfl (J_done ?_))
  refine S_cond rfl (fun hc1 => ?_) (fun hc1 => ?_)
  · have q1 := szM_no hc1 (by omega)
    refine S_seq ?_
    refine S_reg [true] rfl rfl ?_
    refine J_st (R_assign rfl) rfl (J_done ?_)
    refine S_ret (E_done1 rfl rfl E ?_)
    first | exact sz_neg (by unfold cntWorker; omega) | exact sz_fin (by unfold cntWorker; omega) (by unfold cntWorker; omega)
  · have q2 := szM_ok hc1 (by omega)
    refine S_skip ?_
    refine S_seq ?_
    refine S_reg [true, true, true, false, true] rfl rfl ?_
    refine J_st (R_fieldAddr0 fl28_1 rfl) rfl (J_st (R_load sc22 rfl (h1.one 1 rfl)) rfl (J_st (R_move rfl) rfl ?_))
    refine J_call Try.call13 rfl (c_szRecordS o2 x.staged (szM x.queue.length n) _ (hd2.rd.ext E) (by first | omega | (simp only [mkL_length]; omega) | (rw [mkL_length]; done) | (simp only [mkL_length]; done))) rfl (fun _ w3 e3 hv => ?_)
    subst hv
    replace E := E.trans e3; replace h1 := h1.ext e3
    have z3 := e3.size
    refine J_st (R_assign rfl) rfl (J_done ?_)
    refine S_seq ?_
    refine S_seq ?_
    refine S_reg [true, true] rfl rfl ?_
    refine J_st (R_move rfl) rfl (J_st (R_lss rfl rfl) rfl (J_done ?_))
    refine S_cond rfl (fun hc2 => ?_) (fun hc2 => ?_)
    · have q3 := szM_no hc2 (by omega)
      refine S_seq ?_
      refine S_reg [true] rfl rfl ?_
      refine J_st (R_assign rfl) rfl (J_done ?_)
      refine S_ret (E_done1 rfl rfl E ?_)
      first | exact sz_neg (by unfold cntWorker; omega) | exact sz_fin (by unfold cntWorker; omega) (by unfold cntWorker; omega)
    · have q4 := szM_ok hc2 (by omega)
      refine S_skip ?_
      refine S_seq ?_
      refine S_reg [true, true, true, false, true] rfl rfl ?_
      refine J_st (R_fieldAddr0 fl28_2 rfl) rfl (J_st (R_load sc22 rfl (h1.one 2 rfl)) rfl (J_st (R_move rfl) rfl ?_))
      refine J_call Try.call13 rfl (c_szRecordS o3 x.inputs (szM x.staged.length (szM x.queue.length n)) _ (hd3.rd.ext E) (by first | omega | (simp only [mkL_length]; omega) | (rw [mkL_length]; done) | (simp only [mkL_length]; done))) rfl (fun _ w4 e4 hv => ?_)
      subst hv
      replace E := E.trans e4; replace h1 := h1.ext e4
      have z4 := e4.size
      refine J_st (R_assign rfl) rfl (J_done ?_)
      refine S_seq ?_
      refine S_seq ?_
      refine S_reg [true, true] rfl rfl ?_
      refine J_st (R_move rfl) rfl (J_st (R_lss rfl rfl) rfl (J_done ?_))
      refine S_cond rfl (fun hc3 => ?_) (fun hc3 => ?_)
      · have q5 := szM_no hc3 (by omega)
        refine S_seq ?_
        refine S_reg [true] rfl rfl ?_
        refine J_st (R_assign rfl) rfl (J_done ?_)
        refine S_ret (E_done1 rfl rfl E ?_)
        first | exact sz_neg (by unfold cntWorker; omega) | exact sz_fin (by unfold cntWorker; omega) (by unfold cntWorker; omega)
      · have q6 := szM_ok hc3 (by omega)
        refine S_skip ?_
        refine S_seq ?_
        refine S_reg [true, true, true, false, true] rfl rfl ?_
        refine J_st (R_fieldAddr0 fl28_3 rfl) rfl (J_st (R_load sc23 rfl (h1.one 3 rfl)) rfl (J_st (R_move rfl) rfl ?_))
        refine J_call Try.call14 rfl (c_szCellS o4 x.cells (szM x.inputs.length (szM x.staged.length (szM x.queue.length n))) _ (hd4.rd.ext E) (by first | omega | (simp only [mkL_length]; omega) | (rw [mkL_length]; done) | (simp only [mkL_length]; done))) rfl (fun _ w5 e5 hv => ?_)
        subst hv
        replace E := E.trans e5; replace h1 := h1.ext e5
        have z5 := e5.size
        refine J_st (R_assign rfl) rfl (J_done ?_)
        refine S_seq ?_
        refine S_seq ?_
        refine S_reg [true, true] rfl rfl ?_
        refine J_st (R_move rfl) rfl (J_st (R_lss rfl rfl) rfl (J_done ?_))
        refine S_cond rfl (fun hc4 => ?_) (fun hc4 => ?_)
        · have q7 := szM_no hc4 (by omega)
          refine S_seq ?_
          refine S_reg [true] rfl rfl ?_
          refine J_st (R_assign rfl) rfl (J_done ?_)
          refine S_ret (E_done1 rfl rfl E ?_)
          first | exact sz_neg (by unfold cntWorker; omega) | exact sz_fin (by unfold cntWorker; omega) (by unfold cntWorker; omega)
        · have q8 := szM_ok hc4 (by omega)
          refine S_skip ?_
          refine S_seq ?_
          refine S_reg [true, true, true, false, true] rfl rfl ?_
          refine J_st (R_fieldAddr0 fl28_4 rfl) rfl (J_st (R_load sc24 rfl (h1.one 4 rfl)) rfl (J_st (R_move rfl) rfl ?_))
          refine J_call Try.call15 rfl (c_szIntS o5 x.sums (szM x.cells.length (szM x.inputs.length (szM x.staged.length (szM x.queue.length n)))) _ (hd5.rd.ext E) (by first | omega | (simp only [mkL_length]; omega) | (rw [mkL_length]; done) | (simp only [mkL_length]; done))) rfl (fun _ w6 e6 hv => ?_)
          subst hv
          replace E := E.trans e6; replace h1 := h1.ext e6
          have z6 := e6.size
          refine J_st (R_assign rfl) rfl (J_done ?_)
          refine S_seq ?_
          refine S_seq ?_
          refine S_reg [true, true] rfl rfl ?_
          refine J_st (R_move rfl) rfl (J_st (R_lss rfl rfl) rfl (J_done ?_))
          refine S_cond rfl (fun hc5 => ?_) (fun hc5 => ?_)
          · have q9 := szM_no hc5 (by omega)
            refine S_seq ?_
            refine S_reg [true] rfl rfl ?_
            refine J_st (R_assign rfl) rfl (J_done ?_)
            refine S_ret (E_done1 rfl rfl E ?_)
            first | exact sz_neg (by unfold cntWorker; omega) | exact sz_fin (by unfold cntWorker; omega) (by unfold cntWorker; omega)
          · have q10 := szM_ok hc5 (by omega)
            refine S_skip ?_
            refine S_seq ?_
            refine S_reg [true, true, true, false, true] rfl rfl ?_
            refine J_st (R_fieldAddr0 fl28_5 rfl) rfl (J_st (R_load sc25 rfl (h1.one 5 rfl)) rfl (J_st (R_move rfl) rfl ?_))
            refine J_call Try.call16 rfl (c_szBoolS o6 x.black (szM x.sums.length (szM x.cells.length (szM x.inputs.length (szM x.staged.length (szM x.queue.length n))))) _ (hd6.rd.ext E) (by first | omega | (simp only [mkL_length]; omega) | (rw [mkL_length]; done) | (simp only [mkL_length]; done))) rfl (fun _ w7 e7 hv => ?_)
            subst hv
            replace E := E.trans e7; replace h1 := h1.ext e7
            have z7 := e7.size
            refine J_st (R_assign rfl) rfl (J_done ?_)
            refine S_seq ?_
            refine S_seq ?_
            refine S_reg [true, true] rfl rfl ?_
            refine J_st (R_move rfl) rfl (J_st (R_lss rfl rfl) rfl (J_done ?_))
            refine S_cond rfl (fun hc6 => ?_) (fun hc6 => ?_)
            · have q11 := szM_no hc6 (by omega)
              refine S_seq ?_
              refine S_reg [true] rfl rfl ?_
              refine J_st (R_assign rfl) rfl (J_done ?_)
              refine S_ret (E_done1 rfl rfl E ?_)
              first | exact sz_neg (by unfold cntWorker; omega) | exact sz_fin (by unfold cntWorker; omega) (by unfold cntWorker; omega)
            · have q12 := szM_ok hc6 (by omega)
              refine S_skip ?_
              refine S_seq ?_
              refine S_reg [true, true, true, false, true] rfl rfl ?_
              refine J_st (R_fieldAddr0 fl28_6 rfl) rfl (J_st (R_load sc25 rfl (h1.one 6 rfl)) rfl (J_st (R_move rfl) rfl ?_))
              refine J_call Try.call16 rfl (c_szBoolS o7 x.caps (szM x.black.length (szM x.sums.length (szM x.cells.length (szM x.inputs.length (szM x.staged.length (szM x.queue.length n)))))) _ (hd7.rd.ext E) (by first | omega | (simp only [mkL_length]; omega) | (rw [mkL_length]; done) | (simp only [mkL_length]; done))) rfl (fun _ w8 e8 hv => ?_)
              subst hv
              replace E := E.trans e8; replace h1 := h1.ext e8
              have z8 := e8.size
              refine J_st (R_assign rfl) rfl (J_done ?_)
              refine S_seq ?_
              refine S_seq ?_
              refine S_reg [true, true] rfl rfl ?_
              refine J_st (R_move rfl) rfl (J_st (R_lss rfl rfl) rfl (J_done ?_))
              refine S_cond rfl (fun hc7 => ?_) (fun hc7 => ?_)
              · have q13 := szM_no hc7 (by omega)
                refine S_seq ?_
                refine S_reg [true] rfl rfl ?_
                refine J_st (R_assign rfl) rfl (J_done ?_)
                refine S_ret (E_done1 rfl rfl E ?_)
                first | exact sz_neg (by unfold cntWorker; omega) | exact sz_fin (by unfold cntWorker; omega) (by unfold cntWorker; omega)
              · have q14 := szM_ok hc7 (by omega)
                refine S_skip ?_
                refine S_seq ?_
                refine S_reg [true, true, true, false, true] rfl rfl ?_
                refine J_st (R_fieldAddr0 fl28_7 rfl) rfl (J_st (R_load sc26 rfl (h1.one 7 rfl)) rfl (J_st (R_move rfl) rfl ?_))
                refine J_call Try.call17 rfl (c_szDoneS o8 x.dones (szM x.caps.length (szM x.black.length (szM x.sums.length (szM x.cells.length (szM x.inputs.length (szM x.staged.length (szM x.queue.length n))))))) _ (hd8.rd.ext E) (by first | omega | (simp only [mkL_length]; omega) | (rw [mkL_length]; done) | (simp only [mkL_length]; done))) rfl (fun _ w9 e9 hv => ?_)
                subst hv
                replace E := E.trans e9; replace h1 := h1.ext e9
                have z9 := e9.size
                refine J_st (R_assign rfl) rfl (J_done ?_)
                refine S_seq ?_
                refine S_seq ?_
                refine S_reg [true, true] rfl rfl ?_
                refine J_st (R_move rfl) rfl (J_st (R_lss rfl rfl) rfl (J_done ?_))
                refine S_cond rfl (fun hc8 => ?_) (fun hc8 => ?_)
                · have q15 := szM_no hc8 (by omega)
                  refine S_seq ?_
                  refine S_reg [true] rfl rfl ?_
                  refine J_st (R_assign rfl) rfl (J_done ?_)
                  refine S_ret (E_done1 rfl rfl E ?_)
                  first | exact sz_neg (by unfold cntWorker; omega) | exact sz_fin (by unfold cntWorker; omega) (by unfold cntWorker; omega)
                · have q16 := szM_ok hc8 (by omega)
                  refine S_skip ?_
                  refine S_seq ?_
                  refine S_reg [true, true] rfl rfl ?_
                  refine J_st (R_move rfl) rfl (J_st (R_assign rfl) rfl (J_done ?_))
                  refine S_ret (E_done1 rfl rfl E ?_)
                  first | exact sz_neg (by unfold cntWorker; omega) | exact sz_fin (by unfold cntWorker; omega) (by unfold cntWorker; omega)

set_option maxHeartbeats 4000000 in
set_option maxRecDepth 20000 in
theorem c_toWorker (cx : List Value) (x : Worker) (w : World) (hx : Dat.R w 0 w.heap.size cx x) (hb : cntWorker x ≤ 1048576) : Ct Try.prog 6 [.agg cx.toArray] w (fun v w' => ∃ cs, v = .agg cs.toArray ∧ Own1.O w' w.heap.size w'.heap.size cs x) := by
  unfold cntWorker at hb
  refine ct_of Try.func6 rfl Try.ntmps6 rfl ?_
  obtain ⟨o1, o2, o3, o4, o5, o6, o7, o8, rfl, hd1, hd2, hd3, hd4, hd5, hd6, hd7, hd8⟩ := Worker.op hx
  refine S_sub [(0, .agg [o1, o2, o3, o4, o5, o6, o7, o8].toArray)] ⟨rfl, trivial⟩ ?_
  have E : Ext w w := Ext.refl w
  refine S_seq ?_
  refine S_reg [false, false] rfl rfl ?_
  refine J_box rfl rfl (fun b1 w1 e1 s1 h1 => ?_)
  have g_b1 : w.heap.size ≤ b1 := by have := E.size; omega
  have y_b1 := h1.lt
  replace E := E.trans e1
  have z1 := e1.size
  refine J_alloc st36 rfl (fun b2 w2 e2 s2 h2 => ?_)
  have g_b2 : w.heap.size ≤ b2 := by have := E.size; omega
  have y_b2 := h2.lt
  replace E := E.trans e2; replace h1 := h1.ext e2
  have z2 := e2.size
  refine J_done ?_
  refine S_seq ?_
  refine S_reg [false] rfl rfl ?_
  refine J_alloc st36 rfl (fun b3 w3 e3 s3 h3 => ?_)
  have g_b3 : w.heap.size ≤ b3 := by have := E.size; omega
  have y_b3 := h3.lt
  replace E := E.trans e3; replace h1 := h1.ext e3; replace h2 := h2.ext e3
  have z3 := e3.size
  refine J_done ?_
  refine S_seq ?_
  refine S_reg [true, true, false, true, false] rfl rfl ?_
  refine J_st (R_fieldAddr0 fl28_0 rfl) rfl (J_st (R_load sc22 rfl (h1.one 0 rfl)) rfl ?_)
  refine J_call Try.call19 rfl (c_toRecordS o1 x.queue _ (hd1.rd.ext E) (by first | omega | (simp only [mkL_length]; omega) | (rw [mkL_length]; done) | (simp only [mkL_length]; done))) rfl (fun v1 w4 e4 ho1 => ?_)
  have g_ho1 : w.heap.size ≤ w3.heap.size := E.size
  replace E := E.trans e4; replace h1 := h1.ext e4; replace h2 := h2.ext e4; replace h3 := h3.ext e4
  have z4 := e4.size
  refine J_st (R_fieldAddr0 fl36_0 rfl) rfl ?_
  refine J_store' (cs' := [v1, .slice none 0 0, .slice none 0 0, .slice none 0 0, .slice none 0 0, .slice none 0 0, .slice none 0 0, .slice none 0 0]) sc32 rfl rfl ho1.one h3 (Nat.le_of_ble_eq_true rfl) rfl (fun w5 m1 h3' => ?_)
  replace h3 := h3'
  replace E := E.step m1 (fun g hg => by cases hg; omega); replace h1 := h1.mod m1 (fun g hg => by cases hg; omega); replace h2 := h2.mod m1 (fun g hg => by cases hg; omega); replace ho1 := ho1.mod m1 (fun g hg => by cases hg; omega)
  have z5 := m1.size
  refine J_done ?_
  refine S_seq ?_
  refine S_reg [true, true, false, true, false] rfl rfl ?_
  refine J_st (R_fieldAddr0 fl28_1 rfl) rfl (J_st (R_load sc22 rfl (h1.one 1 rfl)) rfl ?_)
  refine J_call Try.call19 rfl (c_toRecordS o2 x.staged _ (hd2.rd.ext E) (by first | omega | (simp only [mkL_length]; omega) | (rw [mkL_length]; done) | (simp only [mkL_length]; done))) rfl (fun v2 w6 e5 ho2 => ?_)
  have g_ho2 : w.heap.size ≤ w5.heap.size := E.size
  replace E := E.trans e5; replace h1 := h1.ext e5; replace h2 := h2.ext e5; replace h3 := h3.ext e5; replace ho1 := ho1.ext e5
  have z6 := e5.size
  refine J_st (R_fieldAddr0 fl36_1 rfl) rfl ?_
  refine J_store' (cs' := [v1, v2, .slice none 0 0, .slice none 0 0, .slice none 0 0, .slice none 0 0, .slice none 0 0, .slice none 0 0]) sc32 rfl rfl ho2.one h3 (Nat.le_of_ble_eq_true rfl) rfl (fun w7 m2 h3' => ?_)
  replace h3 := h3'
  replace E := E.step m2 (fun g hg => by cases hg; omega); replace h1 := h1.mod m2 (fun g hg => by cases hg; omega); replace h2 := h2.mod m2 (fun g hg => by cases hg; omega); replace ho1 := ho1.mod m2 (fun g hg => by cases hg; omega); replace ho2 := ho2.mod m2 (fun g hg => by cases hg; omega)
  have z7 := m2.size
  refine J_done ?_
  refine S_seq ?_
  refine S_reg [true, true, false, true, false] rfl rfl ?_
  refine J_st (R_fieldAddr0 fl28_2 rfl) rfl (J_st (R_load sc22 rfl (h1.one 2 rfl)) rfl ?_)
  refine J_call Try.call19 rfl (c_toRecordS o3 x.inputs _ (hd3.rd.ext E) (by first | omega | (simp only [mkL_length]; omega) | (rw [mkL_length]; done) | (simp only [mkL_length]; done))) rfl (fun v3 w8 e6 ho3 => ?_)
  have g_ho3 : w.heap.size ≤ w7.heap.size := E.size
  replace E := E.trans e6; replace h1 := h1.ext e6; replace h2 := h2.ext e6; replace h3 := h3.ext e6; replace ho1 := ho1.ext e6; replace ho2 := ho2.ext e6
  have z8 := e6.size
  refine J_st (R_fieldAddr0 fl36_2 rfl) rfl ?_
  refine J_store' (cs' := [v1, v2, v3, .slice none 0 0, .slice none 0 0, .slice none 0 0, .slice none 0 0, .slice none 0 0]) sc32 rfl rfl ho3.one h3 (Nat.le_of_ble_eq_true rfl) rfl (fun w9 m3 h3' => ?_)
  replace h3 := h3'
  replace E := E.step m3 (fun g hg => by cases hg; omega); replace h1 := h1.mod m3 (fun g hg => by cases hg; omega); replace h2 := h2.mod m3 (fun g hg => by cases hg; omega); replace ho1 := ho1.mod m3 (fun g hg => by cases hg; omega); replace ho2 := ho2.mod m3 (fun g hg => by cases hg; omega); replace ho3 := ho3.mod m3 (fun g hg => by cases hg; omega)
  have z9 := m3.size
  refine J_done ?_
  refine S_seq ?_
  refine S_reg [true, true, false, true, false] rfl rfl ?_
  refine J_st (R_fieldAddr0 fl28_3 rfl) rfl (J_st (R_load sc23 rfl (h1.one 3 rfl)) rfl ?_)
  refine J_call Try.call20 rfl (c_toCellS o4 x.cells _ (hd4.rd.ext E) (by first | omega | (simp only [mkL_length]; omega) | (rw [mkL_length]; done) | (simp only [mkL_length]; done))) rfl (fun v4 w10 e7 ho4 => ?_)
  have g_ho4 : w.heap.size ≤ w9.heap.size := E.size
  replace E := E.trans e7; replace h1 := h1.ext e7; replace h2 := h2.ext e7; replace h3 := h3.ext e7; replace ho1 := ho1.ext e7; replace ho2 := ho2.ext e7; replace ho3 := ho3.ext e7
  have z10 := e7.size
  refine J_st (R_fieldAddr0 fl36_3 rfl) rfl ?_
  refine J_store' (cs' := [v1, v2, v3, v4, .slice none 0 0, .slice none 0 0, .slice none 0 0, .slice none 0 0]) sc33 rfl rfl ho4.one h3 (Nat.le_of_ble_eq_true rfl) rfl (fun w11 m4 h3' => ?_)
  replace h3 := h3'
  replace E := E.step m4 (fun g hg => by cases hg; omega); replace h1 := h1.mod m4 (fun g hg => by cases hg; omega); replace h2 := h2.mod m4 (fun g hg => by cases hg; omega); replace ho1 := ho1.mod m4 (fun g hg => by cases hg; omega); replace ho2 := ho2.mod m4 (fun g hg => by cases hg; omega); replace ho3 := ho3.mod m4 (fun g hg => by cases hg; omega); replace ho4 := ho4.mod m4 (fun g hg => by cases hg; omega)
  have z11 := m4.size
  refine J_done ?_
  refine S_seq ?_
  refine S_reg [true, true, false, true, false] rfl rfl ?_
  refine J_st (R_fieldAddr0 fl28_4 rfl) rfl (J_st (R_load sc24 rfl (h1.one 4 rfl)) rfl ?_)
  refine J_call Try.call21 rfl (c_toIntS o5 x.sums _ (hd5.rd.ext E) (by first | omega | (simp only [mkL_length]; omega) | (rw [mkL_length]; done) | (simp only [mkL_length]; done))) rfl (fun v5 w12 e8 ho5 => ?_)
  have g_ho5 : w.heap.size ≤ w11.heap.size := E.size
  replace E := E.trans e8; replace h1 := h1.ext e8; replace h2 := h2.ext e8; replace h3 := h3.ext e8; replace ho1 := ho1.ext e8; replace ho2 := ho2.ext e8; replace ho3 := ho3.ext e8; replace ho4 := ho4.ext e8
  have z12 := e8.size
  refine J_st (R_fieldAddr0 fl36_4 rfl) rfl ?_
  refine J_store' (cs' := [v1, v2, v3, v4, v5, .slice none 0 0, .slice none 0 0, .slice none 0 0]) sc24 rfl rfl ho5.one h3 (Nat.le_of_ble_eq_true rfl) rfl (fun w13 m5 h3' => ?_)
  replace h3 := h3'
  replace E := E.step m5 (fun g hg => by cases hg; omega); replace h1 := h1.mod m5 (fun g hg => by cases hg; omega); replace h2 := h2.mod m5 (fun g hg => by cases hg; omega); replace ho1 := ho1.mod m5 (fun g hg => by cases hg; omega); replace ho2 := ho2.mod m5 (fun g hg => by cases hg; omega); replace ho3 := ho3.mod m5 (fun g hg => by cases hg; omega); replace ho4 := ho4.mod m5 (fun g hg => by cases hg; omega); replace ho5 := ho5.mod m5 (fun g hg => by cases hg; omega)
  have z13 := m5.size
  refine J_done ?_
  refine S_seq ?_
  refine S_reg [true, true, false, true, false] rfl rfl ?_
  refine J_st (R_fieldAddr0 fl28_5 rfl) rfl (J_st (R_load sc25 rfl (h1.one 5 rfl)) rfl ?_)
  refine J_call Try.call22 rfl (c_toBoolS o6 x.black _ (hd6.rd.ext E) (by first | omega | (simp only [mkL_length]; omega) | (rw [mkL_length]; done) | (simp only [mkL_length]; done))) rfl (fun v6 w14 e9 ho6 => ?_)
  have g_ho6 : w.heap.size ≤ w13.heap.size := E.size
  replace E := E.trans e9; replace h1 := h1.ext e9; replace h2 := h2.ext e9; replace h3 := h3.ext e9; replace ho1 := ho1.ext e9; replace ho2 := ho2.ext e9; replace ho3 := ho3.ext e9; replace ho4 := ho4.ext e9; replace ho5 := ho5.ext e9
  have z14 := e9.size
  refine J_st (R_fieldAddr0 fl36_5 rfl) rfl ?_
  refine J_store' (cs' := [v1, v2, v3, v4, v5, v6, .slice none 0 0, .slice none 0 0]) sc25 rfl rfl ho6.one h3 (Nat.le_of_ble_eq_true rfl) rfl (fun w15 m6 h3' => ?_)
  replace h3 := h3'
  replace E := E.step m6 (fun g hg => by cases hg; omega); replace h1 := h1.mod m6 (fun g hg => by cases hg; omega); replace h2 := h2.mod m6 (fun g hg => by cases hg; omega); replace ho1 := ho1.mod m6 (fun g hg => by cases hg; omega); replace ho2 := ho2.mod m6 (fun g hg => by cases hg; omega); replace ho3 := ho3.mod m6 (fun g hg => by cases hg; omega); replace ho4 := ho4.mod m6 (fun g hg => by cases hg; omega); replace ho5 := ho5.mod m6 (fun g hg => by cases hg; omega); replace ho6 := ho6.mod m6 (fun g hg => by cases hg; omega)
  have z15 := m6.size
  refine J_done ?_
  refine S_seq ?_
  refine S_reg [true, true, false, true, false] rfl rfl ?_
  refine J_st (R_fieldAddr0 fl28_6 rfl) rfl (J_st (R_load sc25 rfl (h1.one 6 rfl)) rfl ?_)
  refine J_call Try.call22 rfl (c_toBoolS o7 x.caps _ (hd7.rd.ext E) (by first | omega | (simp only [mkL_length]; omega) | (rw [mkL_length]; done) | (simp only [mkL_length]; done))) rfl (fun v7 w16 e10 ho7 => ?_)
  have g_ho7 : w.heap.size ≤ w15.heap.size := E.size
  replace E := E.trans e10; replace h1 := h1.ext e10; replace h2 := h2.ext e10; replace h3 := h3.ext e10; replace ho1 := ho1.ext e10; replace ho2 := ho2.ext e10; replace ho3 := ho3.ext e10; replace ho4 := ho4.ext e10; replace ho5 := ho5.ext e10; replace ho6 := ho6.ext e10
  have z16 := e10.size
  refine J_st (R_fieldAddr0 fl36_6 rfl) rfl ?_
  refine J_store' (cs' := [v1, v2, v3, v4, v5, v6, v7, .slice none 0 0]) sc25 rfl rfl ho7.one h3 (Nat.le_of_ble_eq_true rfl) rfl (fun w17 m7 h3' => ?_)
  replace h3 := h3'
  replace E := E.step m7 (fun g hg => by cases hg; omega); replace h1 := h1.mod m7 (fun g hg => by cases hg; omega); replace h2 := h2.mod m7 (fun g hg => by cases hg; omega); replace ho1 := ho1.mod m7 (fun g hg => by cases hg; omega); replace ho2 := ho2.mod m7 (fun g hg => by cases hg; omega); replace ho3 := ho3.mod m7 (fun g hg => by cases hg; omega); replace ho4 := ho4.mod m7 (fun g hg => by cases hg; omega); replace ho5 := ho5.mod m7 (fun g hg => by cases hg; omega); replace ho6 := ho6.mod m7 (fun g hg => by cases hg; omega); replace ho7 := ho7.mod m7 (fun g hg => by cases hg; omega)
  have z17 := m7.size
  refine J_done ?_
  refine S_seq ?_
  refine S_reg [true, true, false, true, false] rfl rfl ?_
  refine J_st (R_fieldAddr0 fl28_7 rfl) rfl (J_st (R_load sc26 rfl (h1.one 7 rfl)) rfl ?_)
  refine J_call Try.call23 rfl (c_toDoneS o8 x.dones _ (hd8.rd.ext E) (by first | omega | (simp only [mkL_length]; omega) | (rw [mkL_length]; done) | (simp only [mkL_length]; done))) rfl (fun v8 w18 e11 ho8 => ?_)
  have g_ho8 : w.heap.size ≤ w17.heap.size := E.size
  replace E := E.trans e11; replace h1 := h1.ext e11; replace h2 := h2.ext e11; replace h3 := h3.ext e11; replace ho1 := ho1.ext e11; replace ho2 := ho2.ext e11; replace ho3 := ho3.ext e11; replace ho4 := ho4.ext e11; replace ho5 := ho5.ext e11; replace ho6 := ho6.ext e11; replace ho7 := ho7.ext e11
  have z18 := e11.size
  refine J_st (R_fieldAddr0 fl36_7 rfl) rfl ?_
  refine J_store' (cs' := [v1, v2, v3, v4, v5, v6, v7, v8]) sc34 rfl rfl ho8.one h3 (Nat.le_of_ble_eq_true rfl) rfl (fun w19 m8 h3' => ?_)
  replace h3 := h3'
  replace E := E.step m8 (fun g hg => by cases hg; omega); replace h1 := h1.mod m8 (fun g hg => by cases hg; omega); replace h2 := h2.mod m8 (fun g hg => by cases hg; omega); replace ho1 := ho1.mod m8 (fun g hg => by cases hg; omega); replace ho2 := ho2.mod m8 (fun g hg => by cases hg; omega); replace ho3 := ho3.mod m8 (fun g hg => by cases hg; omega); replace ho4 := ho4.mod m8 (fun g hg => by cases hg; omega); replace ho5 := ho5.mod m8 (fun g hg => by cases hg; omega); replace ho6 := ho6.mod m8 (fun g hg => by cases hg; omega); replace ho7 := ho7.mod m8 (fun g hg => by cases hg; omega); replace ho8 := ho8.mod m8 (fun g hg => by cases hg; omega)
  have z19 := m8.size
  refine J_done ?_
  refine S_seq ?_
  refine S_reg [true, false] rfl rfl ?_
  refine J_st (R_loadS st36 rfl h3.at rfl) rfl ?_
  refine J_storeS' (cs' := [v1, v2, v3, v4, v5, v6, v7, v8]) st36 rfl rfl rfl (all_cons ho1.one (all_cons ho2.one (all_cons ho3.one (all_cons ho4.one (all_cons ho5.one (all_cons ho6.one (all_cons ho7.one (all_cons ho8.one rfl)))))))) h2 (Nat.le_of_ble_eq_true rfl) rfl (fun w20 m9 h2' => ?_)
  replace h2 := h2'
  replace E := E.step m9 (fun g hg => by cases hg; omega); replace h1 := h1.mod m9 (fun g hg => by cases hg; omega); replace h3 := h3.mod m9 (fun g hg => by cases hg; omega); replace ho1 := ho1.mod m9 (fun g hg => by cases hg; omega); replace ho2 := ho2.mod m9 (fun g hg => by cases hg; omega); replace ho3 := ho3.mod m9 (fun g hg => by cases hg; omega); replace ho4 := ho4.mod m9 (fun g hg => by cases hg; omega); replace ho5 := ho5.mod m9 (fun g hg => by cases hg; omega); replace ho6 := ho6.mod m9 (fun g hg => by cases hg; omega); replace ho7 := ho7.mod m9 (fun g hg => by cases hg; omega); replace ho8 := ho8.mod m9 (fun g hg => by cases hg; omega)
  have z20 := m9.size
  refine J_done ?_
  refine S_ret (E_doneC rfl rfl (run_loadVar_st st36 h2.at rfl) E ?_)
  exact ⟨_, rfl, Worker.mkO x ⟨⟨(Own.sep ho1 ho2 (by omega)), ⟨(Own.sep ho1 ho3 (by omega)), ⟨(Own.sep ho1 ho4 (by omega)), ⟨(Own.sep ho1 ho5 (by omega)), ⟨(Own.sep ho1 ho6 (by omega)), ⟨(Own.sep ho1 ho7 (by omega)), ⟨(Own.sep ho1 ho8 (by omega)), trivial⟩⟩⟩⟩⟩⟩⟩, ⟨⟨(Own.sep ho2 ho3 (by omega)), ⟨(Own.sep ho2 ho4 (by omega)), ⟨(Own.sep ho2 ho5 (by omega)), ⟨(Own.sep ho2 ho6 (by omega)), ⟨(Own.sep ho2 ho7 (by omega)), ⟨(Own.sep ho2 ho8 (by omega)), trivial⟩⟩⟩⟩⟩⟩, ⟨⟨(Own.sep ho3 ho4 (by omega)), ⟨(Own.sep ho3 ho5 (by omega)), ⟨(Own.sep ho3 ho6 (by omega)), ⟨(Own.sep ho3 ho7 (by omega)), ⟨(Own.sep ho3 ho8 (by omega)), trivial⟩⟩⟩⟩⟩, ⟨⟨(Own.sep ho4 ho5 (by omega)), ⟨(Own.sep ho4 ho6 (by omega)), ⟨(Own.sep ho4 ho7 (by omega)), ⟨(Own.sep ho4 ho8 (by omega)), trivial⟩⟩⟩⟩, ⟨⟨(Own.sep ho5 ho6 (by omega)), ⟨(Own.sep ho5 ho7 (by omega)), ⟨(Own.sep ho5 ho8 (by omega)), trivial⟩⟩⟩, ⟨⟨(Own.sep ho6 ho7 (by omega)), ⟨(Own.sep ho6 ho8 (by omega)), trivial⟩⟩, ⟨⟨(Own.sep ho7 ho8 (by omega)), trivial⟩, ⟨trivial, trivial⟩⟩⟩⟩⟩⟩⟩⟩ (Own.widen ho1 (by omega) (by omega)) (Own.widen ho2 (by omega) (by omega)) (Own.widen ho3 (by omega) (by omega)) (Own.widen ho4 (by omega) (by omega)) (Own.widen ho5 (by omega) (by omega)) (Own.widen ho6 (by omega) (by omega)) (Own.widen ho7 (by omega) (by omega)) (Own.widen ho8 (by omega) (by omega))⟩

set_option maxHeartbeats 4000000 in
set_option maxRecDepth 20000 in
theorem c_eqWorker (cx : List Value) (x : Worker) (cy : List Value) (y : Worker) (w : World) (hx : Dat.R w 0 w.heap.size cx x) (hy : Dat.R w 0 w.heap.size cy y) : Ct Try.prog 9 [.agg cx.toArray, .agg cy.toArray] w (fun v _ => v = .bool (decide (x = y))) := by
  refine ct_of Try.func9 rfl Try.ntmps9 rfl ?_
  obtain ⟨o1, o2, o3, o4, o5, o6, o7, o8, rfl, hd1, hd2, hd3, hd4, hd5, hd6, hd7, hd8⟩ := Worker.op hx
  obtain ⟨o9, o10, o11, o12, o13, o14, o15, o16, rfl, hd9, hd10, hd11, hd12, hd13, hd14, hd15, hd16⟩ := Worker.op hy
  refine S_sub [(0, .agg [o1, o2, o3, o4, o5, o6, o7, o8].toArray), (1, .agg [o9, o10, o11, o12, o13, o14, o15, o16].toArray)] ⟨rfl, rfl, trivial⟩ ?_
  have E : Ext w w := Ext.refl w
  refine S_seq ?_
  refine S_reg [false, false, true] rfl rfl ?_
  refine J_box rfl rfl (fun b1 w1 e1 s1 h1 => ?_)
  have g_b1 : w.heap.size ≤ b1 := by have := E.size; omega
  have y_b1 := h1.lt
  replace E := E.trans e1
  have z1 := e1.size
  refine J_box rfl rfl (fun b2 w2 e2 s2 h2 => ?_)
  have g_b2 : w.heap.size ≤ b2 := by have := E.size; omega
  have y_b2 := h2.lt
  replace E := E.trans e2; replace h1 := h1.ext e2
  have z2 := e2.size
  refine J_st (R_assign rfl) rfl (J_done ?_)
  refine S_seq ?_
  refine S_seq ?_
  refine S_reg [true, true, true, true, false, true] rfl rfl ?_
  refine J_st (R_fieldAddr0 fl36_0 rfl) rfl (J_st (R_load sc32 rfl (h1.one 0 rfl)) rfl (J_st (R_fieldAddr0 fl36_0 rfl) rfl (J_st (R_load sc32 rfl (h2.one 0 rfl)) rfl ?_)))
  refine J_call Try.call27 rfl (c_eqRecordS o1 x.queue o9 y.queue _ (hd1.rd.ext E) (hd9.rd.ext E)) rfl (fun _ w3 e3 hv => ?_)
  subst hv
  replace E := E.trans e3; replace h1 := h1.ext e3; replace h2 := h2.ext e3
  have z3 := e3.size
  refine J_st (R_not rfl) rfl (J_done ?_)
  refine S_cond rfl (fun hc1 => ?_) (fun hc1 => ?_)
  · refine S_seq ?_
    refine S_reg [true] rfl rfl ?_
    refine J_st (R_assign rfl) rfl (J_done ?_)
    refine S_ret (E_done1 rfl rfl E ?_)
    cases x; cases y; simp_all
  · refine S_skip ?_
    refine S_seq ?_
    refine S_seq ?_
    refine S_reg [true, true, true, true, false, true] rfl rfl ?_
    refine J_st (R_fieldAddr0 fl36_1 rfl) rfl (J_st (R_load sc32 rfl (h1.one 1 rfl)) rfl (J_st (R_fieldAddr0 fl36_1 rfl) rfl (J_st (R_load sc32 rfl (h2.one 1 rfl)) rfl ?_)))
    refine J_call Try.call27 rfl (c_eqRecordS o2 x.staged o10 y.staged _ (hd2.rd.ext E) (hd10.rd.ext E)) rfl (fun _ w4 e4 hv => ?_)
    subst hv
    replace E := E.trans e4; replace h1 := h1.ext e4; replace h2 := h2.ext e4
    have z4 := e4.size
    refine J_st (R_not rfl) rfl (J_done ?_)
    refine S_cond rfl (fun hc2 => ?_) (fun hc2 => ?_)
    · refine S_seq ?_
      refine S_reg [true] rfl rfl ?_
      refine J_st (R_assign rfl) rfl (J_done ?_)
      refine S_ret (E_done1 rfl rfl E ?_)
      cases x; cases y; simp_all
    · refine S_skip ?_
      refine S_seq ?_
      refine S_seq ?_
      refine S_reg [true, true, true, true, false, true] rfl rfl ?_
      refine J_st (R_fieldAddr0 fl36_2 rfl) rfl (J_st (R_load sc32 rfl (h1.one 2 rfl)) rfl (J_st (R_fieldAddr0 fl36_2 rfl) rfl (J_st (R_load sc32 rfl (h2.one 2 rfl)) rfl ?_)))
      refine J_call Try.call27 rfl (c_eqRecordS o3 x.inputs o11 y.inputs _ (hd3.rd.ext E) (hd11.rd.ext E)) rfl (fun _ w5 e5 hv => ?_)
      subst hv
      replace E := E.trans e5; replace h1 := h1.ext e5; replace h2 := h2.ext e5
      have z5 := e5.size
      refine J_st (R_not rfl) rfl (J_done ?_)
      refine S_cond rfl (fun hc3 => ?_) (fun hc3 => ?_)
      · refine S_seq ?_
        refine S_reg [true] rfl rfl ?_
        refine J_st (R_assign rfl) rfl (J_done ?_)
        refine S_ret (E_done1 rfl rfl E ?_)
        cases x; cases y; simp_all
      · refine S_skip ?_
        refine S_seq ?_
        refine S_seq ?_
        refine S_reg [true, true, true, true, false, true] rfl rfl ?_
        refine J_st (R_fieldAddr0 fl36_3 rfl) rfl (J_st (R_load sc33 rfl (h1.one 3 rfl)) rfl (J_st (R_fieldAddr0 fl36_3 rfl) rfl (J_st (R_load sc33 rfl (h2.one 3 rfl)) rfl ?_)))
        refine J_call Try.call28 rfl (c_eqCellS o4 x.cells o12 y.cells _ (hd4.rd.ext E) (hd12.rd.ext E)) rfl (fun _ w6 e6 hv => ?_)
        subst hv
        replace E := E.trans e6; replace h1 := h1.ext e6; replace h2 := h2.ext e6
        have z6 := e6.size
        refine J_st (R_not rfl) rfl (J_done ?_)
        refine S_cond rfl (fun hc4 => ?_) (fun hc4 => ?_)
        · refine S_seq ?_
          refine S_reg [true] rfl rfl ?_
          refine J_st (R_assign rfl) rfl (J_done ?_)
          refine S_ret (E_done1 rfl rfl E ?_)
          cases x; cases y; simp_all
        · refine S_skip ?_
          refine S_seq ?_
          refine S_seq ?_
          refine S_reg [true, true, true, true, false, true] rfl rfl ?_
          refine J_st (R_fieldAddr0 fl36_4 rfl) rfl (J_st (R_load sc24 rfl (h1.one 4 rfl)) rfl (J_st (R_fieldAddr0 fl36_4 rfl) rfl (J_st (R_load sc24 rfl (h2.one 4 rfl)) rfl ?_)))
          refine J_call Try.call29 rfl (c_eqIntS o5 x.sums o13 y.sums _ (hd5.rd.ext E) (hd13.rd.ext E)) rfl (fun _ w7 e7 hv => ?_)
          subst hv
          replace E := E.trans e7; replace h1 := h1.ext e7; replace h2 := h2.ext e7
          have z7 := e7.size
          refine J_st (R_not rfl) rfl (J_done ?_)
          refine S_cond rfl (fun hc5 => ?_) (fun hc5 => ?_)
          · refine S_seq ?_
            refine S_reg [true] rfl rfl ?_
            refine J_st (R_assign rfl) rfl (J_done ?_)
            refine S_ret (E_done1 rfl rfl E ?_)
            cases x; cases y; simp_all
          · refine S_skip ?_
            refine S_seq ?_
            refine S_seq ?_
            refine S_reg [true, true, true, true, false, true] rfl rfl ?_
            refine J_st (R_fieldAddr0 fl36_5 rfl) rfl (J_st (R_load sc25 rfl (h1.one 5 rfl)) rfl (J_st (R_fieldAddr0 fl36_5 rfl) rfl (J_st (R_load sc25 rfl (h2.one 5 rfl)) rfl ?_)))
            refine J_call Try.call30 rfl (c_eqBoolS o6 x.black o14 y.black _ (hd6.rd.ext E) (hd14.rd.ext E)) rfl (fun _ w8 e8 hv => ?_)
            subst hv
            replace E := E.trans e8; replace h1 := h1.ext e8; replace h2 := h2.ext e8
            have z8 := e8.size
            refine J_st (R_not rfl) rfl (J_done ?_)
            refine S_cond rfl (fun hc6 => ?_) (fun hc6 => ?_)
            · refine S_seq ?_
              refine S_reg [true] rfl rfl ?_
              refine J_st (R_assign rfl) rfl (J_done ?_)
              refine S_ret (E_done1 rfl rfl E ?_)
              cases x; cases y; simp_all
            · refine S_skip ?_
              refine S_seq ?_
              refine S_seq ?_
              refine S_reg [true, true, true, true, false, true] rfl rfl ?_
              refine J_st (R_fieldAddr0 fl36_6 rfl) rfl (J_st (R_load sc25 rfl (h1.one 6 rfl)) rfl (J_st (R_fieldAddr0 fl36_6 rfl) rfl (J_st (R_load sc25 rfl (h2.one 6 rfl)) rfl ?_)))
              refine J_call Try.call30 rfl (c_eqBoolS o7 x.caps o15 y.caps _ (hd7.rd.ext E) (hd15.rd.ext E)) rfl (fun _ w9 e9 hv => ?_)
              subst hv
              replace E := E.trans e9; replace h1 := h1.ext e9; replace h2 := h2.ext e9
              have z9 := e9.size
              refine J_st (R_not rfl) rfl (J_done ?_)
              refine S_cond rfl (fun hc7 => ?_) (fun hc7 => ?_)
              · refine S_seq ?_
                refine S_reg [true] rfl rfl ?_
                refine J_st (R_assign rfl) rfl (J_done ?_)
                refine S_ret (E_done1 rfl rfl E ?_)
                cases x; cases y; simp_all
              · refine S_skip ?_
                refine S_seq ?_
                refine S_seq ?_
                refine S_reg [true, true, true, true, false, true] rfl rfl ?_
                refine J_st (R_fieldAddr0 fl36_7 rfl) rfl (J_st (R_load sc34 rfl (h1.one 7 rfl)) rfl (J_st (R_fieldAddr0 fl36_7 rfl) rfl (J_st (R_load sc34 rfl (h2.one 7 rfl)) rfl ?_)))
                refine J_call Try.call31 rfl (c_eqDoneS o8 x.dones o16 y.dones _ (hd8.rd.ext E) (hd16.rd.ext E)) rfl (fun _ w10 e10 hv => ?_)
                subst hv
                replace E := E.trans e10; replace h1 := h1.ext e10; replace h2 := h2.ext e10
                have z10 := e10.size
                refine J_st (R_not rfl) rfl (J_done ?_)
                refine S_cond rfl (fun hc8 => ?_) (fun hc8 => ?_)
                · refine S_seq ?_
                  refine S_reg [true] rfl rfl ?_
                  refine J_st (R_assign rfl) rfl (J_done ?_)
                  refine S_ret (E_done1 rfl rfl E ?_)
                  cases x; cases y; simp_all
                · refine S_skip ?_
                  refine S_seq ?_
                  refine S_reg [true] rfl rfl ?_
                  refine J_st (R_assign rfl) rfl (J_done ?_)
                  refine S_ret (E_done1 rfl rfl E ?_)
                  cases x; cases y; simp_all

set_option maxRecDepth 20000 in
theorem c_StampOk (s : Stamp) (w : World)  : Ct Try.prog 42 [.agg (Enc.enc s).toArray] w (fun v _ => v = .bool (stampOk s)) := by
  refine ct_of Try.func42 rfl Try.ntmps42 rfl ?_
  refine S_sub [(0, .agg (Enc.enc s).toArray)] ⟨rfl, trivial⟩ ?_
  have E : Ext w w := Ext.refl w
  refine S_seq ?_
  refine S_reg [false, true] rfl rfl ?_
  refine J_box rfl rfl (fun b1 w1 e1 s1 h1 => ?_)
  have g_b1 : w.heap.size ≤ b1 := by have := E.size; omega
  have y_b1 := h1.lt
  replace E := E.trans e1
  have z1 := e1.size
  refine J_st (R_assign rfl) rfl (J_done ?_)
  refine S_seq ?_
  refine S_reg [true, true, false, true, true, true, false, true, true] rfl rfl ?_
  refine J_st (R_fieldAddr0 fl57_0 rfl) rfl (J_st (R_load sc3 rfl (h1.one 0 rfl)) rfl ?_)
  refine J_call Try.call55 rfl (c_within s.epoch 0 3 _ ) rfl (fun _ w2 e2 hv => ?_)
  subst hv
  replace E := E.trans e2; replace h1 := h1.ext e2
  have z2 := e2.size
  refine J_st (R_move rfl) rfl ?_
  refine J_cut 4 [(0, .agg (Enc.enc s).toArray), (1, .pointer (some ⟨b1, 0, none⟩)), (2, .bool false), (10, .bool ((win s.epoch 0 3) && (win s.turn 0 6)))] (fun w' => Ext w w' ∧ w2.heap.size ≤ w'.heap.size ∧ Blk w' b1 (Enc.enc s)) ?_ ?_
  · refine J_if (gd := 6) rfl rfl (fun hg1 => ?_) (fun hg1 => ?_)
    · refine J_gd rfl rfl (R_fieldAddr0 fl57_1 rfl) rfl (J_gd rfl rfl (R_load sc3 rfl (h1.one 1 rfl)) rfl ?_)
      refine J_ung rfl rfl ?_
      refine J_call Try.call55 rfl (c_within s.turn 0 6 _ ) rfl (fun _ w4 e3 hv => ?_)
      subst hv
      replace E := E.trans e3; replace h1 := h1.ext e3
      have z3 := e3.size
      refine J_st (R_pickT rfl rfl) rfl (J_cutEnd ⟨rfl, rfl, rfl, congrArg (fun b => some (Value.bool b)) (show (win s.turn 0 6) = ((win s.epoch 0 3) && (win s.turn 0 6)) by first | (rw [hg1] <;> rfl) | (simp [hg1]; done) | (simp only [nat_nlt] <;> simp)), trivial⟩ ⟨E, (by omega), h1⟩)
    · refine J_gdno rfl rfl rfl rfl (J_gdno rfl rfl rfl rfl ?_)
      refine J_ungno rfl rfl rfl rfl ?_
      refine J_st (R_pickF rfl rfl) rfl (J_cutEnd ⟨rfl, rfl, rfl, congrArg (fun b => some (Value.bool b)) (show false = ((win s.epoch 0 3) && (win s.turn 0 6)) by first | (rw [hg1] <;> rfl) | (simp [hg1]; done) | (simp only [nat_nlt] <;> simp)), trivial⟩ ⟨E, (by omega), h1⟩)
  clear E h1
  rintro w3 ⟨E, z4, h1⟩
  refine J_st (R_assign rfl) rfl (J_done ?_)
  refine S_ret (E_done1 rfl rfl E ?_)
  rfl

set_option maxRecDepth 20000 in
theorem s_StampOk (s : Stamp) (w : World)  : Ct Try.prog 48 [.agg (Enc.enc s).toArray] w (fun v _ => v = .bool (stampOk s)) := by
  refine ct_of Try.func48 rfl Try.ntmps48 rfl ?_
  refine S_sub [(0, .agg (Enc.enc s).toArray)] ⟨rfl, trivial⟩ ?_
  have E : Ext w w := Ext.refl w
  refine S_seq ?_
  refine S_reg [false, true] rfl rfl ?_
  refine J_box rfl rfl (fun b1 w1 e1 s1 h1 => ?_)
  have g_b1 : w.heap.size ≤ b1 := by have := E.size; omega
  have y_b1 := h1.lt
  replace E := E.trans e1
  have z1 := e1.size
  refine J_st (R_assign rfl) rfl (J_done ?_)
  refine S_seq ?_
  refine S_reg [true, true, false, true, true, true, false, true, true] rfl rfl ?_
  refine J_st (R_fieldAddr0 fl57_0 rfl) rfl (J_st (R_load sc3 rfl (h1.one 0 rfl)) rfl ?_)
  refine J_call Try.call49 rfl (s_l01In s.epoch 0 3 _ ) rfl (fun _ w2 e2 hv => ?_)
  subst hv
  replace E := E.trans e2; replace h1 := h1.ext e2
  have z2 := e2.size
  refine J_st (R_move rfl) rfl ?_
  refine J_cut 4 [(0, .agg (Enc.enc s).toArray), (1, .pointer (some ⟨b1, 0, none⟩)), (2, .bool false), (10, .bool ((win s.epoch 0 3) && (win s.turn 0 6)))] (fun w' => Ext w w' ∧ w2.heap.size ≤ w'.heap.size ∧ Blk w' b1 (Enc.enc s)) ?_ ?_
  · refine J_if (gd := 6) rfl rfl (fun hg1 => ?_) (fun hg1 => ?_)
    · refine J_gd rfl rfl (R_fieldAddr0 fl57_1 rfl) rfl (J_gd rfl rfl (R_load sc3 rfl (h1.one 1 rfl)) rfl ?_)
      refine J_ung rfl rfl ?_
      refine J_call Try.call49 rfl (s_l01In s.turn 0 6 _ ) rfl (fun _ w4 e3 hv => ?_)
      subst hv
      replace E := E.trans e3; replace h1 := h1.ext e3
      have z3 := e3.size
      refine J_st (R_pickT rfl rfl) rfl (J_cutEnd ⟨rfl, rfl, rfl, congrArg (fun b => some (Value.bool b)) (show (win s.turn 0 6) = ((win s.epoch 0 3) && (win s.turn 0 6)) by first | (rw [hg1] <;> rfl) | (simp [hg1]; done) | (simp only [nat_nlt] <;> simp)), trivial⟩ ⟨E, (by omega), h1⟩)
    · refine J_gdno rfl rfl rfl rfl (J_gdno rfl rfl rfl rfl ?_)
      refine J_ungno rfl rfl rfl rfl ?_
      refine J_st (R_pickF rfl rfl) rfl (J_cutEnd ⟨rfl, rfl, rfl, congrArg (fun b => some (Value.bool b)) (show false = ((win s.epoch 0 3) && (win s.turn 0 6)) by first | (rw [hg1] <;> rfl) | (simp [hg1]; done) | (simp only [nat_nlt] <;> simp)), trivial⟩ ⟨E, (by omega), h1⟩)
  clear E h1
  rintro w3 ⟨E, z4, h1⟩
  refine J_st (R_assign rfl) rfl (J_done ?_)
  refine S_ret (E_done1 rfl rfl E ?_)
  rfl

set_option maxRecDepth 20000 in
theorem markRecordS (vxs : Value) (lo hi : Nat) (xs : List Record) (k : Nat) (w : World) (hxs : Own w lo hi 5 vxs (List.flatMap (Enc.enc (α := Record)) xs)) (hb : k + xs.length * 5 ≤ 1099511627776) : CtR Try.prog 32 [vxs, .int .i64 ((k : Nat) : Int)] w lo hi (fun v w' => v = .int .i64 ((k + 5 * xs.length : Nat) : Int) ∧ Own w' lo hi 5 vxs (List.flatMap (Enc.enc (α := Record)) (mkL 5 mkRecord k xs.length))) := by
  refine ctR_of Try.func32 rfl Try.ntmps32 rfl ?_
  refine S_sub [(0, vxs), (1, .int .i64 ((k : Nat) : Int))] ⟨rfl, rfl, trivial⟩ ?_
  have E : ModR w w lo hi := ModR.refl w lo hi
  refine S_seq ?_
  refine S_reg [true] rfl rfl ?_
  refine J_st (R_assign rfl) rfl (J_done ?_)
  refine S_seq ?_
  refine S_seq ?_
  refine S_reg [true] rfl rfl ?_
  refine J_st (R_assign rfl) rfl (J_done ?_)
  refine S_block ?_
  refine S_loop (fun (xq : Nat × Nat × List Record) => let ⟨i, q, bs⟩ := xq; [(0, vxs), (1, .int .i64 ((q : Nat) : Int)), (4, .int .i64 0), (5, .int .i64 ((i : Nat) : Int))]) (fun (xq : Nat × Nat × List Record) w' => let ⟨i, q, bs⟩ := xq; ModR w w' lo hi ∧ w.heap.size ≤ w'.heap.size ∧ i + bs.length = xs.length ∧ q = k + 5 * i ∧ Own w' lo hi 5 vxs (List.flatMap (Enc.enc (α := Record)) (mkL 5 mkRecord k i ++ bs))) (fun (xq : Nat × Nat × List Record) => let ⟨i, q, bs⟩ := xq; xs.length - i) (0, k, xs) ⟨rfl, rfl, rfl, rfl, trivial⟩ ⟨E, Nat.le_refl _, (by simp), (by simp), (by simpa [mkL] using hxs)⟩ ?_
  clear E hxs
  rintro ⟨i, q, bs⟩ w1 ⟨E, z1, hi, hq, hxs⟩
  refine S_sub [(0, vxs), (1, .int .i64 ((q : Nat) : Int)), (4, .int .i64 0), (5, .int .i64 ((i : Nat) : Int))] ⟨rfl, rfl, rfl, rfl, trivial⟩ ?_
  refine S_seq ?_
  refine S_seq ?_
  refine S_reg [true, true, true, true] rfl rfl ?_
  refine J_st (R_move rfl) rfl (J_st (R_move rfl) rfl (J_st (R_len Try.underlying32 rfl (Own.lenE (by decide) hxs (by simp only [List.length_append, mkL_length, List.length_cons]; omega))) rfl (J_st (R_lss rfl rfl) rfl (J_done ?_))))
  refine S_cond rfl (fun hc1 => ?_) (fun hc1 => ?_)
  · rcases bs with _ | ⟨x, bs⟩
    · exact absurd hi (by have h := hc1; simp at h ⊢; omega)
    simp only [List.length_cons] at hi
    have hc1n : i < xs.length := by first | (have h := of_decide_eq_true hc1; omega) | (have h := hc1; simp at h; omega)
    refine S_skip ?_
    refine S_seq ?_
    refine S_block ?_
    refine S_seq ?_
    refine S_reg [true, true, true, true, true, false] rfl rfl ?_
    refine J_st (R_move rfl) rfl (J_st (R_move rfl) rfl (J_st (R_move rfl) rfl (J_st (R_index sl32 rfl rfl (Own.rd (by decide) hxs) (by simp only [List.length_append, mkL_length, List.length_cons]; omega)) rfl (J_st (R_fieldAddr fl71_0 rfl) rfl ?_))))
    refine J_storeOwn (α := Record) (i := i) (f := 0) (⟨((q : Nat) : Int), x.stamp, x.key, x.val⟩ : Record) sc3 rfl rfl rfl rfl hxs (mkL_length _ _ _ _) (by decide) rfl (fun w2 m1 hxs' => ?_)
    have hq := hxs.blk
    replace hxs := hxs'
    replace E := E.mod m1 (fun g hg => by have := hq g hg; omega)
    have z2 := m1.size
    clear hq
    refine J_done ?_
    refine S_seq ?_
    refine S_reg [true, true, true] rfl rfl ?_
    refine J_st (R_move rfl) rfl (J_st (R_add rfl rfl (add_nat (by unfold maxLen; omega))) rfl (J_st (R_assign rfl) rfl (J_done ?_)))
    refine S_seq ?_
    refine S_reg [true, true, true, true, true, true, false] rfl rfl ?_
    refine J_st (R_move rfl) rfl (J_st (R_move rfl) rfl (J_st (R_move rfl) rfl (J_st (R_index sl32 rfl rfl (Own.rd (by decide) hxs) (by simp only [List.length_append, mkL_length, List.length_cons]; omega)) rfl (J_st (R_fieldAddr fl71_1 rfl) rfl (J_st (R_fieldAddr fl57_0 rfl) rfl ?_)))))
    refine J_storeOwn (α := Record) (i := i) (f := 1) (⟨((q : Nat) : Int), (⟨((q + 1 : Nat) : Int), x.stamp.turn⟩ : Stamp), x.key, x.val⟩ : Record) sc3 rfl rfl rfl rfl hxs (mkL_length _ _ _ _) (by decide) rfl (fun w3 m2 hxs' => ?_)
    have hq := hxs.blk
    replace hxs := hxs'
    replace E := E.mod m2 (fun g hg => by have := hq g hg; omega)
    have z3 := m2.size
    clear hq
    refine J_done ?_
    refine S_seq ?_
    refine S_reg [true, true, true] rfl rfl ?_
    refine J_st (R_move rfl) rfl (J_st (R_add rfl rfl (add_nat (by unfold maxLen; omega))) rfl (J_st (R_assign rfl) rfl (J_done ?_)))
    refine S_seq ?_
    refine S_reg [true, true, true, true, true, true, false] rfl rfl ?_
    refine J_st (R_move rfl) rfl (J_st (R_move rfl) rfl (J_st (R_move rfl) rfl (J_st (R_index sl32 rfl rfl (Own.rd (by decide) hxs) (by simp only [List.length_append, mkL_length, List.length_cons]; omega)) rfl (J_st (R_fieldAddr fl71_1 rfl) rfl (J_st (R_fieldAddr fl57_1 rfl) rfl ?_)))))
    refine J_storeOwn (α := Record) (i := i) (f := 2) (⟨((q : Nat) : Int), (⟨((q + 1 : Nat) : Int), ((q + 1 + 1 : Nat) : Int)⟩ : Stamp), x.key, x.val⟩ : Record) sc3 rfl rfl rfl rfl hxs (mkL_length _ _ _ _) (by decide) rfl (fun w4 m3 hxs' => ?_)
    have hq := hxs.blk
    replace hxs := hxs'
    replace E := E.mod m3 (fun g hg => by have := hq g hg; omega)
    have z4 := m3.size
    clear hq
    refine J_done ?_
    refine S_seq ?_
    refine S_reg [true, true, true] rfl rfl ?_
    refine J_st (R_move rfl) rfl (J_st (R_add rfl rfl (add_nat (by unfold maxLen; omega))) rfl (J_st (R_assign rfl) rfl (J_done ?_)))
    refine S_seq ?_
    refine S_reg [true, true, true, true, true, false] rfl rfl ?_
    refine J_st (R_move rfl) rfl (J_st (R_move rfl) rfl (J_st (R_move rfl) rfl (J_st (R_index sl32 rfl rfl (Own.rd (by decide) hxs) (by simp only [List.length_append, mkL_length, List.length_cons]; omega)) rfl (J_st (R_fieldAddr fl71_2 rfl) rfl ?_))))
    refine J_storeOwn (α := Record) (i := i) (f := 3) (⟨((q : Nat) : Int), (⟨((q + 1 : Nat) : Int), ((q + 1 + 1 : Nat) : Int)⟩ : Stamp), ((q + 1 + 1 + 1 : Nat) : Int), x.val⟩ : Record) sc3 rfl rfl rfl rfl hxs (mkL_length _ _ _ _) (by decide) rfl (fun w5 m4 hxs' => ?_)
    have hq := hxs.blk
    replace hxs := hxs'
    replace E := E.mod m4 (fun g hg => by have := hq g hg; omega)
    have z5 := m4.size
    clear hq
    refine J_done ?_
    refine S_seq ?_
    refine S_reg [true, true, true] rfl rfl ?_
    refine J_st (R_move rfl) rfl (J_st (R_add rfl rfl (add_nat (by unfold maxLen; omega))) rfl (J_st (R_assign rfl) rfl (J_done ?_)))
    refine S_seq ?_
    refine S_reg [true, true, true, true, true, false] rfl rfl ?_
    refine J_st (R_move rfl) rfl (J_st (R_move rfl) rfl (J_st (R_move rfl) rfl (J_st (R_index sl32 rfl rfl (Own.rd (by decide) hxs) (by simp only [List.length_append, mkL_length, List.length_cons]; omega)) rfl (J_st (R_fieldAddr fl71_3 rfl) rfl ?_))))
    refine J_storeOwn (α := Record) (i := i) (f := 4) (⟨((q : Nat) : Int), (⟨((q + 1 : Nat) : Int), ((q + 1 + 1 : Nat) : Int)⟩ : Stamp), ((q + 1 + 1 + 1 : Nat) : Int), ((q + 1 + 1 + 1 + 1 : Nat) : Int)⟩ : Record) sc3 rfl rfl rfl rfl hxs (mkL_length _ _ _ _) (by decide) rfl (fun w6 m5 hxs' => ?_)
    have hq := hxs.blk
    replace hxs := hxs'
    replace E := E.mod m5 (fun g hg => by have := hq g hg; omega)
    have z6 := m5.size
    clear hq
    refine J_done ?_
    refine S_reg [true, true, true] rfl rfl ?_
    refine J_st (R_move rfl) rfl (J_st (R_add rfl rfl (add_nat (by unfold maxLen; omega))) rfl (J_st (R_assign rfl) rfl (J_done ?_)))
    refine S_nil (E_inB ?_)
    refine S_reg [true, true, true] rfl rfl ?_
    refine J_st (R_move rfl) rfl (J_st (R_add rfl rfl (add_nat (by unfold maxLen; omega))) rfl (J_st (R_assign rfl) rfl (J_done ?_)))
    refine S_nil (E_again (i + 1, q + 1 + 1 + 1 + 1 + 1, bs) (by simp; omega) ⟨rfl, rfl, rfl, rfl, trivial⟩ ⟨E, (by omega), (by omega), (by omega), (by subst hq; rw [← mkL_succ]; exact hxs)⟩)
  · have hc1n : ¬ i < xs.length := by first | (have h := of_decide_eq_false hc1; omega) | (have h := hc1; simp at h; omega)
    refine S_exit (E_lp_exit (E_inB_exit ?_))
    refine S_seq ?_
    refine S_reg [true, true] rfl rfl ?_
    refine J_st (R_move rfl) rfl (J_st (R_assign rfl) rfl (J_done ?_))
    refine S_ret (E_done1 rfl rfl E ?_)
    exact ⟨by subst hq; rw [show i = xs.length from by omega], by obtain rfl : bs = [] := List.eq_nil_of_length_eq_zero (by omega); rw [show xs.length = i from by simp at hi; omega]; simpa using hxs⟩

set_option maxRecDepth 20000 in
theorem markIntS (vxs : Value) (lo hi : Nat) (xs : List Int) (k : Nat) (w : World) (hxs : Own w lo hi 1 vxs (List.flatMap (Enc.enc (α := Int)) xs)) (hb : k + xs.length * 1 ≤ 1099511627776) : CtR Try.prog 34 [vxs, .int .i64 ((k : Nat) : Int)] w lo hi (fun v w' => v = .int .i64 ((k + 1 * xs.length : Nat) : Int) ∧ Own w' lo hi 1 vxs (List.flatMap (Enc.enc (α := Int)) (mkL 1 mkInt k xs.length))) := by
  refine ctR_of Try.func34 rfl Try.ntmps34 rfl ?_
  refine S_sub [(0, vxs), (1, .int .i64 ((k : Nat) : Int))] ⟨rfl, rfl, trivial⟩ ?_
  have E : ModR w w lo hi := ModR.refl w lo hi
  refine S_seq ?_
  refine S_reg [true] rfl rfl ?_
  refine J_st (R_assign rfl) rfl (J_done ?_)
  refine S_seq ?_
  refine S_seq ?_
  refine S_reg [true] rfl rfl ?_
  refine J_st (R_assign rfl) rfl (J_done ?_)
  refine S_block ?_
  refine S_loop (fun (xq : Nat × Nat × List Int) => let ⟨i, q, bs⟩ := xq; [(0, vxs), (1, .int .i64 ((q : Nat) : Int)), (4, .int .i64 0), (5, .int .i64 ((i : Nat) : Int))]) (fun (xq : Nat × Nat × List Int) w' => let ⟨i, q, bs⟩ := xq; ModR w w' lo hi ∧ w.heap.size ≤ w'.heap.size ∧ i + bs.length = xs.length ∧ q = k + 1 * i ∧ Own w' lo hi 1 vxs (List.flatMap (Enc.enc (α := Int)) (mkL 1 mkInt k i ++ bs))) (fun (xq : Nat × Nat × List Int) => let ⟨i, q, bs⟩ := xq; xs.length - i) (0, k, xs) ⟨rfl, rfl, rfl, rfl, trivial⟩ ⟨E, Nat.le_refl _, (by simp), (by simp), (by simpa [mkL] using hxs)⟩ ?_
  clear E hxs
  rintro ⟨i, q, bs⟩ w1 ⟨E, z1, hi, hq, hxs⟩
  refine S_sub [(0, vxs), (1, .int .i64 ((q : Nat) : Int)), (4, .int .i64 0), (5, .int .i64 ((i : Nat) : Int))] ⟨rfl, rfl, rfl, rfl, trivial⟩ ?_
  refine S_seq ?_
  refine S_seq ?_
  refine S_reg [true, true, true, true] rfl rfl ?_
  refine J_st (R_move rfl) rfl (J_st (R_move rfl) rfl (J_st (R_len Try.underlying24 rfl (Own.lenE (by decide) hxs (by simp only [List.length_append, mkL_length, List.length_cons]; omega))) rfl (J_st (R_lss rfl rfl) rfl (J_done ?_))))
  refine S_cond rfl (fun hc1 => ?_) (fun hc1 => ?_)
  · rcases bs with _ | ⟨x, bs⟩
    · exact absurd hi (by have h := hc1; simp at h ⊢; omega)
    simp only [List.length_cons] at hi
    have hc1n : i < xs.length := by first | (have h := of_decide_eq_true hc1; omega) | (have h := hc1; simp at h; omega)
    refine S_skip ?_
    refine S_seq ?_
    refine S_block ?_
    refine S_seq ?_
    refine S_reg [true, true, true, true, false] rfl rfl ?_
    refine J_st (R_move rfl) rfl (J_st (R_move rfl) rfl (J_st (R_move rfl) rfl (J_st (R_index sl24 rfl rfl (Own.rd (by decide) hxs) (by simp only [List.length_append, mkL_length, List.length_cons]; omega)) rfl ?_)))
    refine J_storeOwn (α := Int) (i := i) (f := 0) ((q : Nat) : Int) sc3 rfl rfl rfl rfl hxs (mkL_length _ _ _ _) (by decide) rfl (fun w2 m1 hxs' => ?_)
    have hq := hxs.blk
    replace hxs := hxs'
    replace E := E.mod m1 (fun g hg => by have := hq g hg; omega)
    have z2 := m1.size
    clear hq
    refine J_done ?_
    refine S_reg [true, true, true] rfl rfl ?_
    refine J_st (R_move rfl) rfl (J_st (R_add rfl rfl (add_nat (by unfold maxLen; omega))) rfl (J_st (R_assign rfl) rfl (J_done ?_)))
    refine S_nil (E_inB ?_)
    refine S_reg [true, true, true] rfl rfl ?_
    refine J_st (R_move rfl) rfl (J_st (R_add rfl rfl (add_nat (by unfold maxLen; omega))) rfl (J_st (R_assign rfl) rfl (J_done ?_)))
    refine S_nil (E_again (i + 1, q + 1, bs) (by simp; omega) ⟨rfl, rfl, rfl, rfl, trivial⟩ ⟨E, (by omega), (by omega), (by omega), (by subst hq; rw [← mkL_succ]; exact hxs)⟩)
  · have hc1n : ¬ i < xs.length := by first | (have h := of_decide_eq_false hc1; omega) | (have h := hc1; simp at h; omega)
    refine S_exit (E_lp_exit (E_inB_exit ?_))
    refine S_seq ?_
    refine S_reg [true, true] rfl rfl ?_
    refine J_st (R_move rfl) rfl (J_st (R_assign rfl) rfl (J_done ?_))
    refine S_ret (E_done1 rfl rfl E ?_)
    exact ⟨by subst hq; rw [show i = xs.length from by omega], by obtain rfl : bs = [] := List.eq_nil_of_length_eq_zero (by omega); rw [show xs.length = i from by simp at hi; omega]; simpa using hxs⟩

set_option maxRecDepth 20000 in
theorem markBoolS (vxs : Value) (lo hi : Nat) (xs : List Bool) (k : Nat) (w : World) (hxs : Own w lo hi 1 vxs (List.flatMap (Enc.enc (α := Bool)) xs)) (hb : k + xs.length * 1 ≤ 1099511627776) : CtR Try.prog 35 [vxs, .int .i64 ((k : Nat) : Int)] w lo hi (fun v w' => v = .int .i64 ((k + 1 * xs.length : Nat) : Int) ∧ Own w' lo hi 1 vxs (List.flatMap (Enc.enc (α := Bool)) (mkL 1 mkBool k xs.length))) := by
  refine ctR_of Try.func35 rfl Try.ntmps35 rfl ?_
  refine S_sub [(0, vxs), (1, .int .i64 ((k : Nat) : Int))] ⟨rfl, rfl, trivial⟩ ?_
  have E : ModR w w lo hi := ModR.refl w lo hi
  refine S_seq ?_
  refine S_reg [true] rfl rfl ?_
  refine J_st (R_assign rfl) rfl (J_done ?_)
  refine S_seq ?_
  refine S_seq ?_
  refine S_reg [true] rfl rfl ?_
  refine J_st (R_assign rfl) rfl (J_done ?_)
  refine S_block ?_
  refine S_loop (fun (xq : Nat × Nat × List Bool) => let ⟨i, q, bs⟩ := xq; [(0, vxs), (1, .int .i64 ((q : Nat) : Int)), (4, .int .i64 0), (5, .int .i64 ((i : Nat) : Int))]) (fun (xq : Nat × Nat × List Bool) w' => let ⟨i, q, bs⟩ := xq; ModR w w' lo hi ∧ w.heap.size ≤ w'.heap.size ∧ i + bs.length = xs.length ∧ q = k + 1 * i ∧ Own w' lo hi 1 vxs (List.flatMap (Enc.enc (α := Bool)) (mkL 1 mkBool k i ++ bs))) (fun (xq : Nat × Nat × List Bool) => let ⟨i, q, bs⟩ := xq; xs.length - i) (0, k, xs) ⟨rfl, rfl, rfl, rfl, trivial⟩ ⟨E, Nat.le_refl _, (by simp), (by simp), (by simpa [mkL] using hxs)⟩ ?_
  clear E hxs
  rintro ⟨i, q, bs⟩ w1 ⟨E, z1, hi, hq, hxs⟩
  refine S_sub [(0, vxs), (1, .int .i64 ((q : Nat) : Int)), (4, .int .i64 0), (5, .int .i64 ((i : Nat) : Int))] ⟨rfl, rfl, rfl, rfl, trivial⟩ ?_
  refine S_seq ?_
  refine S_seq ?_
  refine S_reg [true, true, true, true] rfl rfl ?_
  refine J_st (R_move rfl) rfl (J_st (R_move rfl) rfl (J_st (R_len Try.underlying25 rfl (Own.lenE (by decide) hxs (by simp only [List.length_append, mkL_length, List.length_cons]; omega))) rfl (J_st (R_lss rfl rfl) rfl (J_done ?_))))
  refine S_cond rfl (fun hc1 => ?_) (fun hc1 => ?_)
  · rcases bs with _ | ⟨x, bs⟩
    · exact absurd hi (by have h := hc1; simp at h ⊢; omega)
    simp only [List.length_cons] at hi
    have hc1n : i < xs.length := by first | (have h := of_decide_eq_true hc1; omega) | (have h := hc1; simp at h; omega)
    refine S_skip ?_
    refine S_seq ?_
    refine S_block ?_
    refine S_seq ?_
    refine S_reg [true, true, true, true, true, true, false] rfl rfl ?_
    refine J_st (R_move rfl) rfl (J_st (R_move rfl) rfl (J_st (R_move rfl) rfl (J_st (R_rem rfl rfl (by decide) rfl) rfl (J_st (R_eql rfl rfl) rfl (J_st (R_index sl25 rfl rfl (Own.rd (by decide) hxs) (by simp only [List.length_append, mkL_length, List.length_cons]; omega)) rfl ?_)))))
    refine J_storeOwn (α := Bool) (i := i) (f := 0) ((Int.tmod ((q : Nat) : Int) 3) == 0) sc4 rfl rfl rfl rfl hxs (mkL_length _ _ _ _) (by decide) rfl (fun w2 m1 hxs' => ?_)
    have hq := hxs.blk
    replace hxs := hxs'
    replace E := E.mod m1 (fun g hg => by have := hq g hg; omega)
    have z2 := m1.size
    clear hq
    refine J_done ?_
    refine S_reg [true, true, true] rfl rfl ?_
    refine J_st (R_move rfl) rfl (J_st (R_add rfl rfl (add_nat (by unfold maxLen; omega))) rfl (J_st (R_assign rfl) rfl (J_done ?_)))
    refine S_nil (E_inB ?_)
    refine S_reg [true, true, true] rfl rfl ?_
    refine J_st (R_move rfl) rfl (J_st (R_add rfl rfl (add_nat (by unfold maxLen; omega))) rfl (J_st (R_assign rfl) rfl (J_done ?_)))
    refine S_nil (E_again (i + 1, q + 1, bs) (by simp; omega) ⟨rfl, rfl, rfl, rfl, trivial⟩ ⟨E, (by omega), (by omega), (by omega), (by subst hq; rw [← mkL_succ]; exact hxs)⟩)
  · have hc1n : ¬ i < xs.length := by first | (have h := of_decide_eq_false hc1; omega) | (have h := hc1; simp at h; omega)
    refine S_exit (E_lp_exit (E_inB_exit ?_))
    refine S_seq ?_
    refine S_reg [true, true] rfl rfl ?_
    refine J_st (R_move rfl) rfl (J_st (R_assign rfl) rfl (J_done ?_))
    refine S_ret (E_done1 rfl rfl E ?_)
    exact ⟨by subst hq; rw [show i = xs.length from by omega], by obtain rfl : bs = [] := List.eq_nil_of_length_eq_zero (by omega); rw [show xs.length = i from by simp at hi; omega]; simpa using hxs⟩

set_option maxRecDepth 20000 in
theorem markDoneS (vxs : Value) (lo hi : Nat) (xs : List Done) (k : Nat) (w : World) (hxs : Own w lo hi 2 vxs (List.flatMap (Enc.enc (α := Done)) xs)) (hb : k + xs.length * 2 ≤ 1099511627776) : CtR Try.prog 36 [vxs, .int .i64 ((k : Nat) : Int)] w lo hi (fun v w' => v = .int .i64 ((k + 2 * xs.length : Nat) : Int) ∧ Own w' lo hi 2 vxs (List.flatMap (Enc.enc (α := Done)) (mkL 2 mkDone k xs.length))) := by
  refine ctR_of Try.func36 rfl Try.ntmps36 rfl ?_
  refine S_sub [(0, vxs), (1, .int .i64 ((k : Nat) : Int))] ⟨rfl, rfl, trivial⟩ ?_
  have E : ModR w w lo hi := ModR.refl w lo hi
  refine S_seq ?_
  refine S_reg [true] rfl rfl ?_
  refine J_st (R_assign rfl) rfl (J_done ?_)
  refine S_seq ?_
  refine S_seq ?_
  refine S_reg [true] rfl rfl ?_
  refine J_st (R_assign rfl) rfl (J_done ?_)
  refine S_block ?_
  refine S_loop (fun (xq : Nat × Nat × List Done) => let ⟨i, q, bs⟩ := xq; [(0, vxs), (1, .int .i64 ((q : Nat) : Int)), (4, .int .i64 0), (5, .int .i64 ((i : Nat) : Int))]) (fun (xq : Nat × Nat × List Done) w' => let ⟨i, q, bs⟩ := xq; ModR w w' lo hi ∧ w.heap.size ≤ w'.heap.size ∧ i + bs.length = xs.length ∧ q = k + 2 * i ∧ Own w' lo hi 2 vxs (List.flatMap (Enc.enc (α := Done)) (mkL 2 mkDone k i ++ bs))) (fun (xq : Nat × Nat × List Done) => let ⟨i, q, bs⟩ := xq; xs.length - i) (0, k, xs) ⟨rfl, rfl, rfl, rfl, trivial⟩ ⟨E, Nat.le_refl _, (by simp), (by simp), (by simpa [mkL] using hxs)⟩ ?_
  clear E hxs
  rintro ⟨i, q, bs⟩ w1 ⟨E, z1, hi, hq, hxs⟩
  refine S_sub [(0, vxs), (1, .int .i64 ((q : Nat) : Int)), (4, .int .i64 0), (5, .int .i64 ((i : Nat) : Int))] ⟨rfl, rfl, rfl, rfl, trivial⟩ ?_
  refine S_seq ?_
  refine S_seq ?_
  refine S_reg [true, true, true, true] rfl rfl ?_
  refine J_st (R_move rfl) rfl (J_st (R_move rfl) rfl (J_st (R_len Try.underlying34 rfl (Own.lenE (by decide) hxs (by simp only [List.length_append, mkL_length, List.length_cons]; omega))) rfl (J_st (R_lss rfl rfl) rfl (J_done ?_))))
  refine S_cond rfl (fun hc1 => ?_) (fun hc1 => ?_)
  · rcases bs with _ | ⟨x, bs⟩
    · exact absurd hi (by have h := hc1; simp at h ⊢; omega)
    simp only [List.length_cons] at hi
    have hc1n : i < xs.length := by first | (have h := of_decide_eq_true hc1; omega) | (have h := hc1; simp at h; omega)
    refine S_skip ?_
    refine S_seq ?_
    refine S_block ?_
    refine S_seq ?_
    refine S_reg [true, true, true, true, true, false] rfl rfl ?_
    refine J_st (R_move rfl) rfl (J_st (R_move rfl) rfl (J_st (R_move rfl) rfl (J_st (R_index sl34 rfl rfl (Own.rd (by decide) hxs) (by simp only [List.length_append, mkL_length, List.length_cons]; omega)) rfl (J_st (R_fieldAddr fl81_0 rfl) rfl ?_))))
    refine J_storeOwn (α := Done) (i := i) (f := 0) (⟨((q : Nat) : Int), x.capped⟩ : Done) sc3 rfl rfl rfl rfl hxs (mkL_length _ _ _ _) (by decide) rfl (fun w2 m1 hxs' => ?_)
    have hq := hxs.blk
    replace hxs := hxs'
    replace E := E.mod m1 (fun g hg => by have := hq g hg; omega)
    have z2 := m1.size
    clear hq
    refine J_done ?_
    refine S_seq ?_
    refine S_reg [true, true, true] rfl rfl ?_
    refine J_st (R_move rfl) rfl (J_st (R_add rfl rfl (add_nat (by unfold maxLen; omega))) rfl (J_st (R_assign rfl) rfl (J_done ?_)))
    refine S_seq ?_
    refine S_reg [true, true, true, true, true, true, true, false] rfl rfl ?_
    refine J_st (R_move rfl) rfl (J_st (R_move rfl) rfl (J_st (R_move rfl) rfl (J_st (R_rem rfl rfl (by decide) rfl) rfl (J_st (R_eql rfl rfl) rfl (J_st (R_index sl34 rfl rfl (Own.rd (by decide) hxs) (by simp only [List.length_append, mkL_length, List.length_cons]; omega)) rfl (J_st (R_fieldAddr fl81_1 rfl) rfl ?_))))))
    refine J_storeOwn (α := Done) (i := i) (f := 1) (⟨((q : Nat) : Int), (Int.tmod ((q + 1 : Nat) : Int) 3) == 0⟩ : Done) sc4 rfl rfl rfl rfl hxs (mkL_length _ _ _ _) (by decide) rfl (fun w3 m2 hxs' => ?_)
    have hq := hxs.blk
    replace hxs := hxs'
    replace E := E.mod m2 (fun g hg => by have := hq g hg; omega)
    have z3 := m2.size
    clear hq
    refine J_done ?_
    refine S_reg [true, true, true] rfl rfl ?_
    refine J_st (R_move rfl) rfl (J_st (R_add rfl rfl (add_nat (by unfold maxLen; omega))) rfl (J_st (R_assign rfl) rfl (J_done ?_)))
    refine S_nil (E_inB ?_)
    refine S_reg [true, true, true] rfl rfl ?_
    refine J_st (R_move rfl) rfl (J_st (R_add rfl rfl (add_nat (by unfold maxLen; omega))) rfl (J_st (R_assign rfl) rfl (J_done ?_)))
    refine S_nil (E_again (i + 1, q + 1 + 1, bs) (by simp; omega) ⟨rfl, rfl, rfl, rfl, trivial⟩ ⟨E, (by omega), (by omega), (by omega), (by subst hq; rw [← mkL_succ]; exact hxs)⟩)
  · have hc1n : ¬ i < xs.length := by first | (have h := of_decide_eq_false hc1; omega) | (have h := hc1; simp at h; omega)
    refine S_exit (E_lp_exit (E_inB_exit ?_))
    refine S_seq ?_
    refine S_reg [true, true] rfl rfl ?_
    refine J_st (R_move rfl) rfl (J_st (R_assign rfl) rfl (J_done ?_))
    refine S_ret (E_done1 rfl rfl E ?_)
    exact ⟨by subst hq; rw [show i = xs.length from by omega], by obtain rfl : bs = [] := List.eq_nil_of_length_eq_zero (by omega); rw [show xs.length = i from by simp at hi; omega]; simpa using hxs⟩

set_option maxRecDepth 20000 in
theorem markWorker (cx : List Value) (lo hi : Nat) (x : Worker) (k : Nat) (w : World) (hx : Own1.O w lo hi cx x) (hhi : hi ≤ w.heap.size) (hb : k + 5 * cntWorker x ≤ 1099511627776) : CtR Try.prog 10 [.agg cx.toArray, .int .i64 ((k : Nat) : Int)] w lo hi (fun v w' => v = .int .i64 ((numW k x : Nat) : Int) ∧ Own1.O w' lo hi cx (markW k x)) := by
  unfold cntWorker at hb
  refine ctR_of Try.func10 rfl Try.ntmps10 rfl ?_
  obtain ⟨o1, o2, o3, o4, o5, o6, o7, o8, rfl, sp1, hw1, hw2, hw3, hw4, hw5, hw6, hw7, hw8⟩ := Worker.opO hx
  refine S_sub [(0, .agg [o1, o2, o3, o4, o5, o6, o7, o8].toArray), (1, .int .i64 ((k : Nat) : Int))] ⟨rfl, rfl, trivial⟩ ?_
  have E : ModR w w lo hi := ModR.refl w lo hi
  refine S_seq ?_
  refine S_reg [false, true] rfl rfl ?_
  refine J_box rfl rfl (fun b1 w1 e1 s1 h1 => ?_)
  have g_b1 : w.heap.size ≤ b1 := by have := E.size; omega
  have y_b1 := h1.lt
  replace E := E.ext e1; replace hw1 := hw1.ext e1; replace hw2 := hw2.ext e1; replace hw3 := hw3.ext e1; replace hw4 := hw4.ext e1; replace hw5 := hw5.ext e1; replace hw6 := hw6.ext e1; replace hw7 := hw7.ext e1; replace hw8 := hw8.ext e1
  have z1 := e1.size
  refine J_st (R_assign rfl) rfl (J_done ?_)
  refine S_seq ?_
  refine S_reg [true, true, true, false, true] rfl rfl ?_
  refine J_st (R_fieldAddr0 fl36_0 rfl) rfl (J_st (R_load sc32 rfl (h1.one 0 rfl)) rfl (J_st (R_move rfl) rfl ?_))
  refine J_callR Try.call32 rfl rfl (markRecordS o1 (bl o1) (bh o1) x.queue k _ (Own.tight hw1) (by first | omega | (simp only [mkL_length]; omega) | (rw [mkL_length]; done) | (simp only [mkL_length]; done))) rfl (fun _ w2 e2 hv => ?_)
  obtain ⟨rfl, hw1'⟩ := hv
  have e2c := ModR.loose e2 (Own.blk hw1)
  replace hw1 := Own.loose hw1' (Own.blk hw1)
  clear hw1'
  replace E := E.trans e2c (by omega) (by omega); replace hw2 := Own.modRS hw2 e2 sp1.1.1; replace hw3 := Own.modRS hw3 e2 sp1.1.2.1; replace hw4 := Own.modRS hw4 e2 sp1.1.2.2.1; replace hw5 := Own.modRS hw5 e2 sp1.1.2.2.2.1; replace hw6 := Own.modRS hw6 e2 sp1.1.2.2.2.2.1; replace hw7 := Own.modRS hw7 e2 sp1.1.2.2.2.2.2.1; replace hw8 := Own.modRS hw8 e2 sp1.1.2.2.2.2.2.2.1; replace h1 := h1.modR e2c (by omega)
  have z2 := e2c.size
  refine J_st (R_assign rfl) rfl (J_done ?_)
  refine S_seq ?_
  refine S_reg [true, true, true, false, true] rfl rfl ?_
  refine J_st (R_fieldAddr0 fl36_1 rfl) rfl (J_st (R_load sc32 rfl (h1.one 1 rfl)) rfl (J_st (R_move rfl) rfl ?_))
  refine J_callR Try.call32 rfl rfl (markRecordS o2 (bl o2) (bh o2) x.staged (k + 5 * x.queue.length) _ (Own.tight hw2) (by first | omega | (simp only [mkL_length]; omega) | (rw [mkL_length]; done) | (simp only [mkL_length]; done))) rfl (fun _ w3 e3 hv => ?_)
  obtain ⟨rfl, hw2'⟩ := hv
  have e3c := ModR.loose e3 (Own.blk hw2)
  replace hw2 := Own.loose hw2' (Own.blk hw2)
  clear hw2'
  replace E := E.trans e3c (by omega) (by omega); replace hw1 := Own.modRS hw1 e3 (sp1.1.1).symm; replace hw3 := Own.modRS hw3 e3 sp1.2.1.1; replace hw4 := Own.modRS hw4 e3 sp1.2.1.2.1; replace hw5 := Own.modRS hw5 e3 sp1.2.1.2.2.1; replace hw6 := Own.modRS hw6 e3 sp1.2.1.2.2.2.1; replace hw7 := Own.modRS hw7 e3 sp1.2.1.2.2.2.2.1; replace hw8 := Own.modRS hw8 e3 sp1.2.1.2.2.2.2.2.1; replace h1 := h1.modR e3c (by omega)
  have z3 := e3c.size
  refine J_st (R_assign rfl) rfl (J_done ?_)
  refine S_seq ?_
  refine S_reg [true, true, true, false, true] rfl rfl ?_
  refine J_st (R_fieldAddr0 fl36_2 rfl) rfl (J_st (R_load sc32 rfl (h1.one 2 rfl)) rfl (J_st (R_move rfl) rfl ?_))
  refine J_callR Try.call32 rfl rfl (markRecordS o3 (bl o3) (bh o3) x.inputs ((k + 5 * x.queue.length) + 5 * x.staged.length) _ (Own.tight hw3) (by first | omega | (simp only [mkL_length]; omega) | (rw [mkL_length]; done) | (simp only [mkL_length]; done))) rfl (fun _ w4 e4 hv => ?_)
  obtain ⟨rfl, hw3'⟩ := hv
  have e4c := ModR.loose e4 (Own.blk hw3)
  replace hw3 := Own.loose hw3' (Own.blk hw3)
  clear hw3'
  replace E := E.trans e4c (by omega) (by omega); replace hw1 := Own.modRS hw1 e4 (sp1.1.2.1).symm; replace hw2 := Own.modRS hw2 e4 (sp1.2.1.1).symm; replace hw4 := Own.modRS hw4 e4 sp1.2.2.1.1; replace hw5 := Own.modRS hw5 e4 sp1.2.2.1.2.1; replace hw6 := Own.modRS hw6 e4 sp1.2.2.1.2.2.1; replace hw7 := Own.modRS hw7 e4 sp1.2.2.1.2.2.2.1; replace hw8 := Own.modRS hw8 e4 sp1.2.2.1.2.2.2.2.1; replace h1 := h1.modR e4c (by omega)
  have z4 := e4c.size
  refine J_st (R_assign rfl) rfl (J_done ?_)
  refine S_seq ?_
  refine S_reg [true, true, true, false, true] rfl rfl ?_
  refine J_st (R_fieldAddr0 fl36_3 rfl) rfl (J_st (R_load sc33 rfl (h1.one 3 rfl)) rfl (J_st (R_move rfl) rfl ?_))
  refine J_callR Try.call33 rfl rfl (markCellS o4 (bl o4) (bh o4) x.cells (((k + 5 * x.queue.length) + 5 * x.staged.length) + 5 * x.inputs.length) _ (Own.tight hw4) (by first | omega | (simp only [mkL_length]; omega) | (rw [mkL_length]; done) | (simp only [mkL_length]; done))) rfl (fun _ w5 e5 hv => ?_)
  obtain ⟨rfl, hw4'⟩ := hv
  have e5c := ModR.loose e5 (Own.blk hw4)
  replace hw4 := Own.loose hw4' (Own.blk hw4)
  clear hw4'
  replace E := E.trans e5c (by omega) (by omega); replace hw1 := Own.modRS hw1 e5 (sp1.1.2.2.1).symm; replace hw2 := Own.modRS hw2 e5 (sp1.2.1.2.1).symm; replace hw3 := Own.modRS hw3 e5 (sp1.2.2.1.1).symm; replace hw5 := Own.modRS hw5 e5 sp1.2.2.2.1.1; replace hw6 := Own.modRS hw6 e5 sp1.2.2.2.1.2.1; replace hw7 := Own.modRS hw7 e5 sp1.2.2.2.1.2.2.1; replace hw8 := Own.modRS hw8 e5 sp1.2.2.2.1.2.2.2.1; replace h1 := h1.modR e5c (by omega)
  have z5 := e5c.size
  refine J_st (R_assign rfl) rfl (J_done ?_)
  refine S_seq ?_
  refine S_reg [true, true, true, false, true] rfl rfl ?_
  refine J_st (R_fieldAddr0 fl36_4 rfl) rfl (J_st (R_load sc24 rfl (h1.one 4 rfl)) rfl (J_st (R_move rfl) rfl ?_))
  refine J_callR Try.call34 rfl rfl (markIntS o5 (bl o5) (bh o5) x.sums ((((k + 5 * x.queue.length) + 5 * x.staged.length) + 5 * x.inputs.length) + 4 * x.cells.length) _ (Own.tight hw5) (by first | omega | (simp only [mkL_length]; omega) | (rw [mkL_length]; done) | (simp only [mkL_length]; done))) rfl (fun _ w6 e6 hv => ?_)
  obtain ⟨rfl, hw5'⟩ := hv
  have e6c := ModR.loose e6 (Own.blk hw5)
  replace hw5 := Own.loose hw5' (Own.blk hw5)
  clear hw5'
  replace E := E.trans e6c (by omega) (by omega); replace hw1 := Own.modRS hw1 e6 (sp1.1.2.2.2.1).symm; replace hw2 := Own.modRS hw2 e6 (sp1.2.1.2.2.1).symm; replace hw3 := Own.modRS hw3 e6 (sp1.2.2.1.2.1).symm; replace hw4 := Own.modRS hw4 e6 (sp1.2.2.2.1.1).symm; replace hw6 := Own.modRS hw6 e6 sp1.2.2.2.2.1.1; replace hw7 := Own.modRS hw7 e6 sp1.2.2.2.2.1.2.1; replace hw8 := Own.modRS hw8 e6 sp1.2.2.2.2.1.2.2.1; replace h1 := h1.modR e6c (by omega)
  have z6 := e6c.size
  refine J_st (R_assign rfl) rfl (J_done ?_)
  refine S_seq ?_
  refine S_reg [true, true, true, false, true] rfl rfl ?_
  refine J_st (R_fieldAddr0 fl36_5 rfl) rfl (J_st (R_load sc25 rfl (h1.one 5 rfl)) rfl (J_st (R_move rfl) rfl ?_))
  refine J_callR Try.call35 rfl rfl (markBoolS o6 (bl o6) (bh o6) x.black (((((k + 5 * x.queue.length) + 5 * x.staged.length) + 5 * x.inputs.length) + 4 * x.cells.length) + 1 * x.sums.length) _ (Own.tight hw6) (by first | omega | (simp only [mkL_length]; omega) | (rw [mkL_length]; done) | (simp only [mkL_length]; done))) rfl (fun _ w7 e7 hv => ?_)
  obtain ⟨rfl, hw6'⟩ := hv
  have e7c := ModR.loose e7 (Own.blk hw6)
  replace hw6 := Own.loose hw6' (Own.blk hw6)
  clear hw6'
  replace E := E.trans e7c (by omega) (by omega); replace hw1 := Own.modRS hw1 e7 (sp1.1.2.2.2.2.1).symm; replace hw2 := Own.modRS hw2 e7 (sp1.2.1.2.2.2.1).symm; replace hw3 := Own.modRS hw3 e7 (sp1.2.2.1.2.2.1).symm; replace hw4 := Own.modRS hw4 e7 (sp1.2.2.2.1.2.1).symm; replace hw5 := Own.modRS hw5 e7 (sp1.2.2.2.2.1.1).symm; replace hw7 := Own.modRS hw7 e7 sp1.2.2.2.2.2.1.1; replace hw8 := Own.modRS hw8 e7 sp1.2.2.2.2.2.1.2.1; replace h1 := h1.modR e7c (by omega)
  have z7 := e7c.size
  refine J_st (R_assign rfl) rfl (J_done ?_)
  refine S_seq ?_
  refine S_reg [true, true, true, false, true] rfl rfl ?_
  refine J_st (R_fieldAddr0 fl36_6 rfl) rfl (J_st (R_load sc25 rfl (h1.one 6 rfl)) rfl (J_st (R_move rfl) rfl ?_))
  refine J_callR Try.call35 rfl rfl (markBoolS o7 (bl o7) (bh o7) x.caps ((((((k + 5 * x.queue.length) + 5 * x.staged.length) + 5 * x.inputs.length) + 4 * x.cells.length) + 1 * x.sums.length) + 1 * x.black.length) _ (Own.tight hw7) (by first | omega | (simp only [mkL_length]; omega) | (rw [mkL_length]; done) | (simp only [mkL_length]; done))) rfl (fun _ w8 e8 hv => ?_)
  obtain ⟨rfl, hw7'⟩ := hv
  have e8c := ModR.loose e8 (Own.blk hw7)
  replace hw7 := Own.loose hw7' (Own.blk hw7)
  clear hw7'
  replace E := E.trans e8c (by omega) (by omega); replace hw1 := Own.modRS hw1 e8 (sp1.1.2.2.2.2.2.1).symm; replace hw2 := Own.modRS hw2 e8 (sp1.2.1.2.2.2.2.1).symm; replace hw3 := Own.modRS hw3 e8 (sp1.2.2.1.2.2.2.1).symm; replace hw4 := Own.modRS hw4 e8 (sp1.2.2.2.1.2.2.1).symm; replace hw5 := Own.modRS hw5 e8 (sp1.2.2.2.2.1.2.1).symm; replace hw6 := Own.modRS hw6 e8 (sp1.2.2.2.2.2.1.1).symm; replace hw8 := Own.modRS hw8 e8 sp1.2.2.2.2.2.2.1.1; replace h1 := h1.modR e8c (by omega)
  have z8 := e8c.size
  refine J_st (R_assign rfl) rfl (J_done ?_)
  refine S_seq ?_
  refine S_reg [true, true, true, false, true] rfl rfl ?_
  refine J_st (R_fieldAddr0 fl36_7 rfl) rfl (J_st (R_load sc34 rfl (h1.one 7 rfl)) rfl (J_st (R_move rfl) rfl ?_))
  refine J_callR Try.call36 rfl rfl (markDoneS o8 (bl o8) (bh o8) x.dones (((((((k + 5 * x.queue.length) + 5 * x.staged.length) + 5 * x.inputs.length) + 4 * x.cells.length) + 1 * x.sums.length) + 1 * x.black.length) + 1 * x.caps.length) _ (Own.tight hw8) (by first | omega | (simp only [mkL_length]; omega) | (rw [mkL_length]; done) | (simp only [mkL_length]; done))) rfl (fun _ w9 e9 hv => ?_)
  obtain ⟨rfl, hw8'⟩ := hv
  have e9c := ModR.loose e9 (Own.blk hw8)
  replace hw8 := Own.loose hw8' (Own.blk hw8)
  clear hw8'
  replace E := E.trans e9c (by omega) (by omega); replace hw1 := Own.modRS hw1 e9 (sp1.1.2.2.2.2.2.2.1).symm; replace hw2 := Own.modRS hw2 e9 (sp1.2.1.2.2.2.2.2.1).symm; replace hw3 := Own.modRS hw3 e9 (sp1.2.2.1.2.2.2.2.1).symm; replace hw4 := Own.modRS hw4 e9 (sp1.2.2.2.1.2.2.2.1).symm; replace hw5 := Own.modRS hw5 e9 (sp1.2.2.2.2.1.2.2.1).symm; replace hw6 := Own.modRS hw6 e9 (sp1.2.2.2.2.2.1.2.1).symm; replace hw7 := Own.modRS hw7 e9 (sp1.2.2.2.2.2.2.1.1).symm; replace h1 := h1.modR e9c (by omega)
  have z9 := e9c.size
  refine J_st (R_assign rfl) rfl (J_done ?_)
  refine S_seq ?_
  refine S_reg [true, true] rfl rfl ?_
  refine J_st (R_move rfl) rfl (J_st (R_assign rfl) rfl (J_done ?_))
  refine S_ret (E_done1 rfl rfl E ?_)
  exact ⟨rfl, Worker.mkO (markW k x) sp1 hw1 hw2 hw3 hw4 hw5 hw6 hw7 hw8⟩

set_option maxRecDepth 20000 in
theorem c_copyRecords (vxs : Value) (xs : List Record) (w : World) (hxs : RdS w vxs xs) (hb : xs.length ≤ 4194304) : Ct Try.prog 25 [vxs] w (fun v w' => Own w' w.heap.size w'.heap.size 5 v (List.flatMap (Enc.enc (α := Record)) xs)) := by
  refine ct_of Try.func25 rfl Try.ntmps25 rfl ?_
  refine S_sub [(0, vxs)] ⟨rfl, trivial⟩ ?_
  have E : Ext w w := Ext.refl w
  refine S_seq ?_
  refine S_reg [true] rfl rfl ?_
  refine J_st (R_assign rfl) rfl (J_done ?_)
  refine S_seq ?_
  refine S_reg [true, false, true] rfl rfl ?_
  refine J_st (R_move rfl) rfl ?_
  refine J_append sl32 rfl rfl (Own.nil w w.heap.size w.heap.size 5) (RdS.src (hxs.ext E)) (flat_one _) (by simp only [sum_flat, List.length_nil]; simp only [Enc.sz]; omega) (by decide) (by omega) (by omega) rfl rfl (fun v1 w1 m1 ho1 => ?_)
  replace E := E.step m1 (fun g hg => by have := Own.blk (Own.nil w w.heap.size w.heap.size 5) g hg; omega)
  have z1 := m1.size
  refine J_st (R_assign rfl) rfl (J_done ?_)
  refine S_ret (E_done1 rfl rfl E ?_)
  exact Own.fin ho1 (by have := E.size; omega) (by omega) (by simp [*])

set_option maxRecDepth 20000 in
theorem c_StampOrder (a : Stamp) (b : Stamp) (w : World)  : Ct Try.prog 59 [.agg (Enc.enc a).toArray, .agg (Enc.enc b).toArray] w (fun v _ => v = .int .i64 (stampOrd a b)) := by
  refine ct_of Try.func59 rfl Try.ntmps59 rfl ?_
  refine S_sub [(0, .agg (Enc.enc a).toArray), (1, .agg (Enc.enc b).toArray)] ⟨rfl, rfl, trivial⟩ ?_
  have E : Ext w w := Ext.refl w
  refine S_seq ?_
  refine S_reg [false, false, true] rfl rfl ?_
  refine J_box rfl rfl (fun b1 w1 e1 s1 h1 => ?_)
  have g_b1 : w.heap.size ≤ b1 := by have := E.size; omega
  have y_b1 := h1.lt
  replace E := E.trans e1
  have z1 := e1.size
  refine J_box rfl rfl (fun b2 w2 e2 s2 h2 => ?_)
  have g_b2 : w.heap.size ≤ b2 := by have := E.size; omega
  have y_b2 := h2.lt
  replace E := E.trans e2; replace h1 := h1.ext e2
  have z2 := e2.size
  refine J_st (R_assign rfl) rfl (J_done ?_)
  refine S_seq ?_
  refine S_reg [true, true, true, true, false, true, true, true, true, false, false, true] rfl rfl ?_
  refine J_st (R_fieldAddr0 fl57_0 rfl) rfl (J_st (R_load sc3 rfl (h1.one 0 rfl)) rfl (J_st (R_fieldAddr0 fl57_1 rfl) rfl (J_st (R_load sc3 rfl (h1.one 1 rfl)) rfl ?_)))
  refine J_buildSlice (vs := [.int .i64 a.epoch, .int .i64 a.turn]) (css := [[.int .i64 a.epoch], [.int .i64 a.turn]]) sl24 rfl rfl ⟨⟨rfl, rfl⟩, ⟨rfl, rfl⟩, trivial⟩ rfl rfl (fun b3 w3 e3 s3 h3 => ?_)
  replace h3 : Blk w3 b3 [.int .i64 a.epoch, .int .i64 a.turn] := h3
  have g_b3 : w.heap.size ≤ b3 := by have := E.size; omega
  have y_b3 := h3.lt
  replace E := E.trans e3; replace h1 := h1.ext e3; replace h2 := h2.ext e3
  have z3 := e3.size
  refine J_st (R_fieldAddr0 fl57_0 rfl) rfl (J_st (R_load sc3 rfl (h2.one 0 rfl)) rfl (J_st (R_fieldAddr0 fl57_1 rfl) rfl (J_st (R_load sc3 rfl (h2.one 1 rfl)) rfl ?_)))
  refine J_buildSlice (vs := [.int .i64 b.epoch, .int .i64 b.turn]) (css := [[.int .i64 b.epoch], [.int .i64 b.turn]]) sl24 rfl rfl ⟨⟨rfl, rfl⟩, ⟨rfl, rfl⟩, trivial⟩ rfl rfl (fun b4 w4 e4 s4 h4 => ?_)
  replace h4 : Blk w4 b4 [.int .i64 b.epoch, .int .i64 b.turn] := h4
  have g_b4 : w.heap.size ≤ b4 := by have := E.size; omega
  have y_b4 := h4.lt
  replace E := E.trans e4; replace h1 := h1.ext e4; replace h2 := h2.ext e4; replace h3 := h3.ext e4
  have z4 := e4.size
  refine J_call Try.call60 rfl (c_orderOf (.slice (some ⟨b3, 0, none⟩) 2 2) [a.epoch, a.turn] (.slice (some ⟨b4, 0, none⟩) 2 2) [b.epoch, b.turn] _ (Blk.rd (α := Int) (xs := [a.epoch, a.turn]) (by decide) h3 rfl (by simp [maxLen])) (Blk.rd (α := Int) (xs := [b.epoch, b.turn]) (by decide) h4 rfl (by simp [maxLen]))) rfl (fun _ w5 e5 hv => ?_)
  subst hv
  replace E := E.trans e5; replace h1 := h1.ext e5; replace h2 := h2.ext e5; replace h3 := h3.ext e5; replace h4 := h4.ext e5
  have z5 := e5.size
  refine J_st (R_assign rfl) rfl (J_done ?_)
  refine S_ret (E_done1 rfl rfl E ?_)
  rfl

set_option maxRecDepth 20000 in
theorem s_StampOrder (a : Stamp) (b : Stamp) (w : World)  : Ct Try.prog 51 [.agg (Enc.enc a).toArray, .agg (Enc.enc b).toArray] w (fun v _ => v = .int .i64 (stampOrd a b)) := by
  refine ct_of Try.func51 rfl Try.ntmps51 rfl ?_
  refine S_sub [(0, .agg (Enc.enc a).toArray), (1, .agg (Enc.enc b).toArray)] ⟨rfl, rfl, trivial⟩ ?_
  have E : Ext w w := Ext.refl w
  refine S_seq ?_
  refine S_reg [false, false, true] rfl rfl ?_
  refine J_box rfl rfl (fun b1 w1 e1 s1 h1 => ?_)
  have g_b1 : w.heap.size ≤ b1 := by have := E.size; omega
  have y_b1 := h1.lt
  replace E := E.trans e1
  have z1 := e1.size
  refine J_box rfl rfl (fun b2 w2 e2 s2 h2 => ?_)
  have g_b2 : w.heap.size ≤ b2 := by have := E.size; omega
  have y_b2 := h2.lt
  replace E := E.trans e2; replace h1 := h1.ext e2
  have z2 := e2.size
  refine J_st (R_assign rfl) rfl (J_done ?_)
  refine S_seq ?_
  refine S_seq ?_
  refine S_reg [true, true, true, true, false, true] rfl rfl ?_
  refine J_st (R_fieldAddr0 fl57_0 rfl) rfl (J_st (R_load sc3 rfl (h1.one 0 rfl)) rfl (J_st (R_fieldAddr0 fl57_0 rfl) rfl (J_st (R_load sc3 rfl (h2.one 0 rfl)) rfl ?_)))
  refine J_call Try.call56 rfl (c_l02Order a.epoch b.epoch _ ) rfl (fun _ w3 e3 hv => ?_)
  subst hv
  replace E := E.trans e3; replace h1 := h1.ext e3; replace h2 := h2.ext e3
  have z3 := e3.size
  refine J_st (R_assign rfl) rfl (J_done ?_)
  refine S_seq ?_
  refine S_reg [true, true] rfl rfl ?_
  refine J_st (R_move rfl) rfl (J_st (R_neq rfl rfl) rfl (J_done ?_))
  refine S_cond rfl (fun hc1 => ?_) (fun hc1 => ?_)
  · refine S_seq ?_
    refine S_reg [true, true] rfl rfl ?_
    refine J_st (R_move rfl) rfl (J_st (R_assign rfl) rfl (J_done ?_))
    refine S_ret (E_done1 rfl rfl E ?_)
    rw [stampOrd_1 hc1]
  · refine S_skip ?_
    refine S_seq ?_
    refine S_reg [true, true, true, true, false, true] rfl rfl ?_
    refine J_st (R_fieldAddr0 fl57_1 rfl) rfl (J_st (R_load sc3 rfl (h1.one 1 rfl)) rfl (J_st (R_fieldAddr0 fl57_1 rfl) rfl (J_st (R_load sc3 rfl (h2.one 1 rfl)) rfl ?_)))
    refine J_call Try.call56 rfl (c_l02Order a.turn b.turn _ ) rfl (fun _ w4 e4 hv => ?_)
    subst hv
    replace E := E.trans e4; replace h1 := h1.ext e4; replace h2 := h2.ext e4
    have z4 := e4.size
    refine J_st (R_assign rfl) rfl (J_done ?_)
    refine S_ret (E_done1 rfl rfl E ?_)
    rw [stampOrd_2 hc1]

set_option maxRecDepth 20000 in
theorem c_RecordOrder (a : Record) (b : Record) (w : World)  : Ct Try.prog 54 [.agg (Enc.enc a).toArray, .agg (Enc.enc b).toArray] w (fun v _ => v = .int .i64 (recOrd a b)) := by
  refine ct_of Try.func54 rfl Try.ntmps54 rfl ?_
  refine S_sub [(0, .agg (Enc.enc a).toArray), (1, .agg (Enc.enc b).toArray)] ⟨rfl, rfl, trivial⟩ ?_
  have E : Ext w w := Ext.refl w
  refine S_seq ?_
  refine S_reg [false, false, true] rfl rfl ?_
  refine J_box rfl rfl (fun b1 w1 e1 s1 h1 => ?_)
  have g_b1 : w.heap.size ≤ b1 := by have := E.size; omega
  have y_b1 := h1.lt
  replace E := E.trans e1
  have z1 := e1.size
  refine J_box rfl rfl (fun b2 w2 e2 s2 h2 => ?_)
  have g_b2 : w.heap.size ≤ b2 := by have := E.size; omega
  have y_b2 := h2.lt
  replace E := E.trans e2; replace h1 := h1.ext e2
  have z2 := e2.size
  refine J_st (R_assign rfl) rfl (J_done ?_)
  refine S_seq ?_
  refine S_seq ?_
  refine S_reg [true, true, true, true, false, true] rfl rfl ?_
  refine J_st (R_fieldAddr0 fl71_1 rfl) rfl (J_st (R_loadS st57 rfl (h1.part 1 [.int .i64 a.stamp.epoch, .int .i64 a.stamp.turn] rfl) rfl) rfl (J_st (R_fieldAddr0 fl71_1 rfl) rfl (J_st (R_loadS st57 rfl (h2.part 1 [.int .i64 b.stamp.epoch, .int .i64 b.stamp.turn] rfl) rfl) rfl ?_)))
  refine J_call Try.call59 rfl (c_StampOrder a.stamp b.stamp _ ) rfl (fun _ w3 e3 hv => ?_)
  subst hv
  replace E := E.trans e3; replace h1 := h1.ext e3; replace h2 := h2.ext e3
  have z3 := e3.size
  refine J_st (R_assign rfl) rfl (J_done ?_)
  refine S_seq ?_
  refine S_reg [true, true] rfl rfl ?_
  refine J_st (R_move rfl) rfl (J_st (R_neq rfl rfl) rfl (J_done ?_))
  refine S_cond rfl (fun hc1 => ?_) (fun hc1 => ?_)
  · refine S_seq ?_
    refine S_reg [true, true] rfl rfl ?_
    refine J_st (R_move rfl) rfl (J_st (R_assign rfl) rfl (J_done ?_))
    refine S_ret (E_done1 rfl rfl E ?_)
    rw [recOrd_1 hc1]
  · refine S_skip ?_
    refine S_seq ?_
    refine S_reg [true, true, true, true, true, true, false, true, true, true, true, true, true, false, false, true] rfl rfl ?_
    refine J_st (R_fieldAddr0 fl71_0 rfl) rfl (J_st (R_load sc3 rfl (h1.one 0 rfl)) rfl (J_st (R_fieldAddr0 fl71_2 rfl) rfl (J_st (R_load sc3 rfl (h1.one 3 rfl)) rfl (J_st (R_fieldAddr0 fl71_3 rfl) rfl (J_st (R_load sc3 rfl (h1.one 4 rfl)) rfl ?_)))))
    refine J_buildSlice (vs := [.int .i64 a.op, .int .i64 a.key, .int .i64 a.val]) (css := [[.int .i64 a.op], [.int .i64 a.key], [.int .i64 a.val]]) sl24 rfl rfl ⟨⟨rfl, rfl⟩, ⟨rfl, rfl⟩, ⟨rfl, rfl⟩, trivial⟩ rfl rfl (fun b3 w4 e4 s3 h3 => ?_)
    replace h3 : Blk w4 b3 [.int .i64 a.op, .int .i64 a.key, .int .i64 a.val] := h3
    have g_b3 : w.heap.size ≤ b3 := by have := E.size; omega
    have y_b3 := h3.lt
    replace E := E.trans e4; replace h1 := h1.ext e4; replace h2 := h2.ext e4
    have z4 := e4.size
    refine J_st (R_fieldAddr0 fl71_0 rfl) rfl (J_st (R_load sc3 rfl (h2.one 0 rfl)) rfl (J_st (R_fieldAddr0 fl71_2 rfl) rfl (J_st (R_load sc3 rfl (h2.one 3 rfl)) rfl (J_st (R_fieldAddr0 fl71_3 rfl) rfl (J_st (R_load sc3 rfl (h2.one 4 rfl)) rfl ?_)))))
    refine J_buildSlice (vs := [.int .i64 b.op, .int .i64 b.key, .int .i64 b.val]) (css := [[.int .i64 b.op], [.int .i64 b.key], [.int .i64 b.val]]) sl24 rfl rfl ⟨⟨rfl, rfl⟩, ⟨rfl, rfl⟩, ⟨rfl, rfl⟩, trivial⟩ rfl rfl (fun b4 w5 e5 s4 h4 => ?_)
    replace h4 : Blk w5 b4 [.int .i64 b.op, .int .i64 b.key, .int .i64 b.val] := h4
    have g_b4 : w.heap.size ≤ b4 := by have := E.size; omega
    have y_b4 := h4.lt
    replace E := E.trans e5; replace h1 := h1.ext e5; replace h2 := h2.ext e5; replace h3 := h3.ext e5
    have z5 := e5.size
    refine J_call Try.call60 rfl (c_orderOf (.slice (some ⟨b3, 0, none⟩) 3 3) [a.op, a.key, a.val] (.slice (some ⟨b4, 0, none⟩) 3 3) [b.op, b.key, b.val] _ (Blk.rd (α := Int) (xs := [a.op, a.key, a.val]) (by decide) h3 rfl (by simp [maxLen])) (Blk.rd (α := Int) (xs := [b.op, b.key, b.val]) (by decide) h4 rfl (by simp [maxLen]))) rfl (fun _ w6 e6 hv => ?_)
    subst hv
    replace E := E.trans e6; replace h1 := h1.ext e6; replace h2 := h2.ext e6; replace h3 := h3.ext e6; replace h4 := h4.ext e6
    have z6 := e6.size
    refine J_st (R_assign rfl) rfl (J_done ?_)
    refine S_ret (E_done1 rfl rfl E ?_)
    rw [recOrd_2 hc1]

set_option maxRecDepth 20000 in
theorem s_CountAt (vt : Value) (t : List Count) (s : Stamp) (w : World) (ht : RdS w vt t) : Ct Try.prog 50 [vt, .agg (Enc.enc s).toArray] w (fun v _ => v = .int .i64 (countAt t s)) := by
  refine ct_of Try.func50 rfl Try.ntmps50 rfl ?_
  refine S_sub [(0, vt), (1, .agg (Enc.enc s).toArray)] ⟨rfl, rfl, trivial⟩ ?_
  have E : Ext w w := Ext.refl w
  refine S_seq ?_
  refine S_reg [false, true] rfl rfl ?_
  refine J_box rfl rfl (fun b1 w1 e1 s1 h1 => ?_)
  have g_b1 : w.heap.size ≤ b1 := by have := E.size; omega
  have y_b1 := h1.lt
  replace E := E.trans e1
  have z1 := e1.size
  refine J_st (R_assign rfl) rfl (J_done ?_)
  refine S_seq ?_
  refine S_seq ?_
  refine S_reg [true] rfl rfl ?_
  refine J_st (R_assign rfl) rfl (J_done ?_)
  refine S_block ?_
  refine S_loop (fun (k : Nat) => [(0, vt), (3, .pointer (some ⟨b1, 0, none⟩)), (4, .int .i64 0), (5, .int .i64 ((k : Nat) : Int))]) (fun (k : Nat) w' => Ext w w' ∧ w1.heap.size ≤ w'.heap.size ∧ Blk w' b1 (Enc.enc s) ∧ k ≤ t.length ∧ countAt (t.drop k) s = countAt t s) (fun (k : Nat) => t.length - k) 0 ⟨rfl, rfl, rfl, rfl, trivial⟩ ⟨E, Nat.le_refl _, h1, Nat.zero_le _, rfl⟩ ?_
  clear E h1
  rintro k w2 ⟨E, z2, h1, hk, hI⟩
  refine S_seq ?_
  refine S_seq ?_
  refine S_reg [true, true, true, true] rfl rfl ?_
  refine J_st (R_move rfl) rfl (J_st (R_move rfl) rfl (J_st (R_len Try.underlying30 rfl (ht.ext E).len) rfl (J_st (R_lss rfl rfl) rfl (J_done ?_))))
  refine S_cond rfl (fun hc1 => ?_) (fun hc1 => ?_)
  · have hc1n : k < t.length := by first | (have h := of_decide_eq_true hc1; omega) | (have h := hc1; simp at h; omega)
    refine S_skip ?_
    refine S_seq ?_
    refine S_block ?_
    refine S_seq ?_
    refine S_regD mixed [(0, true), (1, true), (2, true), (3, true), (4, true), (5, true), (6, true)] (by decide +kernel) rfl (fun w3 e2 => ?_)
    replace E := E.trans e2; replace h1 := h1.ext e2
    have z3 := e2.size
    refine J_st (R_move rfl) rfl (J_st (R_move rfl) rfl ?_)
    have hi1 : k < t.length := (by first | assumption | omega | (simp only [List.length_set]; first | assumption | omega) | (simp only [List.getElem_set_self, List.length_set]; first | assumption | omega) | (simp only [setW, setLk, List.length_set]; first | assumption | omega) | (simp; done))
    refine J_st (R_index (i := k) sl30 rfl rfl (ht.ext E) hi1) rfl (J_st (R_fieldAddr fl59_0 rfl) rfl (J_st (R_loadS st57 rfl (((ht.ext E).get hi1).part 0 [.int .i64 (((t[k]'hi1).stamp).epoch), .int .i64 (((t[k]'hi1).stamp).turn)] rfl) rfl) rfl (J_st (R_loadS st57 rfl h1.at rfl) rfl (J_st (R_eqlS (eq57 ((t[k]'hi1).stamp) s) eqg57 rfl rfl) rfl (J_done ?_)))))
    refine S_cond rfl (fun hc2 => ?_) (fun hc2 => ?_)
    · refine S_seq ?_
      refine S_reg [true, true, true, true, true, true] rfl rfl ?_
      refine J_st (R_move rfl) rfl (J_st (R_move rfl) rfl (J_st (R_index (i := k) sl30 rfl rfl (ht.ext E) hi1) rfl (J_st (R_fieldAddr fl59_1 rfl) rfl (J_st (R_load sc3 rfl (((ht.ext E).get hi1).one 2 rfl)) rfl (J_st (R_assign rfl) rfl (J_done ?_))))))
      refine S_ret (E_inB_ret (E_lp_ret (E_inB_ret (E_done1 rfl rfl E ?_))))
      rw [countAt_yes hI (by assumption) (by simpa using hc2)]
    · refine S_skip ?_
      refine S_nil (E_inB ?_)
      refine S_reg [true, true, true] rfl rfl ?_
      refine J_st (R_move rfl) rfl (J_st (R_add rfl rfl (add_one hc1n ht.1)) rfl (J_st (R_assign rfl) rfl (J_done ?_)))
      refine S_nil (E_again (k + 1) (by omega) ⟨rfl, rfl, rfl, rfl, trivial⟩ ⟨E, (by omega), h1, (by omega), (countAt_step hI (by assumption) (by simpa using hc2))⟩)
  · have hc1n : ¬ k < t.length := by first | (have h := of_decide_eq_false hc1; omega) | (have h := hc1; simp at h; omega)
    refine S_exit (E_lp_exit (E_inB_exit ?_))
    refine S_seq ?_
    refine S_reg [true] rfl rfl ?_
    refine J_st (R_assign rfl) rfl (J_done ?_)
    refine S_ret (E_done1 rfl rfl E ?_)
    rw [countAt_no hI (by omega)]

set_option maxRecDepth 20000 in
theorem s_CountsOk (vt : Value) (t : List Count) (w : World) (ht : RdS w vt t) : Ct Try.prog 47 [vt] w (fun v _ => v = .bool (countsOk t)) := by
  refine ct_of Try.func47 rfl Try.ntmps47 rfl ?_
  refine S_sub [(0, vt)] ⟨rfl, trivial⟩ ?_
  have E : Ext w w := Ext.refl w
  refine S_seq ?_
  refine S_reg [true] rfl rfl ?_
  refine J_st (R_assign rfl) rfl (J_done ?_)
  refine S_seq ?_
  refine S_seq ?_
  refine S_reg [true] rfl rfl ?_
  refine J_st (R_assign rfl) rfl (J_done ?_)
  refine S_block ?_
  refine S_loop (fun (k : Nat) => [(0, vt), (2, .bool false), (3, .int .i64 ((k : Nat) : Int))]) (fun (k : Nat) w' => Ext w w' ∧ w.heap.size ≤ w'.heap.size ∧ k ≤ t.length ∧ allR k (cOkAt t) = true) (fun (k : Nat) => t.length - k) 0 ⟨rfl, rfl, rfl, trivial⟩ ⟨E, Nat.le_refl _, Nat.zero_le _, rfl⟩ ?_
  clear E
  rintro k w1 ⟨E, z1, hk, hI1⟩
  have hmi := ht.1
  unfold maxLen at hmi
  refine S_seq ?_
  refine S_seq ?_
  refine S_reg [true, true, true, true] rfl rfl ?_
  refine J_st (R_move rfl) rfl (J_st (R_move rfl) rfl (J_st (R_len Try.underlying30 rfl (ht.ext E).len) rfl (J_st (R_lss rfl rfl) rfl (J_done ?_))))
  refine S_cond rfl (fun hc1 => ?_) (fun hc1 => ?_)
  · have hc1n : k < t.length := by first | (have h := of_decide_eq_true hc1; omega) | (have h := hc1; simp at h; omega)
    refine S_skip ?_
    refine S_seq ?_
    refine S_block ?_
    refine S_seq ?_
    refine S_regD mixed [(0, true), (1, true), (2, true), (3, true), (4, true), (5, false), (6, true), (7, true), (8, true), (9, true), (10, true), (11, true), (12, true), (13, false), (14, true), (15, true), (16, true), (17, true), (18, true), (19, true), (20, true), (21, true), (22, true), (23, true), (24, true), (25, true), (26, true), (27, true), (28, true), (29, true), (30, true), (31, true), (32, true), (33, true), (34, true), (35, true), (36, true), (37, true), (38, true), (39, false), (40, true), (41, true), (42, true)] (by decide +kernel) rfl (fun w2 e1 => ?_)
    replace E := E.trans e1
    have z2 := e1.size
    refine J_st (R_move rfl) rfl (J_st (R_move rfl) rfl ?_)
    have hi1 : k < t.length := (by first | assumption | omega | (simp only [List.length_set]; first | assumption | omega) | (simp only [List.getElem_set_self, List.length_set]; first | assumption | omega) | (simp only [setW, setLk, List.length_set]; first | assumption | omega) | (simp; done))
    refine J_st (R_index (i := k) sl30 rfl rfl (ht.ext E) hi1) rfl (J_st (R_fieldAddr fl59_0 rfl) rfl (J_st (R_loadS st57 rfl (((ht.ext E).get hi1).part 0 [.int .i64 (((t[k]'hi1).stamp).epoch), .int .i64 (((t[k]'hi1).stamp).turn)] rfl) rfl) rfl ?_))
    refine J_call Try.call48 rfl (s_StampOk ((t[k]'hi1).stamp) _ ) rfl (fun _ w3 e2 hv => ?_)
    subst hv
    replace E := E.trans e2
    have z3 := e2.size
    refine J_st (R_not rfl) rfl (J_st (R_move rfl) rfl ?_)
    refine J_cut 35 [(0, vt), (2, .bool false), (3, .int .i64 ((k : Nat) : Int)), (4, .int .i64 ((k : Nat) : Int)), (5, vt), (6, .int .i64 ((t.length : Nat) : Int)), (7, .bool (decide (((k : Nat) : Int) < ((t.length : Nat) : Int)))), (52, .bool ((((!(stampOk ((t[k]'hi1).stamp))) || (!(win ((t[k]'hi1).n) (-1000000) 1000000))) || (((t[k]'hi1).n) == 0)) || ((decide (0 < ((k : Nat) : Int))) && (decide (0 ≤ (stampOrd ((List.getD t (k - 1) default).stamp) ((t[k]'hi1).stamp)))))))] (fun w' => Ext w w' ∧ w3.heap.size ≤ w'.heap.size) ?_ ?_
    · refine J_if (gd := 17) rfl rfl (fun hg1 => ?_) (fun hg1 => ?_)
      · refine J_gdno rfl rfl rfl rfl (J_gdno rfl rfl rfl rfl (J_gdno rfl rfl rfl rfl (J_gdno rfl rfl rfl rfl (J_gdno rfl rfl rfl rfl ?_))))
        refine J_ungno rfl rfl rfl rfl ?_
        refine J_gdno rfl rfl rfl rfl (J_st (R_pickT rfl rfl) rfl (J_st (R_move rfl) rfl (J_gdno rfl rfl rfl rfl (J_gdno rfl rfl rfl rfl (J_gdno rfl rfl rfl rfl (J_gdno rfl rfl rfl rfl (J_gdno rfl rfl rfl rfl (J_gdno rfl rfl rfl rfl (J_st (R_pickT rfl rfl) rfl (J_st (R_move rfl) rfl (J_gdno rfl rfl rfl rfl (J_gdno rfl rfl rfl rfl (J_gdno rfl rfl rfl rfl (J_gdx rfl rfl rfl (J_gdx rfl rfl rfl (J_gdx rfl rfl rfl (J_gdx rfl rfl rfl (J_gdx rfl rfl rfl (J_gdx rfl rfl rfl (J_gdx rfl rfl rfl (J_gdx rfl rfl rfl (J_gdx rfl rfl rfl (J_gdx rfl rfl rfl (J_gdx rfl rfl rfl ?_))))))))))))))))))))))))
        refine J_ungx rfl rfl rfl ?_
        refine J_gdx rfl rfl rfl (J_gdno rfl rfl rfl rfl (J_st (R_pickT rfl rfl) rfl (J_cutEnd ⟨rfl, rfl, rfl, rfl, rfl, rfl, rfl, congrArg (fun b => some (Value.bool b)) (show true = ((((!(stampOk ((t[k]'hi1).stamp))) || (!(win ((t[k]'hi1).n) (-1000000) 1000000))) || (((t[k]'hi1).n) == 0)) || ((decide (0 < ((k : Nat) : Int))) && (decide (0 ≤ (stampOrd ((List.getD t (k - 1) default).stamp) ((t[k]'hi1).stamp)))))) by first | (rw [hg1] <;> rfl) | (simp [hg1]; done) | (simp only [nat_nlt] <;> simp)), trivial⟩ ⟨E, (by omega)⟩)))
      · refine J_gd rfl rfl (R_move rfl) rfl (J_gd rfl rfl (R_move rfl) rfl (J_gd rfl rfl (R_index (i := k) sl30 rfl rfl (ht.ext E) hi1) rfl (J_gd rfl rfl (R_fieldAddr fl59_1 rfl) rfl (J_gd rfl rfl (R_load sc3 rfl (((ht.ext E).get hi1).one 2 rfl)) rfl ?_))))
        refine J_ung rfl rfl ?_
        refine J_call Try.call49 rfl (s_l01In ((t[k]'hi1).n) (-1000000) 1000000 _ ) rfl (fun _ w5 e3 hv => ?_)
        subst hv
        replace E := E.trans e3
        have z4 := e3.size
        refine J_gd rfl rfl (R_not rfl) rfl (J_st (R_pickF rfl rfl) rfl (J_st (R_move rfl) rfl ?_))
        refine J_if (gd := 26) rfl rfl (fun hg2 => ?_) (fun hg2 => ?_)
        · refine J_gdno rfl rfl rfl rfl (J_gdno rfl rfl rfl rfl (J_gdno rfl rfl rfl rfl (J_gdno rfl rfl rfl rfl (J_gdno rfl rfl rfl rfl (J_gdno rfl rfl rfl rfl (J_st (R_pickT rfl rfl) rfl (J_st (R_move rfl) rfl (J_gdno rfl rfl rfl rfl (J_gdno rfl rfl rfl rfl (J_gdno rfl rfl rfl rfl (J_gdx rfl rfl rfl (J_gdx rfl rfl rfl (J_gdx rfl rfl rfl (J_gdx rfl rfl rfl (J_gdx rfl rfl rfl (J_gdx rfl rfl rfl (J_gdx rfl rfl rfl (J_gdx rfl rfl rfl (J_gdx rfl rfl rfl (J_gdx rfl rfl rfl (J_gdx rfl rfl rfl ?_)))))))))))))))))))))
          refine J_ungx rfl rfl rfl ?_
          refine J_gdx rfl rfl rfl (J_gdno rfl rfl rfl rfl (J_st (R_pickT rfl rfl) rfl (J_cutEnd ⟨rfl, rfl, rfl, rfl, rfl, rfl, rfl, congrArg (fun b => some (Value.bool b)) (show true = ((((!(stampOk ((t[k]'hi1).stamp))) || (!(win ((t[k]'hi1).n) (-1000000) 1000000))) || (((t[k]'hi1).n) == 0)) || ((decide (0 < ((k : Nat) : Int))) && (decide (0 ≤ (stampOrd ((List.getD t (k - 1) default).stamp) ((t[k]'hi1).stamp)))))) by first | (rw [hg1, hg2] <;> rfl) | (simp [hg1, hg2]; done) | (simp only [nat_nlt] <;> simp)), trivial⟩ ⟨E, (by omega)⟩)))
        · refine J_gd rfl rfl (R_move rfl) rfl (J_gd rfl rfl (R_move rfl) rfl (J_gd rfl rfl (R_index (i := k) sl30 rfl rfl (ht.ext E) hi1) rfl (J_gd rfl rfl (R_fieldAddr fl59_1 rfl) rfl (J_gd rfl rfl (R_load sc3 rfl (((ht.ext E).get hi1).one 2 rfl)) rfl (J_gd rfl rfl (R_eql rfl rfl) rfl (J_st (R_pickF rfl rfl) rfl (J_st (R_move rfl) rfl ?_)))))))
          refine J_if (gd := 34) rfl rfl (fun hg3 => ?_) (fun hg3 => ?_)
          · refine J_gdno rfl rfl rfl rfl (J_gdno rfl rfl rfl rfl (J_gdno rfl rfl rfl rfl (J_gdx rfl rfl rfl (J_gdx rfl rfl rfl (J_gdx rfl rfl rfl (J_gdx rfl rfl rfl (J_gdx rfl rfl rfl (J_gdx rfl rfl rfl (J_gdx rfl rfl rfl (J_gdx rfl rfl rfl (J_gdx rfl rfl rfl (J_gdx rfl rfl rfl (J_gdx rfl rfl rfl ?_)))))))))))))
            refine J_ungx rfl rfl rfl ?_
            refine J_gdx rfl rfl rfl (J_gdno rfl rfl rfl rfl (J_st (R_pickT rfl rfl) rfl (J_cutEnd ⟨rfl, rfl, rfl, rfl, rfl, rfl, rfl, congrArg (fun b => some (Value.bool b)) (show true = ((((!(stampOk ((t[k]'hi1).stamp))) || (!(win ((t[k]'hi1).n) (-1000000) 1000000))) || (((t[k]'hi1).n) == 0)) || ((decide (0 < ((k : Nat) : Int))) && (decide (0 ≤ (stampOrd ((List.getD t (k - 1) default).stamp) ((t[k]'hi1).stamp)))))) by first | (rw [hg1, hg2, hg3] <;> rfl) | (simp [hg1, hg2, hg3]; done) | (simp only [nat_nlt] <;> simp)), trivial⟩ ⟨E, (by omega)⟩)))
          · refine J_gd rfl rfl (R_move rfl) rfl (J_gd rfl rfl (R_gtr rfl rfl) rfl (J_gd rfl rfl (R_move rfl) rfl ?_))
            refine J_if (gd := 37) rfl rfl (fun hg4 => ?_) (fun hg4 => ?_)
            · have hg4n : k > 0 := by first | (have h := of_decide_eq_true hg4; omega) | (have h := hg4; simp at h; omega)
              refine J_gd rfl rfl (R_move rfl) rfl (J_gd rfl rfl (R_move rfl) rfl (J_gd rfl rfl (R_sub rfl rfl (sub_nat (by omega) (by unfold maxLen; omega))) rfl (J_gd rfl rfl (R_index (i := (k - 1)) sl30 rfl rfl (ht.ext E) (by first | assumption | omega | (simp only [List.length_set]; first | assumption | omega) | (simp only [List.getElem_set_self, List.length_set]; first | assumption | omega) | (simp only [setW, setLk, List.length_set]; first | assumption | omega) | (simp; done))) rfl (J_gd rfl rfl (R_fieldAddr fl59_0 rfl) rfl (J_gd rfl rfl (R_loadS st57 rfl ((RdS.getD (ht.ext E) (i := (k - 1)) (by first | assumption | omega | (simp only [List.length_set]; first | assumption | omega) | (simp only [List.getElem_set_self, List.length_set]; first | assumption | omega) | (simp only [setW, setLk, List.length_set]; first | assumption | omega) | (simp; done))).part 0 [.int .i64 (((List.getD t (k - 1) default).stamp).epoch), .int .i64 (((List.getD t (k - 1) default).stamp).turn)] rfl) rfl) rfl (J_gd rfl rfl (R_move rfl) rfl (J_gd rfl rfl (R_move rfl) rfl (J_gd rfl rfl (R_index (i := k) sl30 rfl rfl (ht.ext E) hi1) rfl (J_gd rfl rfl (R_fieldAddr fl59_0 rfl) rfl (J_gd rfl rfl (R_loadS st57 rfl (((ht.ext E).get hi1).part 0 [.int .i64 (((t[k]'hi1).stamp).epoch), .int .i64 (((t[k]'hi1).stamp).turn)] rfl) rfl) rfl ?_))))))))))
              refine J_ung rfl rfl ?_
              refine J_call Try.call51 rfl (s_StampOrder ((List.getD t (k - 1) default).stamp) ((t[k]'hi1).stamp) _ ) rfl (fun _ w6 e4 hv => ?_)
              subst hv
              replace E := E.trans e4
              have z5 := e4.size
              refine J_gd rfl rfl (R_geq rfl rfl) rfl (J_gd rfl rfl (R_pickT rfl rfl) rfl (J_st (R_pickF rfl rfl) rfl (J_cutEnd ⟨rfl, rfl, rfl, rfl, rfl, rfl, rfl, congrArg (fun b => some (Value.bool b)) (show (decide (0 ≤ (stampOrd ((List.getD t (k - 1) default).stamp) ((t[k]'hi1).stamp)))) = ((((!(stampOk ((t[k]'hi1).stamp))) || (!(win ((t[k]'hi1).n) (-1000000) 1000000))) || (((t[k]'hi1).n) == 0)) || ((decide (0 < ((k : Nat) : Int))) && (decide (0 ≤ (stampOrd ((List.getD t (k - 1) default).stamp) ((t[k]'hi1).stamp)))))) by first | (rw [hg1, hg2, hg3, hg4] <;> rfl) | (simp [hg1, hg2, hg3, hg4]; done) | (simp only [nat_nlt] <;> simp)), trivial⟩ ⟨E, (by omega)⟩)))
            · have hg4n : ¬ k > 0 := by first | (have h := of_decide_eq_false hg4; omega) | (have h := hg4; simp at h; omega)
              refine J_gdno rfl rfl rfl rfl (J_gdno rfl rfl rfl rfl (J_gdno rfl rfl rfl rfl (J_gdno rfl rfl rfl rfl (J_gdno rfl rfl rfl rfl (J_gdno rfl rfl rfl rfl (J_gdno rfl rfl rfl rfl (J_gdno rfl rfl rfl rfl (J_gdno rfl rfl rfl rfl (J_gdno rfl rfl rfl rfl (J_gdno rfl rfl rfl rfl ?_))))))))))
              refine J_ungno rfl rfl rfl rfl ?_
              refine J_gdno rfl rfl rfl rfl (J_gd rfl rfl (R_pickF rfl rfl) rfl (J_st (R_pickF rfl rfl) rfl (J_cutEnd ⟨rfl, rfl, rfl, rfl, rfl, rfl, rfl, congrArg (fun b => some (Value.bool b)) (show false = ((((!(stampOk ((t[k]'hi1).stamp))) || (!(win ((t[k]'hi1).n) (-1000000) 1000000))) || (((t[k]'hi1).n) == 0)) || ((decide (0 < ((k : Nat) : Int))) && (decide (0 ≤ (stampOrd ((List.getD t (k - 1) default).stamp) ((t[k]'hi1).stamp)))))) by first | (rw [hg1, hg2, hg3, hg4] <;> rfl) | (simp [hg1, hg2, hg3, hg4]; done) | (simp only [nat_nlt] <;> simp)), trivial⟩ ⟨E, (by omega)⟩)))
    clear E
    rintro w4 ⟨E, z6⟩
    refine J_done ?_
    refine S_cond rfl (fun hc2 => ?_) (fun hc2 => ?_)
    · refine S_seq ?_
      refine S_reg [true] rfl rfl ?_
      refine J_st (R_assign rfl) rfl (J_done ?_)
      refine S_ret (E_inB_ret (E_lp_ret (E_inB_ret (E_done1 rfl rfl E ?_))))
      exact bf fun h => by have := allR_get (show allR t.length (cOkAt t) = true from h) (by assumption); rw [cOkAt_at (by assumption), hc2] at this; cases this
    · refine S_skip ?_
      refine S_nil (E_inB ?_)
      refine S_reg [true, true, true] rfl rfl ?_
      refine J_st (R_move rfl) rfl (J_st (R_add rfl rfl (add_one hc1n ht.1)) rfl (J_st (R_assign rfl) rfl (J_done ?_)))
      refine S_nil (E_again (k + 1) (by omega) ⟨rfl, rfl, rfl, trivial⟩ ⟨E, (by omega), (by omega), allR_s hI1 ((cOkAt_at (by assumption)).trans (congrArg not hc2))⟩)
  · have hc1n : ¬ k < t.length := by first | (have h := of_decide_eq_false hc1; omega) | (have h := hc1; simp at h; omega)
    refine S_exit (E_lp_exit (E_inB_exit ?_))
    refine S_seq ?_
    refine S_reg [true] rfl rfl ?_
    refine J_st (R_assign rfl) rfl (J_done ?_)
    refine S_ret (E_done1 rfl rfl E ?_)
    exact bt (allR_le hI1 (by omega))

set_option maxHeartbeats 4000000 in
set_option maxRecDepth 20000 in
theorem s_Adjust (vt : Value) (t : List Count) (s : Stamp) (n : Int) (w : World) (ht : RdS w vt t) (hb : t.length ≤ 1048576) : Ct Try.prog 37 [vt, .agg (Enc.enc s).toArray, .int .i64 n] w (fun v w' => ∃ u0, v = .tuple [u0, .bool ((adjustM t s n).2)].toArray ∧ Own w' w.heap.size w'.heap.size 3 u0 (List.flatMap (Enc.enc (α := Count)) ((adjustM t s n).1))) := by
  refine ct_of Try.func37 rfl Try.ntmps37 rfl ?_
  refine S_sub [(0, vt), (1, .agg (Enc.enc s).toArray), (2, .int .i64 n)] ⟨rfl, rfl, rfl, trivial⟩ ?_
  have E : Ext w w := Ext.refl w
  refine S_seq ?_
  refine S_reg [false, true, true] rfl rfl ?_
  refine J_box rfl rfl (fun b1 w1 e1 s1 h1 => ?_)
  have g_b1 : w.heap.size ≤ b1 := by have := E.size; omega
  have y_b1 := h1.lt
  replace E := E.trans e1
  have z1 := e1.size
  refine J_st (R_assign rfl) rfl (J_st (R_assign rfl) rfl (J_done ?_))
  refine S_seq ?_
  refine S_reg [false, true, false, true] rfl rfl ?_
  refine J_buildSlice (vs := []) (css := []) sl30 rfl rfl trivial rfl rfl (fun b2 w2 e2 s2 h2 => ?_)
  replace h2 : Blk w2 b2 [] := h2
  have g_b2 : w.heap.size ≤ b2 := by have := E.size; omega
  have y_b2 := h2.lt
  replace E := E.trans e2; replace h1 := h1.ext e2
  have z2 := e2.size
  refine J_st (R_move rfl) rfl ?_
  refine J_append sl30 rfl rfl (Own.ofBlk (lo := b2) (hi := b2 + 1) (sz := 3) h2 (Nat.le_refl _) (Nat.lt_succ_self _) (by simp) (by simp [maxLen])) (RdS.src (ht.ext E)) (flat_one _) (by simp only [sum_flat, List.length_append, List.length_cons, List.length_nil]; simp only [Enc.sz]; omega) (by decide) (by omega) (by omega) rfl rfl (fun v1 w3 m1 ho1 => ?_)
  replace E := E.step m1 (fun g hg => by have := Own.blk (Own.ofBlk (lo := b2) (hi := b2 + 1) (sz := 3) h2 (Nat.le_refl _) (Nat.lt_succ_self _) (by simp) (by simp [maxLen])) g hg; omega); replace h1 := h1.mod m1 (fun g hg => by have := Own.blk (Own.ofBlk (lo := b2) (hi := b2 + 1) (sz := 3) h2 (Nat.le_refl _) (Nat.lt_succ_self _) (by simp) (by simp [maxLen])) g hg; omega)
  have z3 := m1.size
  refine J_st (R_assign rfl) rfl (J_done ?_)
  refine S_seq ?_
  refine S_seq ?_
  refine S_reg [true, false, true, true, true, false, true, true, true, true, false, true, true] rfl rfl ?_
  refine J_st (R_move rfl) rfl ?_
  refine J_call Try.call47 rfl (s_CountsOk vt t _ (ht.ext E)) rfl (fun _ w4 e3 hv => ?_)
  subst hv
  replace E := E.trans e3; replace h1 := h1.ext e3; replace ho1 := ho1.ext e3
  have z4 := e3.size
  refine J_st (R_not rfl) rfl (J_st (R_move rfl) rfl ?_)
  refine J_cut 9 [(0, vt), (1, .agg (Enc.enc s).toArray), (2, .int .i64 n), (4, .pointer (some ⟨b1, 0, none⟩)), (6, .slice none 0 0), (7, .bool false), (8, v1), (13, .slice (some ⟨b2, 0, none⟩) 0 0), (14, vt), (15, v1), (28, .bool (((!(countsOk t)) || (!(stampOk s))) || (!(win n (-2000000) 2000000))))] (fun w' => Ext w w' ∧ w4.heap.size ≤ w'.heap.size ∧ Blk w' b1 (Enc.enc s) ∧ Own w' b2 w3.heap.size 3 v1 ([] ++ List.flatMap (Enc.enc (α := Count)) t)) ?_ ?_
  · refine J_if (gd := 19) rfl rfl (fun hg1 => ?_) (fun hg1 => ?_)
    · refine J_gdno rfl rfl rfl rfl ?_
      refine J_ungno rfl rfl rfl rfl ?_
      refine J_gdno rfl rfl rfl rfl (J_st (R_pickT rfl rfl) rfl (J_st (R_move rfl) rfl (J_gdno rfl rfl rfl rfl ?_)))
      refine J_ungno rfl rfl rfl rfl ?_
      refine J_gdno rfl rfl rfl rfl (J_st (R_pickT rfl rfl) rfl (J_cutEnd ⟨rfl, rfl, rfl, rfl, rfl, rfl, rfl, rfl, rfl, rfl, congrArg (fun b => some (Value.bool b)) (show true = (((!(countsOk t)) || (!(stampOk s))) || (!(win n (-2000000) 2000000))) by first | (rw [hg1] <;> rfl) | (simp [hg1]; done) | (simp only [nat_nlt] <;> simp)), trivial⟩ ⟨E, (by omega), h1, ho1⟩))
    · refine J_gd rfl rfl (R_loadS st57 rfl h1.at rfl) rfl ?_
      refine J_ung rfl rfl ?_
      refine J_call Try.call48 rfl (s_StampOk s _ ) rfl (fun _ w6 e4 hv => ?_)
      subst hv
      replace E := E.trans e4; replace h1 := h1.ext e4; replace ho1 := ho1.ext e4
      have z5 := e4.size
      refine J_gd rfl rfl (R_not rfl) rfl (J_st (R_pickF rfl rfl) rfl (J_st (R_move rfl) rfl ?_))
      refine J_if (gd := 24) rfl rfl (fun hg2 => ?_) (fun hg2 => ?_)
      · refine J_gdno rfl rfl rfl rfl ?_
        refine J_ungno rfl rfl rfl rfl ?_
        refine J_gdno rfl rfl rfl rfl (J_st (R_pickT rfl rfl) rfl (J_cutEnd ⟨rfl, rfl, rfl, rfl, rfl, rfl, rfl, rfl, rfl, rfl, congrArg (fun b => some (Value.bool b)) (show true = (((!(countsOk t)) || (!(stampOk s))) || (!(win n (-2000000) 2000000))) by first | (rw [hg1, hg2] <;> rfl) | (simp [hg1, hg2]; done) | (simp only [nat_nlt] <;> simp)), trivial⟩ ⟨E, (by omega), h1, ho1⟩))
      · refine J_gd rfl rfl (R_move rfl) rfl ?_
        refine J_ung rfl rfl ?_
        refine J_call Try.call49 rfl (s_l01In n (-2000000) 2000000 _ ) rfl (fun _ w7 e5 hv => ?_)
        subst hv
        replace E := E.trans e5; replace h1 := h1.ext e5; replace ho1 := ho1.ext e5
        have z6 := e5.size
        refine J_gd rfl rfl (R_not rfl) rfl (J_st (R_pickF rfl rfl) rfl (J_cutEnd ⟨rfl, rfl, rfl, rfl, rfl, rfl, rfl, rfl, rfl, rfl, congrArg (fun b => some (Value.bool b)) (show (!(win n (-2000000) 2000000)) = (((!(countsOk t)) || (!(stampOk s))) || (!(win n (-2000000) 2000000))) by first | (rw [hg1, hg2] <;> rfl) | (simp [hg1, hg2]; done) | (simp only [nat_nlt] <;> simp)), trivial⟩ ⟨E, (by omega), h1, ho1⟩))
  clear E h1 ho1
  rintro w5 ⟨E, z7, h1, ho1⟩
  refine J_done ?_
  refine S_cond rfl (fun hc1 => ?_) (fun hc1 => ?_)
  · refine S_seq ?_
    refine S_reg [true, true, true] rfl rfl ?_
    refine J_st (R_move rfl) rfl (J_st (R_assign rfl) rfl (J_st (R_assign rfl) rfl (J_done ?_)))
    refine S_ret (E_doneN (l := [.tmp 6, .tmp 7]) (vs := [v1, .bool false]) rfl ⟨.tmp rfl, .tmp rfl, trivial⟩ rfl E ?_)
    rw [adj_0 hc1]
    exact ⟨_, rfl, (Own.fin ho1 (by have := E.size; omega) (by omega) (by simp [*]))⟩
  · refine S_skip ?_
    refine S_seq ?_
    refine S_reg [true, true, false, true, true, true] rfl rfl ?_
    refine J_st (R_move rfl) rfl (J_st (R_loadS st57 rfl h1.at rfl) rfl ?_)
    refine J_call Try.call50 rfl (s_CountAt vt t s _ (ht.ext E)) rfl (fun _ w8 e6 hv => ?_)
    subst hv
    replace E := E.trans e6; replace h1 := h1.ext e6; replace ho1 := ho1.ext e6
    have z8 := e6.size
    refine J_st (R_move rfl) rfl (J_st (R_add rfl rfl rfl) rfl (J_st (R_assign rfl) rfl (J_done ?_)))
    refine S_seq ?_
    refine S_seq ?_
    refine S_reg [true, false, true] rfl rfl ?_
    refine J_st (R_move rfl) rfl ?_
    refine J_call Try.call49 rfl (s_l01In (IntKind.i64.wrap ((countAt t s) + n)) (-1000000) 1000000 _ ) rfl (fun _ w9 e7 hv => ?_)
    subst hv
    replace E := E.trans e7; replace h1 := h1.ext e7; replace ho1 := ho1.ext e7
    have z9 := e7.size
    refine J_st (R_not rfl) rfl (J_done ?_)
    refine S_cond rfl (fun hc2 => ?_) (fun hc2 => ?_)
    · refine S_seq ?_
      refine S_reg [true, true, true] rfl rfl ?_
      refine J_st (R_move rfl) rfl (J_st (R_assign rfl) rfl (J_st (R_assign rfl) rfl (J_done ?_)))
      refine S_ret (E_doneN (l := [.tmp 6, .tmp 7]) (vs := [v1, .bool false]) rfl ⟨.tmp rfl, .tmp rfl, trivial⟩ rfl E ?_)
      rw [adj_1 hc1 hc2]
      exact ⟨_, rfl, (Own.fin ho1 (by have := E.size; omega) (by omega) (by simp [*]))⟩
    · refine S_skip ?_
      refine S_seq ?_
      refine S_reg [false, true] rfl rfl ?_
      refine J_buildSlice (vs := []) (css := []) sl30 rfl rfl trivial rfl rfl (fun b3 w10 e8 s3 h3 => ?_)
      replace h3 : Blk w10 b3 [] := h3
      have g_b3 : w.heap.size ≤ b3 := by have := E.size; omega
      have y_b3 := h3.lt
      replace E := E.trans e8; replace h1 := h1.ext e8; replace ho1 := ho1.ext e8
      have z10 := e8.size
      refine J_st (R_assign rfl) rfl (J_done ?_)
      refine S_seq ?_
      refine S_reg [true, true, true] rfl rfl ?_
      refine J_st (R_move rfl) rfl (J_st (R_eql rfl rfl) rfl (J_st (R_assign rfl) rfl (J_done ?_)))
      refine S_seq ?_
      refine S_seq ?_
      refine S_reg [true] rfl rfl ?_
      refine J_st (R_assign rfl) rfl (J_done ?_)
      refine S_block ?_
      refine S_loop (fun (xq : Nat × Value × List Count × Bool) => let ⟨k, vo, ls, dn⟩ := xq; [(0, vt), (4, .pointer (some ⟨b1, 0, none⟩)), (6, .slice none 0 0), (7, .bool false), (9, .int .i64 (IntKind.i64.wrap ((countAt t s) + n))), (10, vo), (11, .bool dn), (12, .int .i64 ((k : Nat) : Int))]) (fun (xq : Nat × Value × List Count × Bool) w' => let ⟨k, vo, ls, dn⟩ := xq; Ext w w' ∧ w10.heap.size ≤ w'.heap.size ∧ Blk w' b1 (Enc.enc s) ∧ Own w' b2 w3.heap.size 3 v1 ([] ++ List.flatMap (Enc.enc (α := Count)) t) ∧ k ≤ t.length ∧ adjRun s (IntKind.i64.wrap ((countAt t s) + n)) (t.take k) = (ls, dn) ∧ Own w' b3 w'.heap.size 3 vo (List.flatMap (Enc.enc (α := Count)) ls)) (fun (xq : Nat × Value × List Count × Bool) => let ⟨k, vo, ls, dn⟩ := xq; t.length - k) (0, .slice (some ⟨b3, 0, none⟩) 0 0, [], ((IntKind.i64.wrap ((countAt t s) + n)) == 0)) ⟨rfl, rfl, rfl, rfl, rfl, rfl, rfl, rfl, trivial⟩ ⟨E, Nat.le_refl _, h1, ho1, Nat.zero_le _, run_0, Own.fin (Own.ofBlk (lo := b3) (hi := b3 + 1) (sz := 3) h3 (Nat.le_refl _) (Nat.lt_succ_self _) (by simp) (by simp [maxLen])) (by omega) (by omega) rfl⟩ ?_
      clear E h1 ho1 h3
      rintro ⟨k, vo, ls, dn⟩ w11 ⟨E, z11, h1, ho1, hk, hR, ho⟩
      refine S_sub [(0, vt), (4, .pointer (some ⟨b1, 0, none⟩)), (6, .slice none 0 0), (7, .bool false), (9, .int .i64 (IntKind.i64.wrap ((countAt t s) + n))), (10, vo), (11, .bool dn), (12, .int .i64 ((k : Nat) : Int))] ⟨rfl, rfl, rfl, rfl, rfl, rfl, rfl, rfl, trivial⟩ ?_
      have hal : ls.length ≤ k + 1 := by have h := @adjRun_len t s (IntKind.i64.wrap ((countAt t s) + n)) k hk; rw [hR] at h; exact h
      refine S_seq ?_
      refine S_seq ?_
      refine S_reg [true, true, true, true] rfl rfl ?_
      refine J_st (R_move rfl) rfl (J_st (R_move rfl) rfl (J_st (R_len Try.underlying30 rfl (ht.ext E).len) rfl (J_st (R_lss rfl rfl) rfl (J_done ?_))))
      refine S_cond rfl (fun hc3 => ?_) (fun hc3 => ?_)
      · have hc3n : k < t.length := by first | (have h := of_decide_eq_true hc3; omega) | (have h := hc3; simp at h; omega)
        refine S_skip ?_
        refine S_seq ?_
        refine S_block ?_
        refine S_seq ?_
        refine S_seq ?_
        refine S_regD mixed [(0, true), (1, true), (2, true), (3, true), (4, true), (5, true), (6, true), (7, true), (8, true), (9, false), (10, true), (11, true)] (by decide +kernel) rfl (fun w12 e9 => ?_)
        replace E := E.trans e9; replace h1 := h1.ext e9; replace ho1 := ho1.ext e9; replace ho := ho.ext e9
        have z12 := e9.size
        refine J_st (R_move rfl) rfl (J_st (R_not rfl) rfl (J_st (R_move rfl) rfl ?_))
        refine J_cut 9 [(0, vt), (4, .pointer (some ⟨b1, 0, none⟩)), (6, .slice none 0 0), (7, .bool false), (9, .int .i64 (IntKind.i64.wrap ((countAt t s) + n))), (10, vo), (11, .bool dn), (12, .int .i64 ((k : Nat) : Int)), (42, .int .i64 ((k : Nat) : Int)), (43, vt), (44, .int .i64 ((t.length : Nat) : Int)), (45, .bool (decide (((k : Nat) : Int) < ((t.length : Nat) : Int)))), (59, .bool ((!dn) && (decide ((stampOrd s ((List.getD t k default).stamp)) ≤ 0))))] (fun w' => Ext w w' ∧ w12.heap.size ≤ w'.heap.size ∧ Blk w' b1 (Enc.enc s) ∧ Own w' b2 w3.heap.size 3 v1 ([] ++ List.flatMap (Enc.enc (α := Count)) t) ∧ Own w' b3 w11.heap.size 3 vo (List.flatMap (Enc.enc (α := Count)) ls)) ?_ ?_
        · refine J_if (gd := 50) rfl rfl (fun hg3 => ?_) (fun hg3 => ?_)
          · refine J_gd rfl rfl (R_loadS st57 rfl h1.at rfl) rfl (J_gd rfl rfl (R_move rfl) rfl (J_gd rfl rfl (R_move rfl) rfl (J_gd rfl rfl (R_index (i := k) sl30 rfl rfl (ht.ext E) (by first | assumption | omega | (simp only [List.length_set]; first | assumption | omega) | (simp only [List.getElem_set_self, List.length_set]; first | assumption | omega) | (simp only [setW, setLk, List.length_set]; first | assumption | omega) | (simp; done))) rfl (J_gd rfl rfl (R_fieldAddr fl59_0 rfl) rfl (J_gd rfl rfl (R_loadS st57 rfl ((RdS.getD (ht.ext E) (i := k) (by first | assumption | omega | (simp only [List.length_set]; first | assumption | omega) | (simp only [List.getElem_set_self, List.length_set]; first | assumption | omega) | (simp only [setW, setLk, List.length_set]; first | assumption | omega) | (simp; done))).part 0 [.int .i64 (((List.getD t k default).stamp).epoch), .int .i64 (((List.getD t k default).stamp).turn)] rfl) rfl) rfl ?_)))))
            refine J_ung rfl rfl ?_
            refine J_call Try.call51 rfl (s_StampOrder s ((List.getD t k default).stamp) _ ) rfl (fun _ w14 e10 hv => ?_)
            subst hv
            replace E := E.trans e10; replace h1 := h1.ext e10; replace ho1 := ho1.ext e10; replace ho := ho.ext e10
            have z13 := e10.size
            refine J_gd rfl rfl (R_leq rfl rfl) rfl (J_st (R_pickT rfl rfl) rfl (J_cutEnd ⟨rfl, rfl, rfl, rfl, rfl, rfl, rfl, rfl, rfl, rfl, rfl, rfl, congrArg (fun b => some (Value.bool b)) (show (decide ((stampOrd s ((List.getD t k default).stamp)) ≤ 0)) = ((!dn) && (decide ((stampOrd s ((List.getD t k default).stamp)) ≤ 0))) by first | (rw [hg3] <;> rfl) | (simp [hg3]; done) | (simp only [nat_nlt] <;> simp)), trivial⟩ ⟨E, (by omega), h1, ho1, ho⟩))
          · refine J_gdno rfl rfl rfl rfl (J_gdno rfl rfl rfl rfl (J_gdno rfl rfl rfl rfl (J_gdno rfl rfl rfl rfl (J_gdno rfl rfl rfl rfl (J_gdno rfl rfl rfl rfl ?_)))))
            refine J_ungno rfl rfl rfl rfl ?_
            refine J_gdno rfl rfl rfl rfl (J_st (R_pickF rfl rfl) rfl (J_cutEnd ⟨rfl, rfl, rfl, rfl, rfl, rfl, rfl, rfl, rfl, rfl, rfl, rfl, congrArg (fun b => some (Value.bool b)) (show false = ((!dn) && (decide ((stampOrd s ((List.getD t k default).stamp)) ≤ 0))) by first | (rw [hg3] <;> rfl) | (simp [hg3]; done) | (simp only [nat_nlt] <;> simp)), trivial⟩ ⟨E, (by omega), h1, ho1, ho⟩))
        clear E h1 ho1 ho
        rintro w13 ⟨E, z14, h1, ho1, ho⟩
        refine J_done ?_
        refine S_cond rfl (fun hc4 => ?_) (fun hc4 => ?_)
        · refine S_seq ?_
          refine S_reg [true, true, true, true, false, false, true] rfl rfl ?_
          refine J_st (R_move rfl) rfl (J_st (R_loadS st57 rfl h1.at rfl) rfl (J_st (R_move rfl) rfl (J_st (R_build (⟨s, IntKind.i64.wrap ((countAt t s) + n)⟩ : Count) rfl (fun _ => by kernel_rfl)) rfl ?_)))
          refine J_buildSlice (vs := [.agg (Enc.enc (⟨s, IntKind.i64.wrap ((countAt t s) + n)⟩ : Count)).toArray]) (css := [[.int .i64 (((⟨s, IntKind.i64.wrap ((countAt t s) + n)⟩ : Count).stamp).epoch), .int .i64 (((⟨s, IntKind.i64.wrap ((countAt t s) + n)⟩ : Count).stamp).turn), .int .i64 ((⟨s, IntKind.i64.wrap ((countAt t s) + n)⟩ : Count).n)]]) sl30 rfl rfl ⟨⟨rfl, rfl⟩, trivial⟩ rfl rfl (fun b4 w15 e11 s4 h4 => ?_)
          replace h4 : Blk w15 b4 [.int .i64 (((⟨s, IntKind.i64.wrap ((countAt t s) + n)⟩ : Count).stamp).epoch), .int .i64 (((⟨s, IntKind.i64.wrap ((countAt t s) + n)⟩ : Count).stamp).turn), .int .i64 ((⟨s, IntKind.i64.wrap ((countAt t s) + n)⟩ : Count).n)] := h4
          have g_b4 : w.heap.size ≤ b4 := by have := E.size; omega
          have y_b4 := h4.lt
          replace E := E.trans e11; replace h1 := h1.ext e11; replace ho1 := ho1.ext e11; replace ho := ho.ext e11
          have z15 := e11.size
          refine J_append sl30 rfl rfl ho (Src.ofBlk h4 rfl) rfl (by simp only [sum_flat, List.length_append, List.length_cons, List.length_nil]; simp only [Enc.sz]; omega) (by decide) (by omega) (by omega) rfl rfl (fun v2 w16 m2 ho2 => ?_)
          replace E := E.step m2 (fun g hg => by have := Own.blk ho g hg; omega); replace h1 := h1.mod m2 (fun g hg => by have := Own.blk ho g hg; omega); replace ho1 := ho1.mod m2 (fun g hg => by have := Own.blk ho g hg; omega)
          have z16 := m2.size
          refine J_st (R_assign rfl) rfl (J_done ?_)
          refine S_reg [true] rfl rfl ?_
          refine J_st (R_assign rfl) rfl (J_done ?_)
          refine S_seq ?_
          refine S_regD mixed [(0, true), (1, true), (2, true), (3, true), (4, true), (5, true), (6, true)] (by decide +kernel) rfl (fun w17 e12 => ?_)
          replace E := E.trans e12; replace h1 := h1.ext e12; replace ho1 := ho1.ext e12; replace ho2 := ho2.ext e12
          have z17 := e12.size
          refine J_st (R_move rfl) rfl (J_st (R_move rfl) rfl ?_)
          have hi1 : k < t.length := (by first | assumption | omega | (simp only [List.length_set]; first | assumption | omega) | (simp only [List.getElem_set_self, List.length_set]; first | assumption | omega) | (simp only [setW, setLk, List.length_set]; first | assumption | omega) | (simp; done))
          refine J_st (R_index (i := k) sl30 rfl rfl (ht.ext E) hi1) rfl (J_st (R_fieldAddr fl59_0 rfl) rfl (J_st (R_loadS st57 rfl (((ht.ext E).get hi1).part 0 [.int .i64 (((t[k]'hi1).stamp).epoch), .int .i64 (((t[k]'hi1).stamp).turn)] rfl) rfl) rfl (J_st (R_loadS st57 rfl h1.at rfl) rfl (J_st (R_neqS (ne57 ((t[k]'hi1).stamp) s) eqg57 rfl rfl) rfl (J_done ?_)))))
          refine S_cond rfl (fun hc5 => ?_) (fun hc5 => ?_)
          · refine S_reg [true, true, true, true, true, false, false, true] rfl rfl ?_
            refine J_st (R_move rfl) rfl (J_st (R_move rfl) rfl (J_st (R_move rfl) rfl (J_st (R_index (i := k) sl30 rfl rfl (ht.ext E) hi1) rfl (J_st (R_loadS st59 rfl ((ht.ext E).get hi1) rfl) rfl ?_))))
            refine J_buildSlice (vs := [.agg (Enc.enc (t[k]'hi1)).toArray]) (css := [[.int .i64 (((t[k]'hi1).stamp).epoch), .int .i64 (((t[k]'hi1).stamp).turn), .int .i64 ((t[k]'hi1).n)]]) sl30 rfl rfl ⟨⟨rfl, rfl⟩, trivial⟩ rfl rfl (fun b5 w18 e13 s5 h5 => ?_)
            replace h5 : Blk w18 b5 [.int .i64 (((t[k]'hi1).stamp).epoch), .int .i64 (((t[k]'hi1).stamp).turn), .int .i64 ((t[k]'hi1).n)] := h5
            have g_b5 : w.heap.size ≤ b5 := by have := E.size; omega
            have y_b5 := h5.lt
            replace E := E.trans e13; replace h1 := h1.ext e13; replace ho1 := ho1.ext e13; replace ho2 := ho2.ext e13
            have z18 := e13.size
            refine J_append sl30 rfl rfl ho2 (Src.ofBlk h5 rfl) rfl (by simp only [sum_flat, List.length_append, List.length_cons, List.length_nil]; simp only [Enc.sz]; omega) (by decide) (by omega) (by omega) rfl rfl (fun v3 w19 m3 ho3 => ?_)
            replace E := E.step m3 (fun g hg => by have := Own.blk ho2 g hg; omega); replace h1 := h1.mod m3 (fun g hg => by have := Own.blk ho2 g hg; omega); replace ho1 := ho1.mod m3 (fun g hg => by have := Own.blk ho2 g hg; omega)
            have z19 := m3.size
            refine J_st (R_assign rfl) rfl (J_done ?_)
            refine S_nil (E_inB ?_)
            refine S_reg [true, true, true] rfl rfl ?_
            refine J_st (R_move rfl) rfl (J_st (R_add rfl rfl (add_nat (by unfold maxLen; omega))) rfl (J_st (R_assign rfl) rfl (J_done ?_)))
            refine S_nil (E_again (k + 1, v3, ((ls ++ [(⟨s, IntKind.i64.wrap ((countAt t s) + n)⟩ : Count)]) ++ [(t[k]'hi1)]), true) (by simp; omega) ⟨rfl, rfl, rfl, rfl, rfl, rfl, rfl, rfl, trivial⟩ ⟨E, (by omega), h1, ho1, (by omega), (by rw [run_step (by assumption) hR, adjStep_c (by assumption) hc4 hc5]; first | rfl | (simp; done)), Own.fin ho3 (by omega) (by omega) (by first | rfl | (simp [Enc.enc]; done))⟩)
          · refine S_skip ?_
            refine S_nil (E_inB ?_)
            refine S_reg [true, true, true] rfl rfl ?_
            refine J_st (R_move rfl) rfl (J_st (R_add rfl rfl (add_nat (by unfold maxLen; omega))) rfl (J_st (R_assign rfl) rfl (J_done ?_)))
            refine S_nil (E_again (k + 1, v2, (ls ++ [(⟨s, IntKind.i64.wrap ((countAt t s) + n)⟩ : Count)]), true) (by simp; omega) ⟨rfl, rfl, rfl, rfl, rfl, rfl, rfl, rfl, trivial⟩ ⟨E, (by omega), h1, ho1, (by omega), (by rw [run_step (by assumption) hR, adjStep_c (by assumption) hc4 hc5]; first | rfl | (simp; done)), Own.fin ho2 (by omega) (by omega) (by first | rfl | (simp [Enc.enc]; done))⟩)
        · refine S_skip ?_
          refine S_seq ?_
          refine S_regD mixed [(0, true), (1, true), (2, true), (3, true), (4, true), (5, true), (6, true)] (by decide +kernel) rfl (fun w20 e14 => ?_)
          replace E := E.trans e14; replace h1 := h1.ext e14; replace ho1 := ho1.ext e14; replace ho := ho.ext e14
          have z20 := e14.size
          refine J_st (R_move rfl) rfl (J_st (R_move rfl) rfl ?_)
          have hi2 : k < t.length := (by first | assumption | omega | (simp only [List.length_set]; first | assumption | omega) | (simp only [List.getElem_set_self, List.length_set]; first | assumption | omega) | (simp only [setW, setLk, List.length_set]; first | assumption | omega) | (simp; done))
          refine J_st (R_index (i := k) sl30 rfl rfl (ht.ext E) hi2) rfl (J_st (R_fieldAddr fl59_0 rfl) rfl (J_st (R_loadS st57 rfl (((ht.ext E).get hi2).part 0 [.int .i64 (((t[k]'hi2).stamp).epoch), .int .i64 (((t[k]'hi2).stamp).turn)] rfl) rfl) rfl (J_st (R_loadS st57 rfl h1.at rfl) rfl (J_st (R_neqS (ne57 ((t[k]'hi2).stamp) s) eqg57 rfl rfl) rfl (J_done ?_)))))
          refine S_cond rfl (fun hc6 => ?_) (fun hc6 => ?_)
          · refine S_reg [true, true, true, true, true, false, false, true] rfl rfl ?_
            refine J_st (R_move rfl) rfl (J_st (R_move rfl) rfl (J_st (R_move rfl) rfl (J_st (R_index (i := k) sl30 rfl rfl (ht.ext E) hi2) rfl (J_st (R_loadS st59 rfl ((ht.ext E).get hi2) rfl) rfl ?_))))
            refine J_buildSlice (vs := [.agg (Enc.enc (t[k]'hi2)).toArray]) (css := [[.int .i64 (((t[k]'hi2).stamp).epoch), .int .i64 (((t[k]'hi2).stamp).turn), .int .i64 ((t[k]'hi2).n)]]) sl30 rfl rfl ⟨⟨rfl, rfl⟩, trivial⟩ rfl rfl (fun b6 w21 e15 s6 h6 => ?_)
            replace h6 : Blk w21 b6 [.int .i64 (((t[k]'hi2).stamp).epoch), .int .i64 (((t[k]'hi2).stamp).turn), .int .i64 ((t[k]'hi2).n)] := h6
            have g_b6 : w.heap.size ≤ b6 := by have := E.size; omega
            have y_b6 := h6.lt
            replace E := E.trans e15; replace h1 := h1.ext e15; replace ho1 := ho1.ext e15; replace ho := ho.ext e15
            have z21 := e15.size
            refine J_append sl30 rfl rfl ho (Src.ofBlk h6 rfl) rfl (by simp only [sum_flat, List.length_append, List.length_cons, List.length_nil]; simp only [Enc.sz]; omega) (by decide) (by omega) (by omega) rfl rfl (fun v4 w22 m4 ho4 => ?_)
            replace E := E.step m4 (fun g hg => by have := Own.blk ho g hg; omega); replace h1 := h1.mod m4 (fun g hg => by have := Own.blk ho g hg; omega); replace ho1 := ho1.mod m4 (fun g hg => by have := Own.blk ho g hg; omega)
            have z22 := m4.size
            refine J_st (R_assign rfl) rfl (J_done ?_)
            refine S_nil (E_inB ?_)
            refine S_reg [true, true, true] rfl rfl ?_
            refine J_st (R_move rfl) rfl (J_st (R_add rfl rfl (add_nat (by unfold maxLen; omega))) rfl (J_st (R_assign rfl) rfl (J_done ?_)))
            refine S_nil (E_again (k + 1, v4, (ls ++ [(t[k]'hi2)]), dn) (by simp; omega) ⟨rfl, rfl, rfl, rfl, rfl, rfl, rfl, rfl, trivial⟩ ⟨E, (by omega), h1, ho1, (by omega), (by rw [run_step (by assumption) hR, adjStep_c (by assumption) hc4 hc6]; first | rfl | (simp; done)), Own.fin ho4 (by omega) (by omega) (by first | rfl | (simp [Enc.enc]; done))⟩)
          · refine S_skip ?_
            refine S_nil (E_inB ?_)
            refine S_reg [true, true, true] rfl rfl ?_
            refine J_st (R_move rfl) rfl (J_st (R_add rfl rfl (add_nat (by unfold maxLen; omega))) rfl (J_st (R_assign rfl) rfl (J_done ?_)))
            refine S_nil (E_again (k + 1, vo, ls, dn) (by simp; omega) ⟨rfl, rfl, rfl, rfl, rfl, rfl, rfl, rfl, trivial⟩ ⟨E, (by omega), h1, ho1, (by omega), (by rw [run_step (by assumption) hR, adjStep_c (by assumption) hc4 hc6]; first | rfl | (simp; done)), Own.fin ho (by omega) (by omega) (by first | rfl | (simp [Enc.enc]; done))⟩)
      · have hc3n : ¬ k < t.length := by first | (have h := of_decide_eq_false hc3; omega) | (have h := hc3; simp at h; omega)
        refine S_exit (E_lp_exit (E_inB_exit ?_))
        refine S_seq ?_
        refine S_seq ?_
        refine S_reg [true, true] rfl rfl ?_
        refine J_st (R_move rfl) rfl (J_st (R_not rfl) rfl (J_done ?_))
        refine S_cond rfl (fun hc7 => ?_) (fun hc7 => ?_)
        · refine S_reg [true, true, true, true, false, false, true] rfl rfl ?_
          refine J_st (R_move rfl) rfl (J_st (R_loadS st57 rfl h1.at rfl) rfl (J_st (R_move rfl) rfl (J_st (R_build (⟨s, IntKind.i64.wrap ((countAt t s) + n)⟩ : Count) rfl (fun _ => by kernel_rfl)) rfl ?_)))
          refine J_buildSlice (vs := [.agg (Enc.enc (⟨s, IntKind.i64.wrap ((countAt t s) + n)⟩ : Count)).toArray]) (css := [[.int .i64 (((⟨s, IntKind.i64.wrap ((countAt t s) + n)⟩ : Count).stamp).epoch), .int .i64 (((⟨s, IntKind.i64.wrap ((countAt t s) + n)⟩ : Count).stamp).turn), .int .i64 ((⟨s, IntKind.i64.wrap ((countAt t s) + n)⟩ : Count).n)]]) sl30 rfl rfl ⟨⟨rfl, rfl⟩, trivial⟩ rfl rfl (fun b7 w23 e16 s7 h7 => ?_)
          replace h7 : Blk w23 b7 [.int .i64 (((⟨s, IntKind.i64.wrap ((countAt t s) + n)⟩ : Count).stamp).epoch), .int .i64 (((⟨s, IntKind.i64.wrap ((countAt t s) + n)⟩ : Count).stamp).turn), .int .i64 ((⟨s, IntKind.i64.wrap ((countAt t s) + n)⟩ : Count).n)] := h7
          have g_b7 : w.heap.size ≤ b7 := by have := E.size; omega
          have y_b7 := h7.lt
          replace E := E.trans e16; replace h1 := h1.ext e16; replace ho1 := ho1.ext e16; replace ho := ho.ext e16
          have z23 := e16.size
          refine J_append sl30 rfl rfl ho (Src.ofBlk h7 rfl) rfl (by simp only [sum_flat, List.length_append, List.length_cons, List.length_nil]; simp only [Enc.sz]; omega) (by decide) (by omega) (by omega) rfl rfl (fun v5 w24 m5 ho5 => ?_)
          replace E := E.step m5 (fun g hg => by have := Own.blk ho g hg; omega); replace h1 := h1.mod m5 (fun g hg => by have := Own.blk ho g hg; omega); replace ho1 := ho1.mod m5 (fun g hg => by have := Own.blk ho g hg; omega)
          have z24 := m5.size
          refine J_st (R_assign rfl) rfl (J_done ?_)
          refine S_seq ?_
          refine S_reg [true, true, true] rfl rfl ?_
          refine J_st (R_move rfl) rfl (J_st (R_assign rfl) rfl (J_st (R_assign rfl) rfl (J_done ?_)))
          refine S_ret (E_doneN (l := [.tmp 6, .tmp 7]) (vs := [v5, .bool true]) rfl ⟨.tmp rfl, .tmp rfl, trivial⟩ rfl E ?_)
          rw [adj_2 hc1 hc2, adjM_yes hR (by omega) hc7]
          exact ⟨_, rfl, (Own.fin ho5 (by have := E.size; omega) (by omega) (by first | (simp [*]; done) | (simp [Enc.enc]; done)))⟩
        · refine S_skip ?_
          refine S_seq ?_
          refine S_reg [true, true, true] rfl rfl ?_
          refine J_st (R_move rfl) rfl (J_st (R_assign rfl) rfl (J_st (R_assign rfl) rfl (J_done ?_)))
          refine S_ret (E_doneN (l := [.tmp 6, .tmp 7]) (vs := [vo, .bool true]) rfl ⟨.tmp rfl, .tmp rfl, trivial⟩ rfl E ?_)
          rw [adj_2 hc1 hc2, adjM_no hR (by omega) hc7]
          exact ⟨_, rfl, (Own.fin ho (by have := E.size; omega) (by omega) (by first | (simp [*]; done) | (simp [Enc.enc]; done)))⟩

set_option maxRecDepth 20000 in
theorem s_CountsOfRecords (vrs : Value) (rs : List Record) (w : World) (hrs : RdS w vrs rs) (hb : rs.length ≤ 1048576) : Ct Try.prog 18 [vrs] w (fun v w' => Own w' w.heap.size w'.heap.size 3 v (List.flatMap (Enc.enc (α := Count)) (cntTo rs))) := by
  refine ct_of Try.func18 rfl Try.ntmps18 rfl ?_
  refine S_sub [(0, vrs)] ⟨rfl, trivial⟩ ?_
  have E : Ext w w := Ext.refl w
  refine S_seq ?_
  refine S_reg [true] rfl rfl ?_
  refine J_st (R_assign rfl) rfl (J_done ?_)
  refine S_seq ?_
  refine S_reg [false, true] rfl rfl ?_
  refine J_buildSlice (vs := []) (css := []) sl30 rfl rfl trivial rfl rfl (fun b1 w1 e1 s1 h1 => ?_)
  replace h1 : Blk w1 b1 [] := h1
  have g_b1 : w.heap.size ≤ b1 := by have := E.size; omega
  have y_b1 := h1.lt
  replace E := E.trans e1
  have z1 := e1.size
  refine J_st (R_assign rfl) rfl (J_done ?_)
  refine S_seq ?_
  refine S_seq ?_
  refine S_reg [true] rfl rfl ?_
  refine J_st (R_assign rfl) rfl (J_done ?_)
  refine S_block ?_
  refine S_loop (fun (xq : Nat × Value) => let ⟨k, vo⟩ := xq; [(0, vrs), (2, .slice none 0 0), (3, vo), (4, .int .i64 ((k : Nat) : Int))]) (fun (xq : Nat × Value) w' => let ⟨k, vo⟩ := xq; Ext w w' ∧ w1.heap.size ≤ w'.heap.size ∧ k ≤ rs.length ∧ Own w' b1 w'.heap.size 3 vo (List.flatMap (Enc.enc (α := Count)) (cntTo (rs.take k)))) (fun (xq : Nat × Value) => let ⟨k, vo⟩ := xq; rs.length - k) (0, .slice (some ⟨b1, 0, none⟩) 0 0) ⟨rfl, rfl, rfl, rfl, trivial⟩ ⟨E, Nat.le_refl _, Nat.zero_le _, Own.fin (Own.ofBlk (lo := b1) (hi := b1 + 1) (sz := 3) h1 (Nat.le_refl _) (Nat.lt_succ_self _) (by simp) (by simp [maxLen])) (by omega) (by omega) rfl⟩ ?_
  clear E h1
  rintro ⟨k, vo⟩ w2 ⟨E, z2, hk, ho⟩
  refine S_sub [(0, vrs), (2, .slice none 0 0), (3, vo), (4, .int .i64 ((k : Nat) : Int))] ⟨rfl, rfl, rfl, rfl, trivial⟩ ?_
  have hcl := cntTo_len (rs.take k)
  rw [List.length_take] at hcl
  refine S_seq ?_
  refine S_seq ?_
  refine S_reg [true, true, true, true] rfl rfl ?_
  refine J_st (R_move rfl) rfl (J_st (R_move rfl) rfl (J_st (R_len Try.underlying32 rfl (hrs.ext E).len) rfl (J_st (R_lss rfl rfl) rfl (J_done ?_))))
  refine S_cond rfl (fun hc1 => ?_) (fun hc1 => ?_)
  · have hc1n : k < rs.length := by first | (have h := of_decide_eq_true hc1; omega) | (have h := hc1; simp at h; omega)
    refine S_skip ?_
    refine S_seq ?_
    refine S_block ?_
    refine S_reg [true, true, true, true, true, true, false, true, true, true, true] rfl rfl ?_
    refine J_st (R_move rfl) rfl (J_st (R_move rfl) rfl (J_st (R_move rfl) rfl ?_))
    have hi1 : k < rs.length := (by first | assumption | omega | (simp only [List.length_set]; first | assumption | omega) | (simp only [List.getElem_set_self, List.length_set]; first | assumption | omega) | (simp only [setW, setLk, List.length_set]; first | assumption | omega) | (simp; done))
    refine J_st (R_index (i := k) sl32 rfl rfl (hrs.ext E) hi1) rfl (J_st (R_fieldAddr fl71_1 rfl) rfl (J_st (R_loadS st57 rfl (((hrs.ext E).get hi1).part 1 [.int .i64 (((rs[k]'hi1).stamp).epoch), .int .i64 (((rs[k]'hi1).stamp).turn)] rfl) rfl) rfl ?_))
    refine J_call Try.call37 rfl (s_Adjust vo (cntTo (rs.take k)) ((rs[k]'hi1).stamp) 1 _ (Own.rd (by decide) ho) (by omega)) rfl (fun _ w3 e2 ho1 => ?_)
    obtain ⟨v1, rfl, ho2⟩ := ho1
    have g_ho1 : w.heap.size ≤ w2.heap.size := E.size
    replace E := E.trans e2; replace ho := ho.ext e2
    have z3 := e2.size
    refine J_st (R_move rfl) rfl (J_st (R_extract rfl rfl) rfl (J_st (R_extract rfl rfl) rfl (J_st (R_assign rfl) rfl (J_done ?_))))
    refine S_nil (E_inB ?_)
    refine S_reg [true, true, true] rfl rfl ?_
    refine J_st (R_move rfl) rfl (J_st (R_add rfl rfl (add_nat (by unfold maxLen; omega))) rfl (J_st (R_assign rfl) rfl (J_done ?_)))
    refine S_nil (E_again (k + 1, v1) (by simp; omega) ⟨rfl, rfl, rfl, rfl, trivial⟩ ⟨E, (by omega), (by omega), Own.fin ho2 (by omega) (by omega) (by rw [cntTo_step (by assumption)])⟩)
  · have hc1n : ¬ k < rs.length := by first | (have h := of_decide_eq_false hc1; omega) | (have h := hc1; simp at h; omega)
    refine S_exit (E_lp_exit (E_inB_exit ?_))
    refine S_seq ?_
    refine S_reg [true, true] rfl rfl ?_
    refine J_st (R_move rfl) rfl (J_st (R_assign rfl) rfl (J_done ?_))
    refine S_ret (E_done1 rfl rfl E ?_)
    exact Own.fin ho (by have := E.size; omega) (by omega) (by rw [List.take_of_length_le (by omega)])

set_option maxRecDepth 20000 in
theorem c_SortFuncRec (vxs : Value) (lo hi : Nat) (xs : List Record) (w : World) (hxs : Own w lo hi 5 vxs (List.flatMap (Enc.enc (α := Record)) xs)) (hb : xs.length ≤ 1048576) : CtR Try.prog 53 [vxs, .func (.func 54) #[] #[]] w lo hi (fun v w' => v = .tuple #[] ∧ Own w' lo hi 5 vxs (List.flatMap (Enc.enc (α := Record)) (sortR xs))) := by
  refine sort_slice Try.sortRec (fun _ => by kernel_rfl) (fun _ => by kernel_rfl) (fun x v h => ?_) recOrd (fun x => recOrd_irr x) (fun x y z => recOrd_lt) (fun x y z => recOrd_nlt) (fun x y => recOrd_tot) 54 (fun _ _ => by kernel_rfl) (fun x y w => c_RecordOrder x y w) hxs hb
  simp only [Enc.enc, List.mem_cons, List.not_mem_nil, or_false] at h
  rcases h with rfl | rfl | rfl | rfl | rfl <;> rfl

set_option maxRecDepth 20000 in
theorem c_SortRecords (vxs : Value) (xs : List Record) (w : World) (hxs : RdS w vxs xs) (hb : xs.length ≤ 1048576) : Ct Try.prog 41 [vxs] w (fun v w' => Own w' w.heap.size w'.heap.size 5 v (List.flatMap (Enc.enc (α := Record)) (sortR xs))) := by
  refine ct_of Try.func41 rfl Try.ntmps41 rfl ?_
  refine S_sub [(0, vxs)] ⟨rfl, trivial⟩ ?_
  have E : Ext w w := Ext.refl w
  refine S_seq ?_
  refine S_reg [true] rfl rfl ?_
  refine J_st (R_assign rfl) rfl (J_done ?_)
  refine S_seq ?_
  refine S_reg [true, false, true] rfl rfl ?_
  refine J_st (R_move rfl) rfl ?_
  refine J_call Try.call25 rfl (c_copyRecords vxs xs _ (hxs.ext E) (by first | omega | (simp only [mkL_length]; omega) | (rw [mkL_length]; done) | (simp only [mkL_length]; done))) rfl (fun v1 w1 e1 ho1 => ?_)
  have g_ho1 : w.heap.size ≤ w.heap.size := E.size
  replace E := E.trans e1
  have z1 := e1.size
  refine J_st (R_assign rfl) rfl (J_done ?_)
  refine S_seq ?_
  refine S_reg [true, false] rfl rfl ?_
  refine J_st (R_move rfl) rfl ?_
  refine J_callR Try.call53 rfl rfl (c_SortFuncRec v1 w.heap.size w1.heap.size xs _ ho1 (by first | omega | (simp only [mkL_length]; omega) | (rw [mkL_length]; done) | (simp only [mkL_length]; done))) rfl (fun _ w2 e2 hv => ?_)
  obtain ⟨rfl, ho1'⟩ := hv
  replace ho1 := ho1'
  replace E := E.stepR e2 (by omega)
  have z2 := e2.size
  refine J_done ?_
  refine S_seq ?_
  refine S_reg [true, true] rfl rfl ?_
  refine J_st (R_move rfl) rfl (J_st (R_assign rfl) rfl (J_done ?_))
  refine S_ret (E_done1 rfl rfl E ?_)
  exact Own.fin ho1 (by have := E.size; omega) (by omega) (by simp [*])

end Go.Proofs.Ytcpjlfikdobckaa
