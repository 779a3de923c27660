/- What the functions that the laws call come to: a contract each; no condition. -/
import Derived.Test.YtnfbnbdjdokmpaaTypes
namespace Go.Proofs.Ytnfbnbdjdokmpaa
open Go Go.Proofs.Ytnfbnbdjdokmpaa.X Go.Proofs
set_option maxRecDepth 20000 in
theorem c_toCell (x : Cell) (w : World)  : Ct Try.prog 85 [.agg (Enc.enc x).toArray] w (fun v _ => v = .agg (Enc.enc x).toArray) := by
  refine ct_of Try.func85 rfl Try.ntmps85 rfl ?_
  refine S_sub [(0, .agg (Enc.enc x).toArray)] ⟨rfl, trivial⟩ ?_
  have E : Ext w w := Ext.refl w
  refine S_seq ?_
  refine S_reg [false, false] rfl rfl ?_
  refine J_box rfl rfl (fun b1 w1 e1 s1 h1 => ?_)
  have g_b1 : w.heap.size ≤ b1 := by have := E.size; omega
  have y_b1 := h1.lt
  replace E := E.trans e1
  have z1 := e1.size
  refine J_alloc st116 rfl (fun b2 w2 e2 s2 h2 => ?_)
  have g_b2 : w.heap.size ≤ b2 := by have := E.size; omega
  have y_b2 := h2.lt
  replace E := E.trans e2; replace h1 := h1.ext e2
  have z2 := e2.size
  refine J_done ?_
  refine S_seq ?_
  refine S_reg [false] rfl rfl ?_
  refine J_alloc st116 rfl (fun b3 w3 e3 s3 h3 => ?_)
  have g_b3 : w.heap.size ≤ b3 := by have := E.size; omega
  have y_b3 := h3.lt
  replace E := E.trans e3; replace h1 := h1.ext e3; replace h2 := h2.ext e3
  have z3 := e3.size
  refine J_done ?_
  refine S_seq ?_
  refine S_reg [true, true, true, false] rfl rfl ?_
  refine J_st (R_fieldAddr0 fl136_0 rfl) rfl (J_st (R_load sc3 rfl (h1.one 0 rfl)) rfl (J_st (R_fieldAddr0 fl116_0 rfl) rfl ?_))
  refine J_store' (cs' := [.int .i64 x.op, .int .i64 0, .int .i64 0, .int .i64 0]) sc3 rfl rfl rfl h3 (Nat.le_of_ble_eq_true rfl) rfl (fun w4 m1 h3' => ?_)
  replace h3 := h3'
  replace E := E.step m1 (fun g hg => by cases hg; omega); replace h1 := h1.mod m1 (fun g hg => by cases hg; omega); replace h2 := h2.mod m1 (fun g hg => by cases hg; omega)
  have z4 := m1.size
  refine J_done ?_
  refine S_seq ?_
  refine S_reg [true, true, true, false] rfl rfl ?_
  refine J_st (R_fieldAddr0 fl136_1 rfl) rfl (J_st (R_load sc3 rfl (h1.one 1 rfl)) rfl (J_st (R_fieldAddr0 fl116_1 rfl) rfl ?_))
  refine J_store' (cs' := [.int .i64 x.op, .int .i64 x.epoch, .int .i64 0, .int .i64 0]) sc3 rfl rfl rfl h3 (Nat.le_of_ble_eq_true rfl) rfl (fun w5 m2 h3' => ?_)
  replace h3 := h3'
  replace E := E.step m2 (fun g hg => by cases hg; omega); replace h1 := h1.mod m2 (fun g hg => by cases hg; omega); replace h2 := h2.mod m2 (fun g hg => by cases hg; omega)
  have z5 := m2.size
  refine J_done ?_
  refine S_seq ?_
  refine S_reg [true, true, true, false] rfl rfl ?_
  refine J_st (R_fieldAddr0 fl136_2 rfl) rfl (J_st (R_load sc3 rfl (h1.one 2 rfl)) rfl (J_st (R_fieldAddr0 fl116_2 rfl) rfl ?_))
  refine J_store' (cs' := [.int .i64 x.op, .int .i64 x.epoch, .int .i64 x.key, .int .i64 0]) sc3 rfl rfl rfl h3 (Nat.le_of_ble_eq_true rfl) rfl (fun w6 m3 h3' => ?_)
  replace h3 := h3'
  replace E := E.step m3 (fun g hg => by cases hg; omega); replace h1 := h1.mod m3 (fun g hg => by cases hg; omega); replace h2 := h2.mod m3 (fun g hg => by cases hg; omega)
  have z6 := m3.size
  refine J_done ?_
  refine S_seq ?_
  refine S_reg [true, true, true, false] rfl rfl ?_
  refine J_st (R_fieldAddr0 fl136_3 rfl) rfl (J_st (R_load sc3 rfl (h1.one 3 rfl)) rfl (J_st (R_fieldAddr0 fl116_3 rfl) rfl ?_))
  refine J_store' (cs' := [.int .i64 x.op, .int .i64 x.epoch, .int .i64 x.key, .int .i64 x.val]) sc3 rfl rfl rfl h3 (Nat.le_of_ble_eq_true rfl) rfl (fun w7 m4 h3' => ?_)
  replace h3 := h3'
  replace E := E.step m4 (fun g hg => by cases hg; omega); replace h1 := h1.mod m4 (fun g hg => by cases hg; omega); replace h2 := h2.mod m4 (fun g hg => by cases hg; omega)
  have z7 := m4.size
  refine J_done ?_
  refine S_seq ?_
  refine S_reg [true, false] rfl rfl ?_
  refine J_st (R_loadS st116 rfl h3.at rfl) rfl ?_
  refine J_storeS' (cs' := [.int .i64 x.op, .int .i64 x.epoch, .int .i64 x.key, .int .i64 x.val]) st116 rfl rfl rfl rfl h2 (Nat.le_of_ble_eq_true rfl) rfl (fun w8 m5 h2' => ?_)
  replace h2 := h2'
  replace E := E.step m5 (fun g hg => by cases hg; omega); replace h1 := h1.mod m5 (fun g hg => by cases hg; omega); replace h3 := h3.mod m5 (fun g hg => by cases hg; omega)
  have z8 := m5.size
  refine J_done ?_
  refine S_ret (E_doneC rfl rfl (run_loadVar_st st116 h2.at rfl) E ?_)
  rfl

set_option maxRecDepth 20000 in
theorem c_eqCell (x : Cell) (y : Cell) (w : World)  : Ct Try.prog 88 [.agg (Enc.enc x).toArray, .agg (Enc.enc y).toArray] w (fun v _ => v = .bool (decide (x = y))) := by
  refine ct_of Try.func88 rfl Try.ntmps88 rfl ?_
  refine S_sub [(0, .agg (Enc.enc x).toArray), (1, .agg (Enc.enc y).toArray)] ⟨rfl, rfl, trivial⟩ ?_
  have E : Ext w w := Ext.refl w
  refine S_seq ?_
  refine S_reg [false, false, true] rfl rfl ?_
  refine J_box rfl rfl (fun b1 w1 e1 s1 h1 => ?_)
  have g_b1 : w.heap.size ≤ b1 := by have := E.size; omega
  have y_b1 := h1.lt
  replace E := E.trans e1
  have z1 := e1.size
  refine J_box rfl rfl (fun b2 w2 e2 s2 h2 => ?_)
  have g_b2 : w.heap.size ≤ b2 := by have := E.size; omega
  have y_b2 := h2.lt
  replace E := E.trans e2; replace h1 := h1.ext e2
  have z2 := e2.size
  refine J_st (R_assign rfl) rfl (J_done ?_)
  refine S_seq ?_
  refine S_seq ?_
  refine S_reg [true, true, true, true, true] rfl rfl ?_
  refine J_st (R_fieldAddr0 fl116_0 rfl) rfl (J_st (R_load sc3 rfl (h1.one 0 rfl)) rfl (J_st (R_fieldAddr0 fl116_0 rfl) rfl (J_st (R_load sc3 rfl (h2.one 0 rfl)) rfl (J_st (R_neq rfl rfl) rfl (J_done ?_)))))
  refine S_cond rfl (fun hc1 => ?_) (fun hc1 => ?_)
  · refine S_seq ?_
    refine S_reg [true] rfl rfl ?_
    refine J_st (R_assign rfl) rfl (J_done ?_)
    refine S_ret (E_done1 rfl rfl E ?_)
    cases x; cases y; simp_all
  · refine S_skip ?_
    refine S_seq ?_
    refine S_seq ?_
    refine S_reg [true, true, true, true, true] rfl rfl ?_
    refine J_st (R_fieldAddr0 fl116_1 rfl) rfl (J_st (R_load sc3 rfl (h1.one 1 rfl)) rfl (J_st (R_fieldAddr0 fl116_1 rfl) rfl (J_st (R_load sc3 rfl (h2.one 1 rfl)) rfl (J_st (R_neq rfl rfl) rfl (J_done ?_)))))
    refine S_cond rfl (fun hc2 => ?_) (fun hc2 => ?_)
    · refine S_seq ?_
      refine S_reg [true] rfl rfl ?_
      refine J_st (R_assign rfl) rfl (J_done ?_)
      refine S_ret (E_done1 rfl rfl E ?_)
      cases x; cases y; simp_all
    · refine S_skip ?_
      refine S_seq ?_
      refine S_seq ?_
      refine S_reg [true, true, true, true, true] rfl rfl ?_
      refine J_st (R_fieldAddr0 fl116_2 rfl) rfl (J_st (R_load sc3 rfl (h1.one 2 rfl)) rfl (J_st (R_fieldAddr0 fl116_2 rfl) rfl (J_st (R_load sc3 rfl (h2.one 2 rfl)) rfl (J_st (R_neq rfl rfl) rfl (J_done ?_)))))
      refine S_cond rfl (fun hc3 => ?_) (fun hc3 => ?_)
      · refine S_seq ?_
        refine S_reg [true] rfl rfl ?_
        refine J_st (R_assign rfl) rfl (J_done ?_)
        refine S_ret (E_done1 rfl rfl E ?_)
        cases x; cases y; simp_all
      · refine S_skip ?_
        refine S_seq ?_
        refine S_seq ?_
        refine S_reg [true, true, true, true, true] rfl rfl ?_
        refine J_st (R_fieldAddr0 fl116_3 rfl) rfl (J_st (R_load sc3 rfl (h1.one 3 rfl)) rfl (J_st (R_fieldAddr0 fl116_3 rfl) rfl (J_st (R_load sc3 rfl (h2.one 3 rfl)) rfl (J_st (R_neq rfl rfl) rfl (J_done ?_)))))
        refine S_cond rfl (fun hc4 => ?_) (fun hc4 => ?_)
        · refine S_seq ?_
          refine S_reg [true] rfl rfl ?_
          refine J_st (R_assign rfl) rfl (J_done ?_)
          refine S_ret (E_done1 rfl rfl E ?_)
          cases x; cases y; simp_all
        · refine S_skip ?_
          refine S_seq ?_
          refine S_reg [true] rfl rfl ?_
          refine J_st (R_assign rfl) rfl (J_done ?_)
          refine S_ret (E_done1 rfl rfl E ?_)
          cases x; cases y; simp_all

set_option maxRecDepth 20000 in
theorem c_szCellS (vxs : Value) (xs : List Cell) (n : Int) (w : World) (hxs : RdS w vxs xs) (h0 : 0 ≤ n ∧ n ≤ 1048576) : Ct Try.prog 68 [vxs, .int .i64 n] w (fun v _ => v = .int .i64 (szM xs.length n)) := by
  refine ct_of Try.func68 rfl Try.ntmps68 rfl ?_
  refine S_sub [(0, vxs), (1, .int .i64 n)] ⟨rfl, rfl, trivial⟩ ?_
  have E : Ext w w := Ext.refl w
  refine S_seq ?_
  refine S_reg [true] rfl rfl ?_
  refine J_st (R_assign rfl) rfl (J_done ?_)
  refine S_seq ?_
  refine S_reg [true, true, true, true, true] rfl rfl ?_
  refine J_st (R_move rfl) rfl (J_st (R_move rfl) rfl (J_st (R_len Try.underlying84 rfl (hxs.ext E).len) rfl (J_st (R_sub rfl rfl rfl) rfl (J_st (R_assign rfl) rfl (J_done ?_)))))
  refine S_seq ?_
  refine S_seq ?_
  refine S_reg [true, true] rfl rfl ?_
  refine J_st (R_move rfl) rfl (J_st (R_lss rfl rfl) rfl (J_done ?_))
  refine S_cond rfl (fun hc1 => ?_) (fun hc1 => ?_)
  · refine S_seq ?_
    refine S_reg [true] rfl rfl ?_
    refine J_st (R_assign rfl) rfl (J_done ?_)
    refine S_ret (E_done1 rfl rfl E ?_)
    exact sz_no h0.2 h0.1 hxs.1 hc1
  · refine S_skip ?_
    refine S_seq ?_
    refine S_reg [true, true] rfl rfl ?_
    refine J_st (R_move rfl) rfl (J_st (R_assign rfl) rfl (J_done ?_))
    refine S_ret (E_done1 rfl rfl E ?_)
    exact sz_yes h0.2 h0.1 hxs.1 hc1

set_option maxRecDepth 20000 in
theorem c_eqCellS (vxs : Value) (xs : List Cell) (vys : Value) (ys : List Cell) (w : World) (hxs : RdS w vxs xs) (hys : RdS w vys ys) : Ct Try.prog 80 [vxs, vys] w (fun v _ => v = .bool (decide (xs = ys))) := by
  refine ct_of Try.func80 rfl Try.ntmps80 rfl ?_
  refine S_sub [(0, vxs), (1, vys)] ⟨rfl, rfl, trivial⟩ ?_
  have E : Ext w w := Ext.refl w
  refine S_seq ?_
  refine S_reg [true] rfl rfl ?_
  refine J_st (R_assign rfl) rfl (J_done ?_)
  refine S_seq ?_
  refine S_seq ?_
  refine S_reg [true, true, true, true, true] rfl rfl ?_
  refine J_st (R_move rfl) rfl (J_st (R_len Try.underlying67 rfl (hxs.ext E).len) rfl (J_st (R_move rfl) rfl (J_st (R_len Try.underlying67 rfl (hys.ext E).len) rfl (J_st (R_neq rfl rfl) rfl (J_done ?_)))))
  refine S_cond rfl (fun hc1 => ?_) (fun hc1 => ?_)
  · have hc1n : ¬ xs.length = ys.length := by first | (have h := of_decide_eq_true hc1; omega) | (have h := hc1; simp at h; omega)
    refine S_seq ?_
    refine S_reg [true] rfl rfl ?_
    refine J_st (R_assign rfl) rfl (J_done ?_)
    refine S_ret (E_done1 rfl rfl E ?_)
    simp [eq_len hc1n]
  · have hc1n : xs.length = ys.length := by first | (have h := of_decide_eq_false hc1; omega) | (have h := hc1; simp at h; omega)
    refine S_skip ?_
    refine S_seq ?_
    refine S_seq ?_
    refine S_reg [true] rfl rfl ?_
    refine J_st (R_assign rfl) rfl (J_done ?_)
    refine S_block ?_
    refine S_loop (fun (k : Nat) => [(0, vxs), (1, vys), (4, .bool false), (5, .int .i64 ((k : Nat) : Int))]) (fun (k : Nat) w' => Ext w w' ∧ w.heap.size ≤ w'.heap.size ∧ k ≤ xs.length ∧ xs.take k = ys.take k) (fun (k : Nat) => xs.length - k) 0 ⟨rfl, rfl, rfl, rfl, trivial⟩ ⟨E, Nat.le_refl _, Nat.zero_le _, rfl⟩ ?_
    clear E
    rintro k w1 ⟨E, z1, hk, hp⟩
    refine S_seq ?_
    refine S_seq ?_
    refine S_reg [true, true, true, true] rfl rfl ?_
    refine J_st (R_move rfl) rfl (J_st (R_move rfl) rfl (J_st (R_len Try.underlying67 rfl (hxs.ext E).len) rfl (J_st (R_lss rfl rfl) rfl (J_done ?_))))
    refine S_cond rfl (fun hc2 => ?_) (fun hc2 => ?_)
    · have hc2n : k < xs.length := by first | (have h := of_decide_eq_true hc2; omega) | (have h := hc2; simp at h; omega)
      refine S_skip ?_
      refine S_seq ?_
      refine S_block ?_
      refine S_seq ?_
      refine S_regD mixed [(0, true), (1, true), (2, true), (3, true), (4, true), (5, true), (6, true), (7, true), (8, false), (9, true)] (by decide +kernel) rfl (fun w2 e1 => ?_)
      replace E := E.trans e1
      have z2 := e1.size
      refine J_st (R_move rfl) rfl (J_st (R_move rfl) rfl ?_)
      have hi1 : k < xs.length := (by first | assumption | omega)
      refine J_st (R_index (i := k) sl67 rfl rfl (hxs.ext E) hi1) rfl (J_st (R_loadS st116 rfl ((hxs.ext E).get hi1) rfl) rfl (J_st (R_move rfl) rfl (J_st (R_move rfl) rfl ?_)))
      have hi2 : k < ys.length := (by first | assumption | omega)
      refine J_st (R_index (i := k) sl67 rfl rfl (hys.ext E) hi2) rfl (J_st (R_loadS st116 rfl ((hys.ext E).get hi2) rfl) rfl ?_)
      refine J_call Try.call88 rfl (c_eqCell (xs[k]'hi1) (ys[k]'hi2) _ ) rfl (fun _ w3 e2 hv => ?_)
      subst hv
      replace E := E.trans e2
      have z3 := e2.size
      refine J_st (R_not rfl) rfl (J_done ?_)
      refine S_cond rfl (fun hc3 => ?_) (fun hc3 => ?_)
      · refine S_seq ?_
        refine S_reg [true] rfl rfl ?_
        refine J_st (R_assign rfl) rfl (J_done ?_)
        refine S_ret (E_inB_ret (E_lp_ret (E_inB_ret (E_done1 rfl rfl E ?_))))
        exact eqS_no (by omega) (by omega) (by simpa using hc3)
      · refine S_skip ?_
        refine S_nil (E_inB ?_)
        refine S_reg [true, true, true] rfl rfl ?_
        refine J_st (R_move rfl) rfl (J_st (R_add rfl rfl (add_one hc2n hxs.1)) rfl (J_st (R_assign rfl) rfl (J_done ?_)))
        refine S_nil (E_again (k + 1) (by omega) ⟨rfl, rfl, rfl, rfl, trivial⟩ ⟨E, (by omega), (by omega), eqS_step hp (by assumption) (by omega) (by simpa using hc3)⟩)
    · have hc2n : ¬ k < xs.length := by first | (have h := of_decide_eq_false hc2; omega) | (have h := hc2; simp at h; omega)
      refine S_exit (E_lp_exit (E_inB_exit ?_))
      refine S_seq ?_
      refine S_reg [true] rfl rfl ?_
      refine J_st (R_assign rfl) rfl (J_done ?_)
      refine S_ret (E_done1 rfl rfl E ?_)
      exact eqS_yes hp hc1n (by omega)

set_option maxRecDepth 20000 in
theorem c_toCellS (vxs : Value) (xs : List Cell) (w : World) (hxs : RdS w vxs xs) (hb : xs.length ≤ 1048576) : Ct Try.prog 74 [vxs] w (fun v w' => Own w' w.heap.size w'.heap.size 4 v (List.flatMap (Enc.enc (α := Cell)) xs)) := by
  refine ct_of Try.func74 rfl Try.ntmps74 rfl ?_
  refine S_sub [(0, vxs)] ⟨rfl, trivial⟩ ?_
  have E : Ext w w := Ext.refl w
  refine S_seq ?_
  refine S_reg [true] rfl rfl ?_
  refine J_st (R_assign rfl) rfl (J_done ?_)
  refine S_seq ?_
  refine S_reg [true, true, false, true] rfl rfl ?_
  refine J_st (R_move rfl) rfl (J_st (R_len Try.underlying84 rfl (hxs.ext E).len) rfl ?_)
  refine J_make (m := xs.length) sl67 rfl rfl (by omega) (by decide) rfl (fun b1 w1 e1 s1 h1 => ?_)
  have g_b1 : w.heap.size ≤ b1 := by have := E.size; omega
  have y_b1 := h1.lt
  replace E := E.trans e1
  have z1 := e1.size
  refine J_st (R_assign rfl) rfl (J_done ?_)
  refine S_seq ?_
  refine S_seq ?_
  refine S_reg [true] rfl rfl ?_
  refine J_st (R_assign rfl) rfl (J_done ?_)
  refine S_block ?_
  refine S_loop (fun (k : Nat) => [(0, vxs), (2, .slice none 0 0), (3, .slice (some ⟨b1, 0, none⟩) xs.length xs.length), (4, .int .i64 ((k : Nat) : Int))]) (fun (k : Nat) w' => Ext w w' ∧ w1.heap.size ≤ w'.heap.size ∧ k ≤ xs.length ∧ Blk w' b1 (mk xs [.int .i64 0, .int .i64 0, .int .i64 0, .int .i64 0] k xs.length)) (fun (k : Nat) => xs.length - k) 0 ⟨rfl, rfl, rfl, rfl, trivial⟩ ⟨E, Nat.le_refl _, Nat.zero_le _, (mk_zero xs [.int .i64 0, .int .i64 0, .int .i64 0, .int .i64 0] xs.length) ▸ h1⟩ ?_
  clear E h1
  rintro k w2 ⟨E, z2, hk, h1⟩
  refine S_seq ?_
  refine S_seq ?_
  refine S_reg [true, true, true, true] rfl rfl ?_
  refine J_st (R_move rfl) rfl (J_st (R_move rfl) rfl (J_st (R_len Try.underlying84 rfl (hxs.ext E).len) rfl (J_st (R_lss rfl rfl) rfl (J_done ?_))))
  refine S_cond rfl (fun hc1 => ?_) (fun hc1 => ?_)
  · have hc1n : k < xs.length := by first | (have h := of_decide_eq_true hc1; omega) | (have h := hc1; simp at h; omega)
    refine S_skip ?_
    refine S_seq ?_
    refine S_block ?_
    refine S_reg [true, true, true, true, true, true, false, true, false] rfl rfl ?_
    refine J_st (R_move rfl) rfl (J_st (R_move rfl) rfl (J_st (R_move rfl) rfl (J_st (R_move rfl) rfl ?_)))
    have hi1 : k < xs.length := (by first | assumption | omega)
    refine J_st (R_index (i := k) sl84 rfl rfl (hxs.ext E) hi1) rfl (J_st (R_loadS st136 rfl ((hxs.ext E).get hi1) rfl) rfl ?_)
    refine J_call Try.call85 rfl (c_toCell (xs[k]'hi1) _ ) rfl (fun _ w3 e2 hv => ?_)
    subst hv
    replace E := E.trans e2; replace h1 := h1.ext e2
    have z3 := e2.size
    refine J_st (R_indexB sl67 rfl rfl (by first | assumption | omega)) rfl ?_
    refine J_storeS' (cs' := mk xs [.int .i64 0, .int .i64 0, .int .i64 0, .int .i64 0] (k + 1) xs.length) st116 rfl rfl rfl rfl h1 (mk_room xs [.int .i64 0, .int .i64 0, .int .i64 0, .int .i64 0] rfl hc1n hc1n (by rfl)) (mk_step xs [.int .i64 0, .int .i64 0, .int .i64 0, .int .i64 0] rfl hc1n hc1n) (fun w4 m1 h1' => ?_)
    replace h1 := h1'
    replace E := E.step m1 (fun g hg => by cases hg; omega)
    have z4 := m1.size
    refine J_done ?_
    refine S_nil (E_inB ?_)
    refine S_reg [true, true, true] rfl rfl ?_
    refine J_st (R_move rfl) rfl (J_st (R_add rfl rfl (add_one hc1n hxs.1)) rfl (J_st (R_assign rfl) rfl (J_done ?_)))
    refine S_nil (E_again (k + 1) (by omega) ⟨rfl, rfl, rfl, rfl, trivial⟩ ⟨E, (by omega), (by omega), h1⟩)
  · have hc1n : ¬ k < xs.length := by first | (have h := of_decide_eq_false hc1; omega) | (have h := hc1; simp at h; omega)
    refine S_exit (E_lp_exit (E_inB_exit ?_))
    refine S_seq ?_
    refine S_reg [true, true] rfl rfl ?_
    refine J_st (R_move rfl) rfl (J_st (R_assign rfl) rfl (J_done ?_))
    refine S_ret (E_done1 rfl rfl E ?_)
    obtain rfl : k = xs.length := by omega
    rw [mk_all] at h1
    exact Own.ofBlk h1 (by omega) (by have := h1.lt; omega) (sum_flat xs) hxs.1

set_option maxRecDepth 20000 in
theorem c_szIntS (vxs : Value) (xs : List Int) (n : Int) (w : World) (hxs : RdS w vxs xs) (h0 : 0 ≤ n ∧ n ≤ 1048576) : Ct Try.prog 69 [vxs, .int .i64 n] w (fun v _ => v = .int .i64 (szM xs.length n)) := by
  refine ct_of Try.func69 rfl Try.ntmps69 rfl ?_
  refine S_sub [(0, vxs), (1, .int .i64 n)] ⟨rfl, rfl, trivial⟩ ?_
  have E : Ext w w := Ext.refl w
  refine S_seq ?_
  refine S_reg [true] rfl rfl ?_
  refine J_st (R_assign rfl) rfl (J_done ?_)
  refine S_seq ?_
  refine S_reg [true, true, true, true, true] rfl rfl ?_
  refine J_st (R_move rfl) rfl (J_st (R_move rfl) rfl (J_st (R_len Try.underlying68 rfl (hxs.ext E).len) rfl (J_st (R_sub rfl rfl rfl) rfl (J_st (R_assign rfl) rfl (J_done ?_)))))
  refine S_seq ?_
  refine S_seq ?_
  refine S_reg [true, true] rfl rfl ?_
  refine J_st (R_move rfl) rfl (J_st (R_lss rfl rfl) rfl (J_done ?_))
  refine S_cond rfl (fun hc1 => ?_) (fun hc1 => ?_)
  · refine S_seq ?_
    refine S_reg [true] rfl rfl ?_
    refine J_st (R_assign rfl) rfl (J_done ?_)
    refine S_ret (E_done1 rfl rfl E ?_)
    exact sz_no h0.2 h0.1 hxs.1 hc1
  · refine S_skip ?_
    refine S_seq ?_
    refine S_reg [true, true] rfl rfl ?_
    refine J_st (R_move rfl) rfl (J_st (R_assign rfl) rfl (J_done ?_))
    refine S_ret (E_done1 rfl rfl E ?_)
    exact sz_yes h0.2 h0.1 hxs.1 hc1

set_option maxRecDepth 20000 in
theorem c_toIntS (vxs : Value) (xs : List Int) (w : World) (hxs : RdS w vxs xs) (hb : xs.length ≤ 1048576) : Ct Try.prog 75 [vxs] w (fun v w' => Own w' w.heap.size w'.heap.size 1 v (List.flatMap (Enc.enc (α := Int)) xs)) := by
  refine ct_of Try.func75 rfl Try.ntmps75 rfl ?_
  refine S_sub [(0, vxs)] ⟨rfl, trivial⟩ ?_
  have E : Ext w w := Ext.refl w
  refine S_seq ?_
  refine S_reg [true] rfl rfl ?_
  refine J_st (R_assign rfl) rfl (J_done ?_)
  refine S_seq ?_
  refine S_reg [true, true, false, true] rfl rfl ?_
  refine J_st (R_move rfl) rfl (J_st (R_len Try.underlying68 rfl (hxs.ext E).len) rfl ?_)
  refine J_make (m := xs.length) sl68 rfl rfl (by omega) (by decide) rfl (fun b1 w1 e1 s1 h1 => ?_)
  have g_b1 : w.heap.size ≤ b1 := by have := E.size; omega
  have y_b1 := h1.lt
  replace E := E.trans e1
  have z1 := e1.size
  refine J_st (R_assign rfl) rfl (J_done ?_)
  refine S_seq ?_
  refine S_seq ?_
  refine S_reg [true] rfl rfl ?_
  refine J_st (R_assign rfl) rfl (J_done ?_)
  refine S_block ?_
  refine S_loop (fun (k : Nat) => [(0, vxs), (2, .slice none 0 0), (3, .slice (some ⟨b1, 0, none⟩) xs.length xs.length), (4, .int .i64 ((k : Nat) : Int))]) (fun (k : Nat) w' => Ext w w' ∧ w1.heap.size ≤ w'.heap.size ∧ k ≤ xs.length ∧ Blk w' b1 (mk xs [.int .i64 0] k xs.length)) (fun (k : Nat) => xs.length - k) 0 ⟨rfl, rfl, rfl, rfl, trivial⟩ ⟨E, Nat.le_refl _, Nat.zero_le _, (mk_zero xs [.int .i64 0] xs.length) ▸ h1⟩ ?_
  clear E h1
  rintro k w2 ⟨E, z2, hk, h1⟩
  refine S_seq ?_
  refine S_seq ?_
  refine S_reg [true, true, true, true] rfl rfl ?_
  refine J_st (R_move rfl) rfl (J_st (R_move rfl) rfl (J_st (R_len Try.underlying68 rfl (hxs.ext E).len) rfl (J_st (R_lss rfl rfl) rfl (J_done ?_))))
  refine S_cond rfl (fun hc1 => ?_) (fun hc1 => ?_)
  · have hc1n : k < xs.length := by first | (have h := of_decide_eq_true hc1; omega) | (have h := hc1; simp at h; omega)
    refine S_skip ?_
    refine S_seq ?_
    refine S_block ?_
    refine S_reg [true, true, true, true, true, true, true, false] rfl rfl ?_
    refine J_st (R_move rfl) rfl (J_st (R_move rfl) rfl (J_st (R_move rfl) rfl (J_st (R_move rfl) rfl ?_)))
    have hi1 : k < xs.length := (by first | assumption | omega)
    refine J_st (R_index (i := k) sl68 rfl rfl (hxs.ext E) hi1) rfl (J_st (R_load sc3 rfl (((hxs.ext E).get hi1).one 0 rfl)) rfl (J_st (R_indexB sl68 rfl rfl (by first | assumption | omega)) rfl ?_))
    refine J_store' (cs' := mk xs [.int .i64 0] (k + 1) xs.length) sc3 rfl rfl rfl h1 (mk_room xs [.int .i64 0] rfl hc1n hc1n (by rfl)) (mk_step xs [.int .i64 0] rfl hc1n hc1n) (fun w3 m1 h1' => ?_)
    replace h1 := h1'
    replace E := E.step m1 (fun g hg => by cases hg; omega)
    have z3 := m1.size
    refine J_done ?_
    refine S_nil (E_inB ?_)
    refine S_reg [true, true, true] rfl rfl ?_
    refine J_st (R_move rfl) rfl (J_st (R_add rfl rfl (add_one hc1n hxs.1)) rfl (J_st (R_assign rfl) rfl (J_done ?_)))
    refine S_nil (E_again (k + 1) (by omega) ⟨rfl, rfl, rfl, rfl, trivial⟩ ⟨E, (by omega), (by omega), h1⟩)
  · have hc1n : ¬ k < xs.length := by first | (have h := of_decide_eq_false hc1; omega) | (have h := hc1; simp at h; omega)
    refine S_exit (E_lp_exit (E_inB_exit ?_))
    refine S_seq ?_
    refine S_reg [true, true] rfl rfl ?_
    refine J_st (R_move rfl) rfl (J_st (R_assign rfl) rfl (J_done ?_))
    refine S_ret (E_done1 rfl rfl E ?_)
    obtain rfl : k = xs.length := by omega
    rw [mk_all] at h1
    exact Own.ofBlk h1 (by omega) (by have := h1.lt; omega) (sum_flat xs) hxs.1

set_option maxRecDepth 20000 in
theorem c_eqIntS (vxs : Value) (xs : List Int) (vys : Value) (ys : List Int) (w : World) (hxs : RdS w vxs xs) (hys : RdS w vys ys) : Ct Try.prog 81 [vxs, vys] w (fun v _ => v = .bool (decide (xs = ys))) := by
  refine ct_of Try.func81 rfl Try.ntmps81 rfl ?_
  refine S_sub [(0, vxs), (1, vys)] ⟨rfl, rfl, trivial⟩ ?_
  have E : Ext w w := Ext.refl w
  refine S_seq ?_
  refine S_reg [true] rfl rfl ?_
  refine J_st (R_assign rfl) rfl (J_done ?_)
  refine S_seq ?_
  refine S_seq ?_
  refine S_reg [true, true, true, true, true] rfl rfl ?_
  refine J_st (R_move rfl) rfl (J_st (R_len Try.underlying68 rfl (hxs.ext E).len) rfl (J_st (R_move rfl) rfl (J_st (R_len Try.underlying68 rfl (hys.ext E).len) rfl (J_st (R_neq rfl rfl) rfl (J_done ?_)))))
  refine S_cond rfl (fun hc1 => ?_) (fun hc1 => ?_)
  · have hc1n : ¬ xs.length = ys.length := by first | (have h := of_decide_eq_true hc1; omega) | (have h := hc1; simp at h; omega)
    refine S_seq ?_
    refine S_reg [true] rfl rfl ?_
    refine J_st (R_assign rfl) rfl (J_done ?_)
    refine S_ret (E_done1 rfl rfl E ?_)
    simp [eq_len hc1n]
  · have hc1n : xs.length = ys.length := by first | (have h := of_decide_eq_false hc1; omega) | (have h := hc1; simp at h; omega)
    refine S_skip ?_
    refine S_seq ?_
    refine S_seq ?_
    refine S_reg [true] rfl rfl ?_
    refine J_st (R_assign rfl) rfl (J_done ?_)
    refine S_block ?_
    refine S_loop (fun (k : Nat) => [(0, vxs), (1, vys), (4, .bool false), (5, .int .i64 ((k : Nat) : Int))]) (fun (k : Nat) w' => Ext w w' ∧ w.heap.size ≤ w'.heap.size ∧ k ≤ xs.length ∧ xs.take k = ys.take k) (fun (k : Nat) => xs.length - k) 0 ⟨rfl, rfl, rfl, rfl, trivial⟩ ⟨E, Nat.le_refl _, Nat.zero_le _, rfl⟩ ?_
    clear E
    rintro k w1 ⟨E, z1, hk, hp⟩
    refine S_seq ?_
    refine S_seq ?_
    refine S_reg [true, true, true, true] rfl rfl ?_
    refine J_st (R_move rfl) rfl (J_st (R_move rfl) rfl (J_st (R_len Try.underlying68 rfl (hxs.ext E).len) rfl (J_st (R_lss rfl rfl) rfl (J_done ?_))))
    refine S_cond rfl (fun hc2 => ?_) (fun hc2 => ?_)
    · have hc2n : k < xs.length := by first | (have h := of_decide_eq_true hc2; omega) | (have h := hc2; simp at h; omega)
      refine S_skip ?_
      refine S_seq ?_
      refine S_block ?_
      refine S_seq ?_
      refine S_regD mixed [(0, true), (1, true), (2, true), (3, true), (4, true), (5, true), (6, true), (7, true), (8, true)] (by decide +kernel) rfl (fun w2 e1 => ?_)
      replace E := E.trans e1
      have z2 := e1.size
      refine J_st (R_move rfl) rfl (J_st (R_move rfl) rfl ?_)
      have hi1 : k < xs.length := (by first | assumption | omega)
      refine J_st (R_index (i := k) sl68 rfl rfl (hxs.ext E) hi1) rfl (J_st (R_load sc3 rfl (((hxs.ext E).get hi1).one 0 rfl)) rfl (J_st (R_move rfl) rfl (J_st (R_move rfl) rfl ?_)))
      have hi2 : k < ys.length := (by first | assumption | omega)
      refine J_st (R_index (i := k) sl68 rfl rfl (hys.ext E) hi2) rfl (J_st (R_load sc3 rfl (((hys.ext E).get hi2).one 0 rfl)) rfl (J_st (R_neq rfl rfl) rfl (J_done ?_)))
      refine S_cond rfl (fun hc3 => ?_) (fun hc3 => ?_)
      · refine S_seq ?_
        refine S_reg [true] rfl rfl ?_
        refine J_st (R_assign rfl) rfl (J_done ?_)
        refine S_ret (E_inB_ret (E_lp_ret (E_inB_ret (E_done1 rfl rfl E ?_))))
        exact eqS_no (by omega) (by omega) (by simpa using hc3)
      · refine S_skip ?_
        refine S_nil (E_inB ?_)
        refine S_reg [true, true, true] rfl rfl ?_
        refine J_st (R_move rfl) rfl (J_st (R_add rfl rfl (add_one hc2n hxs.1)) rfl (J_st (R_assign rfl) rfl (J_done ?_)))
        refine S_nil (E_again (k + 1) (by omega) ⟨rfl, rfl, rfl, rfl, trivial⟩ ⟨E, (by omega), (by omega), eqS_step hp (by assumption) (by omega) (by simpa using hc3)⟩)
    · have hc2n : ¬ k < xs.length := by first | (have h := of_decide_eq_false hc2; omega) | (have h := hc2; simp at h; omega)
      refine S_exit (E_lp_exit (E_inB_exit ?_))
      refine S_seq ?_
      refine S_reg [true] rfl rfl ?_
      refine J_st (R_assign rfl) rfl (J_done ?_)
      refine S_ret (E_done1 rfl rfl E ?_)
      exact eqS_yes hp hc1n (by omega)

set_option maxRecDepth 20000 in
theorem c_szNode (cx : List Value) (x : Node) (n : Int) (w : World) (hx : Dat.R w 0 w.heap.size cx x) (h0 : 0 ≤ n ∧ n ≤ 1048576) : Ct Try.prog 66 [.agg cx.toArray, .int .i64 n] w (fun v _ => v = .int .i64 (szM (cntNode x) n)) := by
  refine ct_of Try.func66 rfl Try.ntmps66 rfl ?_
  obtain ⟨o1, rfl, hd1⟩ := Node.op hx
  refine S_sub [(0, .agg [.int .i64 x.kind, .int .i64 x.a, .int .i64 x.b, o1].toArray), (1, .int .i64 n)] ⟨rfl, rfl, trivial⟩ ?_
  have E : Ext w w := Ext.refl w
  refine S_seq ?_
  refine S_reg [false, true] rfl rfl ?_
  refine J_box rfl rfl (fun b1 w1 e1 s1 h1 => ?_)
  have g_b1 : w.heap.size ≤ b1 := by have := E.size; omega
  have y_b1 := h1.lt
  replace E := E.trans e1
  have z1 := e1.size
  refine J_st (R_assign rfl) rfl (J_done ?_)
  refine S_seq ?_
  refine S_reg [true, true, true, false, true] rfl rfl ?_
  refine J_st (R_fieldAddr0 fl119_3 rfl) rfl (J_st (R_load sc68 rfl (h1.one 3 rfl)) rfl (J_st (R_move rfl) rfl ?_))
  refine J_call Try.call69 rfl (c_szIntS o1 x.outs n _ (hd1.rd.ext E) (by first | omega | (simp only [mkL_length]; omega) | (rw [mkL_length]))) rfl (fun _ w2 e2 hv => ?_)
  subst hv
  replace E := E.trans e2; replace h1 := h1.ext e2
  have z2 := e2.size
  refine J_st (R_assign rfl) rfl (J_done ?_)
  refine S_seq ?_
  refine S_seq ?_
  refine S_reg [true, true] rfl rfl ?_
  refine J_st (R_move rfl) rfl (J_st (R_lss rfl rfl) rfl (J_done ?_))
  refine S_cond rfl (fun hc1 => ?_) (fun hc1 => ?_)
  · have q1 := szM_no hc1 (by omega)
    refine S_seq ?_
    refine S_reg [true] rfl rfl ?_
    refine J_st (R_assign rfl) rfl (J_done ?_)
    refine S_ret (E_done1 rfl rfl E ?_)
    first | exact sz_neg (by unfold cntNode; omega) | exact sz_fin (by unfold cntNode; omega) (by unfold cntNode; omega)
  · have q2 := szM_ok hc1 (by omega)
    refine S_skip ?_
    refine S_seq ?_
    refine S_reg [true, true] rfl rfl ?_
    refine J_st (R_move rfl) rfl (J_st (R_assign rfl) rfl (J_done ?_))
    refine S_ret (E_done1 rfl rfl E ?_)
    first | exact sz_neg (by unfold cntNode; omega) | exact sz_fin (by unfold cntNode; omega) (by unfold cntNode; omega)

set_option maxRecDepth 20000 in
theorem c_toNode (cx : List Value) (x : Node) (w : World) (hx : Dat.R w 0 w.heap.size cx x) (hb : cntNode x ≤ 1048576) : Ct Try.prog 72 [.agg cx.toArray] w (fun v w' => ∃ cs, v = .agg cs.toArray ∧ Own1.O w' w.heap.size w'.heap.size cs x) := by
  unfold cntNode at hb
  refine ct_of Try.func72 rfl Try.ntmps72 rfl ?_
  obtain ⟨o1, rfl, hd1⟩ := Node.op hx
  refine S_sub [(0, .agg [.int .i64 x.kind, .int .i64 x.a, .int .i64 x.b, o1].toArray)] ⟨rfl, trivial⟩ ?_
  have E : Ext w w := Ext.refl w
  refine S_seq ?_
  refine S_reg [false, false] rfl rfl ?_
  refine J_box rfl rfl (fun b1 w1 e1 s1 h1 => ?_)
  have g_b1 : w.heap.size ≤ b1 := by have := E.size; omega
  have y_b1 := h1.lt
  replace E := E.trans e1
  have z1 := e1.size
  refine J_alloc st102 rfl (fun b2 w2 e2 s2 h2 => ?_)
  have g_b2 : w.heap.size ≤ b2 := by have := E.size; omega
  have y_b2 := h2.lt
  replace E := E.trans e2; replace h1 := h1.ext e2
  have z2 := e2.size
  refine J_done ?_
  refine S_seq ?_
  refine S_reg [false] rfl rfl ?_
  refine J_alloc st102 rfl (fun b3 w3 e3 s3 h3 => ?_)
  have g_b3 : w.heap.size ≤ b3 := by have := E.size; omega
  have y_b3 := h3.lt
  replace E := E.trans e3; replace h1 := h1.ext e3; replace h2 := h2.ext e3
  have z3 := e3.size
  refine J_done ?_
  refine S_seq ?_
  refine S_reg [true, true, true, false] rfl rfl ?_
  refine J_st (R_fieldAddr0 fl119_0 rfl) rfl (J_st (R_load sc3 rfl (h1.one 0 rfl)) rfl (J_st (R_fieldAddr0 fl102_0 rfl) rfl ?_))
  refine J_store' (cs' := [.int .i64 x.kind, .int .i64 0, .int .i64 0, .slice none 0 0]) sc3 rfl rfl rfl h3 (Nat.le_of_ble_eq_true rfl) rfl (fun w4 m1 h3' => ?_)
  replace h3 := h3'
  replace E := E.step m1 (fun g hg => by cases hg; omega); replace h1 := h1.mod m1 (fun g hg => by cases hg; omega); replace h2 := h2.mod m1 (fun g hg => by cases hg; omega)
  have z4 := m1.size
  refine J_done ?_
  refine S_seq ?_
  refine S_reg [true, true, true, false] rfl rfl ?_
  refine J_st (R_fieldAddr0 fl119_1 rfl) rfl (J_st (R_load sc3 rfl (h1.one 1 rfl)) rfl (J_st (R_fieldAddr0 fl102_1 rfl) rfl ?_))
  refine J_store' (cs' := [.int .i64 x.kind, .int .i64 x.a, .int .i64 0, .slice none 0 0]) sc3 rfl rfl rfl h3 (Nat.le_of_ble_eq_true rfl) rfl (fun w5 m2 h3' => ?_)
  replace h3 := h3'
  replace E := E.step m2 (fun g hg => by cases hg; omega); replace h1 := h1.mod m2 (fun g hg => by cases hg; omega); replace h2 := h2.mod m2 (fun g hg => by cases hg; omega)
  have z5 := m2.size
  refine J_done ?_
  refine S_seq ?_
  refine S_reg [true, true, true, false] rfl rfl ?_
  refine J_st (R_fieldAddr0 fl119_2 rfl) rfl (J_st (R_load sc3 rfl (h1.one 2 rfl)) rfl (J_st (R_fieldAddr0 fl102_2 rfl) rfl ?_))
  refine J_store' (cs' := [.int .i64 x.kind, .int .i64 x.a, .int .i64 x.b, .slice none 0 0]) sc3 rfl rfl rfl h3 (Nat.le_of_ble_eq_true rfl) rfl (fun w6 m3 h3' => ?_)
  replace h3 := h3'
  replace E := E.step m3 (fun g hg => by cases hg; omega); replace h1 := h1.mod m3 (fun g hg => by cases hg; omega); replace h2 := h2.mod m3 (fun g hg => by cases hg; omega)
  have z6 := m3.size
  refine J_done ?_
  refine S_seq ?_
  refine S_reg [true, true, false, true, false] rfl rfl ?_
  refine J_st (R_fieldAddr0 fl119_3 rfl) rfl (J_st (R_load sc68 rfl (h1.one 3 rfl)) rfl ?_)
  refine J_call Try.call75 rfl (c_toIntS o1 x.outs _ (hd1.rd.ext E) (by first | omega | (simp only [mkL_length]; omega) | (rw [mkL_length]))) rfl (fun v1 w7 e4 ho1 => ?_)
  have g_ho1 : w.heap.size ≤ w6.heap.size := E.size
  replace E := E.trans e4; replace h1 := h1.ext e4; replace h2 := h2.ext e4; replace h3 := h3.ext e4
  have z7 := e4.size
  refine J_st (R_fieldAddr0 fl102_3 rfl) rfl ?_
  refine J_store' (cs' := [.int .i64 x.kind, .int .i64 x.a, .int .i64 x.b, v1]) sc68 rfl rfl ho1.one h3 (Nat.le_of_ble_eq_true rfl) rfl (fun w8 m4 h3' => ?_)
  replace h3 := h3'
  replace E := E.step m4 (fun g hg => by cases hg; omega); replace h1 := h1.mod m4 (fun g hg => by cases hg; omega); replace h2 := h2.mod m4 (fun g hg => by cases hg; omega); replace ho1 := ho1.mod m4 (fun g hg => by cases hg; omega)
  have z8 := m4.size
  refine J_done ?_
  refine S_seq ?_
  refine S_reg [true, false] rfl rfl ?_
  refine J_st (R_loadS st102 rfl h3.at rfl) rfl ?_
  refine J_storeS' (cs' := [.int .i64 x.kind, .int .i64 x.a, .int .i64 x.b, v1]) st102 rfl rfl rfl (all_cons rfl (all_cons rfl (all_cons rfl (all_cons ho1.one rfl)))) h2 (Nat.le_of_ble_eq_true rfl) rfl (fun w9 m5 h2' => ?_)
  replace h2 := h2'
  replace E := E.step m5 (fun g hg => by cases hg; omega); replace h1 := h1.mod m5 (fun g hg => by cases hg; omega); replace h3 := h3.mod m5 (fun g hg => by cases hg; omega); replace ho1 := ho1.mod m5 (fun g hg => by cases hg; omega)
  have z9 := m5.size
  refine J_done ?_
  refine S_ret (E_doneC rfl rfl (run_loadVar_st st102 h2.at rfl) E ?_)
  exact ⟨_, rfl, Node.mkO x ⟨trivial, trivial⟩ (Own.widen ho1 (by omega) (by omega))⟩

set_option maxRecDepth 20000 in
theorem c_eqNode (cx : List Value) (x : Node) (cy : List Value) (y : Node) (w : World) (hx : Dat.R w 0 w.heap.size cx x) (hy : Dat.R w 0 w.heap.size cy y) : Ct Try.prog 78 [.agg cx.toArray, .agg cy.toArray] w (fun v _ => v = .bool (decide (x = y))) := by
  refine ct_of Try.func78 rfl Try.ntmps78 rfl ?_
  obtain ⟨o1, rfl, hd1⟩ := Node.op hx
  obtain ⟨o2, rfl, hd2⟩ := Node.op hy
  refine S_sub [(0, .agg [.int .i64 x.kind, .int .i64 x.a, .int .i64 x.b, o1].toArray), (1, .agg [.int .i64 y.kind, .int .i64 y.a, .int .i64 y.b, o2].toArray)] ⟨rfl, rfl, trivial⟩ ?_
  have E : Ext w w := Ext.refl w
  refine S_seq ?_
  refine S_reg [false, false, true] rfl rfl ?_
  refine J_box rfl rfl (fun b1 w1 e1 s1 h1 => ?_)
  have g_b1 : w.heap.size ≤ b1 := by have := E.size; omega
  have y_b1 := h1.lt
  replace E := E.trans e1
  have z1 := e1.size
  refine J_box rfl rfl (fun b2 w2 e2 s2 h2 => ?_)
  have g_b2 : w.heap.size ≤ b2 := by have := E.size; omega
  have y_b2 := h2.lt
  replace E := E.trans e2; replace h1 := h1.ext e2
  have z2 := e2.size
  refine J_st (R_assign rfl) rfl (J_done ?_)
  refine S_seq ?_
  refine S_seq ?_
  refine S_reg [true, true, true, true, true] rfl rfl ?_
  refine J_st (R_fieldAddr0 fl102_0 rfl) rfl (J_st (R_load sc3 rfl (h1.one 0 rfl)) rfl (J_st (R_fieldAddr0 fl102_0 rfl) rfl (J_st (R_load sc3 rfl (h2.one 0 rfl)) rfl (J_st (R_neq rfl rfl) rfl (J_done ?_)))))
  refine S_cond rfl (fun hc1 => ?_) (fun hc1 => ?_)
  · refine S_seq ?_
    refine S_reg [true] rfl rfl ?_
    refine J_st (R_assign rfl) rfl (J_done ?_)
    refine S_ret (E_done1 rfl rfl E ?_)
    cases x; cases y; simp_all
  · refine S_skip ?_
    refine S_seq ?_
    refine S_seq ?_
    refine S_reg [true, true, true, true, true] rfl rfl ?_
    refine J_st (R_fieldAddr0 fl102_1 rfl) rfl (J_st (R_load sc3 rfl (h1.one 1 rfl)) rfl (J_st (R_fieldAddr0 fl102_1 rfl) rfl (J_st (R_load sc3 rfl (h2.one 1 rfl)) rfl (J_st (R_neq rfl rfl) rfl (J_done ?_)))))
    refine S_cond rfl (fun hc2 => ?_) (fun hc2 => ?_)
    · refine S_seq ?_
      refine S_reg [true] rfl rfl ?_
      refine J_st (R_assign rfl) rfl (J_done ?_)
      refine S_ret (E_done1 rfl rfl E ?_)
      cases x; cases y; simp_all
    · refine S_skip ?_
      refine S_seq ?_
      refine S_seq ?_
      refine S_reg [true, true, true, true, true] rfl rfl ?_
      refine J_st (R_fieldAddr0 fl102_2 rfl) rfl (J_st (R_load sc3 rfl (h1.one 2 rfl)) rfl (J_st (R_fieldAddr0 fl102_2 rfl) rfl (J_st (R_load sc3 rfl (h2.one 2 rfl)) rfl (J_st (R_neq rfl rfl) rfl (J_done ?_)))))
      refine S_cond rfl (fun hc3 => ?_) (fun hc3 => ?_)
      · refine S_seq ?_
        refine S_reg [true] rfl rfl ?_
        refine J_st (R_assign rfl) rfl (J_done ?_)
        refine S_ret (E_done1 rfl rfl E ?_)
        cases x; cases y; simp_all
      · refine S_skip ?_
        refine S_seq ?_
        refine S_seq ?_
        refine S_reg [true, true, true, true, false, true] rfl rfl ?_
        refine J_st (R_fieldAddr0 fl102_3 rfl) rfl (J_st (R_load sc68 rfl (h1.one 3 rfl)) rfl (J_st (R_fieldAddr0 fl102_3 rfl) rfl (J_st (R_load sc68 rfl (h2.one 3 rfl)) rfl ?_)))
        refine J_call Try.call81 rfl (c_eqIntS o1 x.outs o2 y.outs _ (hd1.rd.ext E) (hd2.rd.ext E)) rfl (fun _ w3 e3 hv => ?_)
        subst hv
        replace E := E.trans e3; replace h1 := h1.ext e3; replace h2 := h2.ext e3
        have z3 := e3.size
        refine J_st (R_not rfl) rfl (J_done ?_)
        refine S_cond rfl (fun hc4 => ?_) (fun hc4 => ?_)
        · refine S_seq ?_
          refine S_reg [true] rfl rfl ?_
          refine J_st (R_assign rfl) rfl (J_done ?_)
          refine S_ret (E_done1 rfl rfl E ?_)
          cases x; cases y; simp_all
        · refine S_skip ?_
          refine S_seq ?_
          refine S_reg [true] rfl rfl ?_
          refine J_st (R_assign rfl) rfl (J_done ?_)
          refine S_ret (E_done1 rfl rfl E ?_)
          cases x; cases y; simp_all

set_option maxRecDepth 20000 in
theorem c_szNodeS (vxs : Value) (xs : List Node) (n : Int) (w : World) (hxs : RdD w 0 w.heap.size vxs xs) (h0 : 0 ≤ n ∧ n ≤ 1048576) : Ct Try.prog 42 [vxs, .int .i64 n] w (fun v _ => v = .int .i64 (szM (cntL cntNode xs) n)) := by
  have hlm := hxs.1.1
  unfold maxLen at hlm
  refine ct_of Try.func42 rfl Try.ntmps42 rfl ?_
  refine S_sub [(0, vxs), (1, .int .i64 n)] ⟨rfl, rfl, trivial⟩ ?_
  have E : Ext w w := Ext.refl w
  refine S_seq ?_
  refine S_reg [true] rfl rfl ?_
  refine J_st (R_assign rfl) rfl (J_done ?_)
  refine S_seq ?_
  refine S_reg [true, true, true, true, true] rfl rfl ?_
  refine J_st (R_move rfl) rfl (J_st (R_move rfl) rfl (J_st (R_len Try.underlying22 rfl (hxs.ext E).len) rfl (J_st (R_sub rfl rfl (wrap_in (by omega) (by omega))) rfl (J_st (R_assign rfl) rfl (J_done ?_)))))
  refine S_seq ?_
  refine S_seq ?_
  refine S_reg [true, true] rfl rfl ?_
  refine J_st (R_move rfl) rfl (J_st (R_lss rfl rfl) rfl (J_done ?_))
  refine S_cond rfl (fun hc1 => ?_) (fun hc1 => ?_)
  · refine S_seq ?_
    refine S_reg [true] rfl rfl ?_
    refine J_st (R_assign rfl) rfl (J_done ?_)
    refine S_ret (E_done1 rfl rfl E ?_)
    exact sz_neg (by have := of_decide_eq_true hc1; unfold cntL; omega)
  · refine S_skip ?_
    refine S_seq ?_
    refine S_seq ?_
    refine S_reg [true] rfl rfl ?_
    refine J_st (R_assign rfl) rfl (J_done ?_)
    refine S_block ?_
    refine S_loop (fun (xq : Nat × Int) => let ⟨k, l⟩ := xq; [(0, vxs), (1, .int .i64 l), (4, .int .i64 0), (5, .int .i64 ((k : Nat) : Int))]) (fun (xq : Nat × Int) w' => let ⟨k, l⟩ := xq; Ext w w' ∧ w.heap.size ≤ w'.heap.size ∧ k ≤ xs.length ∧ 0 ≤ l ∧ l ≤ 1048576 ∧ l = n - ((xs.length : Nat) : Int) - ((((xs.take k).map cntNode).sum : Nat) : Int)) (fun (xq : Nat × Int) => let ⟨k, l⟩ := xq; xs.length - k) (0, n - ((xs.length : Nat) : Int)) ⟨rfl, rfl, rfl, rfl, trivial⟩ ⟨E, Nat.le_refl _, Nat.zero_le _, (by have := of_decide_eq_false hc1; simp; omega)⟩ ?_
    clear E
    rintro ⟨k, l⟩ w1 ⟨E, z1, hk, hl⟩
    refine S_sub [(0, vxs), (1, .int .i64 l), (4, .int .i64 0), (5, .int .i64 ((k : Nat) : Int))] ⟨rfl, rfl, rfl, rfl, trivial⟩ ?_
    refine S_seq ?_
    refine S_seq ?_
    refine S_reg [true, true, true, true] rfl rfl ?_
    refine J_st (R_move rfl) rfl (J_st (R_move rfl) rfl (J_st (R_len Try.underlying22 rfl (hxs.ext E).len) rfl (J_st (R_lss rfl rfl) rfl (J_done ?_))))
    refine S_cond rfl (fun hc2 => ?_) (fun hc2 => ?_)
    · have hc2n : k < xs.length := by first | (have h := of_decide_eq_true hc2; omega) | (have h := hc2; simp at h; omega)
      refine S_skip ?_
      refine S_seq ?_
      refine S_block ?_
      refine S_seq ?_
      refine S_reg [true, true, true, true, true, false, true] rfl rfl ?_
      refine J_st (R_move rfl) rfl (J_st (R_move rfl) rfl ?_)
      have hi1 : k < xs.length := (by first | assumption | omega)
      obtain ⟨_, hr1, ha1⟩ := RdD.get hxs hi1
      obtain ⟨o1, rfl, hd1⟩ := Node.op hr1
      replace ha1 : At w (sblk vxs) (soff vxs + k * 4) [.int .i64 ((xs[k]'hi1).kind), .int .i64 ((xs[k]'hi1).a), .int .i64 ((xs[k]'hi1).b), o1] := ha1
      refine J_st (R_index (i := k) sl22 rfl rfl (hxs.ext E).1 hi1) rfl (J_st (R_loadS st119 rfl (ha1.ext E) rfl) rfl (J_st (R_move rfl) rfl ?_))
      refine J_call Try.call66 rfl (c_szNode [.int .i64 ((xs[k]'hi1).kind), .int .i64 ((xs[k]'hi1).a), .int .i64 ((xs[k]'hi1).b), o1] (xs[k]'hi1) l _ (Node.mkR (xs[k]'hi1) (RdD.any (hd1.ext E))) (by first | omega | (simp only [mkL_length]; omega) | (rw [mkL_length]))) rfl (fun _ w2 e1 hv => ?_)
      subst hv
      replace E := E.trans e1
      have z2 := e1.size
      refine J_st (R_assign rfl) rfl (J_done ?_)
      refine S_seq ?_
      refine S_reg [true, true] rfl rfl ?_
      refine J_st (R_move rfl) rfl (J_st (R_lss rfl rfl) rfl (J_done ?_))
      refine S_cond rfl (fun hc3 => ?_) (fun hc3 => ?_)
      · have q1 := szM_no hc3 (by omega)
        refine S_seq ?_
        refine S_reg [true] rfl rfl ?_
        refine J_st (R_assign rfl) rfl (J_done ?_)
        refine S_ret (E_inB_ret (E_lp_ret (E_inB_ret (E_done1 rfl rfl E ?_))))
        exact sz_neg (by have := sum_le (f := cntNode) (show k < xs.length by omega); unfold cntL; omega)
      · have q2 := szM_ok hc3 (by omega)
        refine S_skip ?_
        refine S_nil (E_inB ?_)
        refine S_reg [true, true, true] rfl rfl ?_
        refine J_st (R_move rfl) rfl (J_st (R_add rfl rfl (add_one hc2n (hxs.ext E).1.1)) rfl (J_st (R_assign rfl) rfl (J_done ?_)))
        refine S_nil (E_again (k + 1, szM (cntNode (xs[k]'hi1)) l) (by simp; omega) ⟨rfl, rfl, rfl, rfl, trivial⟩ ⟨E, (by omega), (by omega), (by have := sum_step (f := cntNode) (show k < xs.length by omega); omega)⟩)
    · have hc2n : ¬ k < xs.length := by first | (have h := of_decide_eq_false hc2; omega) | (have h := hc2; simp at h; omega)
      refine S_exit (E_lp_exit (E_inB_exit ?_))
      refine S_seq ?_
      refine S_reg [true, true] rfl rfl ?_
      refine J_st (R_move rfl) rfl (J_st (R_assign rfl) rfl (J_done ?_))
      refine S_ret (E_done1 rfl rfl E ?_)
      have := sum_all (f := cntNode) (show xs.length ≤ k by omega); exact sz_fin (by unfold cntL; omega) (by unfold cntL; omega)

set_option maxRecDepth 20000 in
theorem c_toNodeS (vxs : Value) (xs : List Node) (w : World) (hxs : RdD w 0 w.heap.size vxs xs) (hb : cntL cntNode xs ≤ 1048576) : Ct Try.prog 45 [vxs] w (fun v w' => OwS (α := Node) w' w.heap.size w'.heap.size v xs) := by
  unfold cntL at hb
  refine ct_of Try.func45 rfl Try.ntmps45 rfl ?_
  refine S_sub [(0, vxs)] ⟨rfl, trivial⟩ ?_
  have E : Ext w w := Ext.refl w
  refine S_seq ?_
  refine S_reg [true] rfl rfl ?_
  refine J_st (R_assign rfl) rfl (J_done ?_)
  refine S_seq ?_
  refine S_reg [true, true, false, true] rfl rfl ?_
  refine J_st (R_move rfl) rfl (J_st (R_len Try.underlying22 rfl (hxs.ext E).len) rfl ?_)
  refine J_make (m := xs.length) sl33 rfl rfl (by omega) (by decide) rfl (fun b1 w1 e1 s1 h1 => ?_)
  have g_b1 : w.heap.size ≤ b1 := by have := E.size; omega
  have y_b1 := h1.lt
  replace E := E.trans e1
  have z1 := e1.size
  refine J_st (R_assign rfl) rfl (J_done ?_)
  refine S_seq ?_
  refine S_seq ?_
  refine S_reg [true] rfl rfl ?_
  refine J_st (R_assign rfl) rfl (J_done ?_)
  refine S_block ?_
  refine S_loop (fun (xq : Nat × List (List Value)) => let ⟨k, css⟩ := xq; [(0, vxs), (2, .slice none 0 0), (3, .slice (some ⟨b1, 0, none⟩) xs.length xs.length), (4, .int .i64 ((k : Nat) : Int))]) (fun (xq : Nat × List (List Value)) w' => let ⟨k, css⟩ := xq; Ext w w' ∧ w1.heap.size ≤ w'.heap.size ∧ k ≤ xs.length ∧ css.length = k ∧ Blk w' b1 (mkc css [.int .i64 0, .int .i64 0, .int .i64 0, .slice none 0 0] (xs.length - k)) ∧ AllO w' w1.heap.size w'.heap.size css (xs.take k)) (fun (xq : Nat × List (List Value)) => let ⟨k, css⟩ := xq; xs.length - k) (0, []) ⟨rfl, rfl, rfl, rfl, trivial⟩ ⟨E, Nat.le_refl _, Nat.zero_le _, rfl, (by simpa [mkc] using h1), (by simp [AllO, All2])⟩ ?_
  clear E h1
  rintro ⟨k, css⟩ w2 ⟨E, z2, hk, hlk, h1, hA⟩
  refine S_sub [(0, vxs), (2, .slice none 0 0), (3, .slice (some ⟨b1, 0, none⟩) xs.length xs.length), (4, .int .i64 ((k : Nat) : Int))] ⟨rfl, rfl, rfl, rfl, trivial⟩ ?_
  refine S_seq ?_
  refine S_seq ?_
  refine S_reg [true, true, true, true] rfl rfl ?_
  refine J_st (R_move rfl) rfl (J_st (R_move rfl) rfl (J_st (R_len Try.underlying22 rfl (hxs.ext E).len) rfl (J_st (R_lss rfl rfl) rfl (J_done ?_))))
  refine S_cond rfl (fun hc1 => ?_) (fun hc1 => ?_)
  · have hc1n : k < xs.length := by first | (have h := of_decide_eq_true hc1; omega) | (have h := hc1; simp at h; omega)
    refine S_skip ?_
    refine S_seq ?_
    refine S_block ?_
    refine S_reg [true, true, true, true, true, true, false, true, false] rfl rfl ?_
    refine J_st (R_move rfl) rfl (J_st (R_move rfl) rfl (J_st (R_move rfl) rfl (J_st (R_move rfl) rfl ?_)))
    have hi1 : k < xs.length := (by first | assumption | omega)
    obtain ⟨_, hr1, ha1⟩ := RdD.get hxs hi1
    obtain ⟨o1, rfl, hd1⟩ := Node.op hr1
    replace ha1 : At w (sblk vxs) (soff vxs + k * 4) [.int .i64 ((xs[k]'hi1).kind), .int .i64 ((xs[k]'hi1).a), .int .i64 ((xs[k]'hi1).b), o1] := ha1
    refine J_st (R_index (i := k) sl22 rfl rfl (hxs.ext E).1 hi1) rfl (J_st (R_loadS st119 rfl (ha1.ext E) rfl) rfl ?_)
    refine J_call Try.call72 rfl (c_toNode [.int .i64 ((xs[k]'hi1).kind), .int .i64 ((xs[k]'hi1).a), .int .i64 ((xs[k]'hi1).b), o1] (xs[k]'hi1) _ (Node.mkR (xs[k]'hi1) (RdD.any (hd1.ext E))) (by have := sum_le (f := cntNode) (show k < xs.length by omega); omega)) rfl (fun _ w3 e2 ho1 => ?_)
    obtain ⟨_, rfl, ho1⟩ := ho1
    have g_ho1 : w.heap.size ≤ w2.heap.size := E.size
    replace E := E.trans e2; replace h1 := h1.ext e2; replace hA := hA.ext e2
    have z3 := e2.size
    obtain ⟨o2, rfl, sp1, hw1⟩ := Node.opO ho1
    refine J_st (R_indexB sl33 rfl rfl (by first | assumption | omega)) rfl ?_
    refine J_storeS' (cs' := mkc (css ++ [[.int .i64 ((xs[k]'hi1).kind), .int .i64 ((xs[k]'hi1).a), .int .i64 ((xs[k]'hi1).b), o2]]) [.int .i64 0, .int .i64 0, .int .i64 0, .slice none 0 0] (xs.length - (k + 1))) st102 rfl rfl rfl (all_cons rfl (all_cons rfl (all_cons rfl (all_cons hw1.one rfl)))) h1 (mkc_room hA.d hlk rfl hc1n (by rfl)) (mkc_step hA.d hlk rfl hc1n rfl) (fun w4 m1 h1' => ?_)
    replace h1 := h1'
    replace E := E.step m1 (fun g hg => by cases hg; omega); replace hA := hA.mod m1 (fun g hg => by cases hg; omega); replace hw1 := hw1.mod m1 (fun g hg => by cases hg; omega)
    have z4 := m1.size
    refine J_done ?_
    refine S_nil (E_inB ?_)
    refine S_reg [true, true, true] rfl rfl ?_
    refine J_st (R_move rfl) rfl (J_st (R_add rfl rfl (add_one hc1n (hxs.ext E).1.1)) rfl (J_st (R_assign rfl) rfl (J_done ?_)))
    refine S_nil (E_again (k + 1, css ++ [[.int .i64 ((xs[k]'hi1).kind), .int .i64 ((xs[k]'hi1).a), .int .i64 ((xs[k]'hi1).b), o2]]) (by simp; omega) ⟨rfl, rfl, rfl, rfl, trivial⟩ ⟨E, (by omega), (by omega), (by simp [hlk]), h1, (AllO.widen (AllO.step hA hc1n (Node.mkO (xs[k]'hi1) sp1 (Own.widen hw1 (by omega) (by omega))) (Nat.le_refl _) (Nat.le_refl _) (by omega) (by omega)) (Nat.le_refl _) (by omega))⟩)
  · have hc1n : ¬ k < xs.length := by first | (have h := of_decide_eq_false hc1; omega) | (have h := hc1; simp at h; omega)
    refine S_exit (E_lp_exit (E_inB_exit ?_))
    refine S_seq ?_
    refine S_reg [true, true] rfl rfl ?_
    refine J_st (R_move rfl) rfl (J_st (R_assign rfl) rfl (J_done ?_))
    refine S_ret (E_done1 rfl rfl E ?_)
    obtain rfl : k = xs.length := by omega
    rw [Nat.sub_self, mkc_all] at h1
    rw [List.take_length] at hA
    exact OwS.ofBlk h1 hA (by have := E.size; omega) (by omega) (by have := E.size; omega) (by omega) (by omega) rfl (by unfold maxLen; omega)

set_option maxRecDepth 20000 in
theorem c_eqNodeS (vxs : Value) (xs : List Node) (vys : Value) (ys : List Node) (w : World) (hxs : RdD w 0 w.heap.size vxs xs) (hys : RdD w 0 w.heap.size vys ys) : Ct Try.prog 50 [vxs, vys] w (fun v _ => v = .bool (decide (xs = ys))) := by
  refine ct_of Try.func50 rfl Try.ntmps50 rfl ?_
  refine S_sub [(0, vxs), (1, vys)] ⟨rfl, rfl, trivial⟩ ?_
  have E : Ext w w := Ext.refl w
  refine S_seq ?_
  refine S_reg [true] rfl rfl ?_
  refine J_st (R_assign rfl) rfl (J_done ?_)
  refine S_seq ?_
  refine S_seq ?_
  refine S_reg [true, true, true, true, true] rfl rfl ?_
  refine J_st (R_move rfl) rfl (J_st (R_len Try.underlying33 rfl (hxs.ext E).len) rfl (J_st (R_move rfl) rfl (J_st (R_len Try.underlying33 rfl (hys.ext E).len) rfl (J_st (R_neq rfl rfl) rfl (J_done ?_)))))
  refine S_cond rfl (fun hc1 => ?_) (fun hc1 => ?_)
  · have hc1n : ¬ xs.length = ys.length := by first | (have h := of_decide_eq_true hc1; omega) | (have h := hc1; simp at h; omega)
    refine S_seq ?_
    refine S_reg [true] rfl rfl ?_
    refine J_st (R_assign rfl) rfl (J_done ?_)
    refine S_ret (E_done1 rfl rfl E ?_)
    simp [eq_len hc1n]
  · have hc1n : xs.length = ys.length := by first | (have h := of_decide_eq_false hc1; omega) | (have h := hc1; simp at h; omega)
    refine S_skip ?_
    refine S_seq ?_
    refine S_seq ?_
    refine S_reg [true] rfl rfl ?_
    refine J_st (R_assign rfl) rfl (J_done ?_)
    refine S_block ?_
    refine S_loop (fun (k : Nat) => [(0, vxs), (1, vys), (4, .bool false), (5, .int .i64 ((k : Nat) : Int))]) (fun (k : Nat) w' => Ext w w' ∧ w.heap.size ≤ w'.heap.size ∧ k ≤ xs.length ∧ xs.take k = ys.take k) (fun (k : Nat) => xs.length - k) 0 ⟨rfl, rfl, rfl, rfl, trivial⟩ ⟨E, Nat.le_refl _, Nat.zero_le _, rfl⟩ ?_
    clear E
    rintro k w1 ⟨E, z1, hk, hp⟩
    refine S_seq ?_
    refine S_seq ?_
    refine S_reg [true, true, true, true] rfl rfl ?_
    refine J_st (R_move rfl) rfl (J_st (R_move rfl) rfl (J_st (R_len Try.underlying33 rfl (hxs.ext E).len) rfl (J_st (R_lss rfl rfl) rfl (J_done ?_))))
    refine S_cond rfl (fun hc2 => ?_) (fun hc2 => ?_)
    · have hc2n : k < xs.length := by first | (have h := of_decide_eq_true hc2; omega) | (have h := hc2; simp at h; omega)
      refine S_skip ?_
      refine S_seq ?_
      refine S_block ?_
      refine S_seq ?_
      refine S_regD mixed [(0, true), (1, true), (2, true), (3, true), (4, true), (5, true), (6, true), (7, true), (8, false), (9, true)] (by decide +kernel) rfl (fun w2 e1 => ?_)
      replace E := E.trans e1
      have z2 := e1.size
      refine J_st (R_move rfl) rfl (J_st (R_move rfl) rfl ?_)
      have hi1 : k < xs.length := (by first | assumption | omega)
      obtain ⟨_, hr1, ha1⟩ := RdD.get hxs hi1
      obtain ⟨o1, rfl, hd1⟩ := Node.op hr1
      replace ha1 : At w (sblk vxs) (soff vxs + k * 4) [.int .i64 ((xs[k]'hi1).kind), .int .i64 ((xs[k]'hi1).a), .int .i64 ((xs[k]'hi1).b), o1] := ha1
      refine J_st (R_index (i := k) sl33 rfl rfl (hxs.ext E).1 hi1) rfl (J_st (R_loadS st102 rfl (ha1.ext E) rfl) rfl (J_st (R_move rfl) rfl (J_st (R_move rfl) rfl ?_)))
      have hi2 : k < ys.length := (by first | assumption | omega)
      obtain ⟨_, hr2, ha2⟩ := RdD.get hys hi2
      obtain ⟨o2, rfl, hd2⟩ := Node.op hr2
      replace ha2 : At w (sblk vys) (soff vys + k * 4) [.int .i64 ((ys[k]'hi2).kind), .int .i64 ((ys[k]'hi2).a), .int .i64 ((ys[k]'hi2).b), o2] := ha2
      refine J_st (R_index (i := k) sl33 rfl rfl (hys.ext E).1 hi2) rfl (J_st (R_loadS st102 rfl (ha2.ext E) rfl) rfl ?_)
      refine J_call Try.call78 rfl (c_eqNode [.int .i64 ((xs[k]'hi1).kind), .int .i64 ((xs[k]'hi1).a), .int .i64 ((xs[k]'hi1).b), o1] (xs[k]'hi1) [.int .i64 ((ys[k]'hi2).kind), .int .i64 ((ys[k]'hi2).a), .int .i64 ((ys[k]'hi2).b), o2] (ys[k]'hi2) _ (Node.mkR (xs[k]'hi1) (RdD.any (hd1.ext E))) (Node.mkR (ys[k]'hi2) (RdD.any (hd2.ext E)))) rfl (fun _ w3 e2 hv => ?_)
      subst hv
      replace E := E.trans e2
      have z3 := e2.size
      refine J_st (R_not rfl) rfl (J_done ?_)
      refine S_cond rfl (fun hc3 => ?_) (fun hc3 => ?_)
      · refine S_seq ?_
        refine S_reg [true] rfl rfl ?_
        refine J_st (R_assign rfl) rfl (J_done ?_)
        refine S_ret (E_inB_ret (E_lp_ret (E_inB_ret (E_done1 rfl rfl E ?_))))
        exact eqS_no (by omega) (by omega) (by simpa using hc3)
      · refine S_skip ?_
        refine S_nil (E_inB ?_)
        refine S_reg [true, true, true] rfl rfl ?_
        refine J_st (R_move rfl) rfl (J_st (R_add rfl rfl (add_one hc2n (hxs.ext E).1.1)) rfl (J_st (R_assign rfl) rfl (J_done ?_)))
        refine S_nil (E_again (k + 1) (by omega) ⟨rfl, rfl, rfl, rfl, trivial⟩ ⟨E, (by omega), (by omega), eqS_step hp (by assumption) (by omega) (by simpa using hc3)⟩)
    · have hc2n : ¬ k < xs.length := by first | (have h := of_decide_eq_false hc2; omega) | (have h := hc2; simp at h; omega)
      refine S_exit (E_lp_exit (E_inB_exit ?_))
      refine S_seq ?_
      refine S_reg [true] rfl rfl ?_
      refine J_st (R_assign rfl) rfl (J_done ?_)
      refine S_ret (E_done1 rfl rfl E ?_)
      exact eqS_yes hp hc1n (by omega)

set_option maxRecDepth 20000 in
theorem c_szGraph (cx : List Value) (x : Graph) (n : Int) (w : World) (hx : Dat.R w 0 w.heap.size cx x) (h0 : 0 ≤ n ∧ n ≤ 1048576) : Ct Try.prog 15 [.agg cx.toArray, .int .i64 n] w (fun v _ => v = .int .i64 (szM (cntGraph x) n)) := by
  refine ct_of Try.func15 rfl Try.ntmps15 rfl ?_
  obtain ⟨o1, rfl, hd1⟩ := Graph.op hx
  refine S_sub [(0, .agg [o1, .int .i64 x.workers, .int .i64 x.cap].toArray), (1, .int .i64 n)] ⟨rfl, rfl, trivial⟩ ?_
  have E : Ext w w := Ext.refl w
  refine S_seq ?_
  refine S_reg [false, true] rfl rfl ?_
  refine J_box rfl rfl (fun b1 w1 e1 s1 h1 => ?_)
  have g_b1 : w.heap.size ≤ b1 := by have := E.size; omega
  have y_b1 := h1.lt
  replace E := E.trans e1
  have z1 := e1.size
  refine J_st (R_assign rfl) rfl (J_done ?_)
  refine S_seq ?_
  refine S_reg [true, true, true, false, true] rfl rfl ?_
  refine J_st (R_fieldAddr0 fl24_0 rfl) rfl (J_st (R_load sc22 rfl (h1.one 0 rfl)) rfl (J_st (R_move rfl) rfl ?_))
  refine J_call Try.call42 rfl (c_szNodeS o1 x.nodes n _ (RdD.any (hd1.ext E)) (by first | omega | (simp only [mkL_length]; omega) | (rw [mkL_length]))) rfl (fun _ w2 e2 hv => ?_)
  subst hv
  replace E := E.trans e2; replace h1 := h1.ext e2
  have z2 := e2.size
  refine J_st (R_assign rfl) rfl (J_done ?_)
  refine S_seq ?_
  refine S_seq ?_
  refine S_reg [true, true] rfl rfl ?_
  refine J_st (R_move rfl) rfl (J_st (R_lss rfl rfl) rfl (J_done ?_))
  refine S_cond rfl (fun hc1 => ?_) (fun hc1 => ?_)
  · have q1 := szM_no hc1 (by omega)
    refine S_seq ?_
    refine S_reg [true] rfl rfl ?_
    refine J_st (R_assign rfl) rfl (J_done ?_)
    refine S_ret (E_done1 rfl rfl E ?_)
    first | exact sz_neg (by unfold cntGraph; omega) | exact sz_fin (by unfold cntGraph; omega) (by unfold cntGraph; omega)
  · have q2 := szM_ok hc1 (by omega)
    refine S_skip ?_
    refine S_seq ?_
    refine S_reg [true, true] rfl rfl ?_
    refine J_st (R_move rfl) rfl (J_st (R_assign rfl) rfl (J_done ?_))
    refine S_ret (E_done1 rfl rfl E ?_)
    first | exact sz_neg (by unfold cntGraph; omega) | exact sz_fin (by unfold cntGraph; omega) (by unfold cntGraph; omega)

set_option maxRecDepth 20000 in
theorem c_eqGraph (cx : List Value) (x : Graph) (cy : List Value) (y : Graph) (w : World) (hx : Dat.R w 0 w.heap.size cx x) (hy : Dat.R w 0 w.heap.size cy y) : Ct Try.prog 25 [.agg cx.toArray, .agg cy.toArray] w (fun v _ => v = .bool (decide (x = y))) := by
  refine ct_of Try.func25 rfl Try.ntmps25 rfl ?_
  obtain ⟨o1, rfl, hd1⟩ := Graph.op hx
  obtain ⟨o2, rfl, hd2⟩ := Graph.op hy
  refine S_sub [(0, .agg [o1, .int .i64 x.workers, .int .i64 x.cap].toArray), (1, .agg [o2, .int .i64 y.workers, .int .i64 y.cap].toArray)] ⟨rfl, rfl, trivial⟩ ?_
  have E : Ext w w := Ext.refl w
  refine S_seq ?_
  refine S_reg [false, false, true] rfl rfl ?_
  refine J_box rfl rfl (fun b1 w1 e1 s1 h1 => ?_)
  have g_b1 : w.heap.size ≤ b1 := by have := E.size; omega
  have y_b1 := h1.lt
  replace E := E.trans e1
  have z1 := e1.size
  refine J_box rfl rfl (fun b2 w2 e2 s2 h2 => ?_)
  have g_b2 : w.heap.size ≤ b2 := by have := E.size; omega
  have y_b2 := h2.lt
  replace E := E.trans e2; replace h1 := h1.ext e2
  have z2 := e2.size
  refine J_st (R_assign rfl) rfl (J_done ?_)
  refine S_seq ?_
  refine S_seq ?_
  refine S_reg [true, true, true, true, false, true] rfl rfl ?_
  refine J_st (R_fieldAddr0 fl35_0 rfl) rfl (J_st (R_load sc33 rfl (h1.one 0 rfl)) rfl (J_st (R_fieldAddr0 fl35_0 rfl) rfl (J_st (R_load sc33 rfl (h2.one 0 rfl)) rfl ?_)))
  refine J_call Try.call50 rfl (c_eqNodeS o1 x.nodes o2 y.nodes _ (RdD.any (hd1.ext E)) (RdD.any (hd2.ext E))) rfl (fun _ w3 e3 hv => ?_)
  subst hv
  replace E := E.trans e3; replace h1 := h1.ext e3; replace h2 := h2.ext e3
  have z3 := e3.size
  refine J_st (R_not rfl) rfl (J_done ?_)
  refine S_cond rfl (fun hc1 => ?_) (fun hc1 => ?_)
  · refine S_seq ?_
    refine S_reg [true] rfl rfl ?_
    refine J_st (R_assign rfl) rfl (J_done ?_)
    refine S_ret (E_done1 rfl rfl E ?_)
    cases x; cases y; simp_all
  · refine S_skip ?_
    refine S_seq ?_
    refine S_seq ?_
    refine S_reg [true, true, true, true, true] rfl rfl ?_
    refine J_st (R_fieldAddr0 fl35_1 rfl) rfl (J_st (R_load sc3 rfl (h1.one 1 rfl)) rfl (J_st (R_fieldAddr0 fl35_1 rfl) rfl (J_st (R_load sc3 rfl (h2.one 1 rfl)) rfl (J_st (R_neq rfl rfl) rfl (J_done ?_)))))
    refine S_cond rfl (fun hc2 => ?_) (fun hc2 => ?_)
    · refine S_seq ?_
      refine S_reg [true] rfl rfl ?_
      refine J_st (R_assign rfl) rfl (J_done ?_)
      refine S_ret (E_done1 rfl rfl E ?_)
      cases x; cases y; simp_all
    · refine S_skip ?_
      refine S_seq ?_
      refine S_seq ?_
      refine S_reg [true, true, true, true, true] rfl rfl ?_
      refine J_st (R_fieldAddr0 fl35_2 rfl) rfl (J_st (R_load sc3 rfl (h1.one 2 rfl)) rfl (J_st (R_fieldAddr0 fl35_2 rfl) rfl (J_st (R_load sc3 rfl (h2.one 2 rfl)) rfl (J_st (R_neq rfl rfl) rfl (J_done ?_)))))
      refine S_cond rfl (fun hc3 => ?_) (fun hc3 => ?_)
      · refine S_seq ?_
        refine S_reg [true] rfl rfl ?_
        refine J_st (R_assign rfl) rfl (J_done ?_)
        refine S_ret (E_done1 rfl rfl E ?_)
        cases x; cases y; simp_all
      · refine S_skip ?_
        refine S_seq ?_
        refine S_reg [true] rfl rfl ?_
        refine J_st (R_assign rfl) rfl (J_done ?_)
        refine S_ret (E_done1 rfl rfl E ?_)
        cases x; cases y; simp_all

set_option maxRecDepth 20000 in
theorem c_toGraph (cx : List Value) (x : Graph) (w : World) (hx : Dat.R w 0 w.heap.size cx x) (hb : cntGraph x ≤ 1048576) : Ct Try.prog 20 [.agg cx.toArray] w (fun v w' => ∃ o, v = .agg [o, .int .i64 x.workers, .int .i64 x.cap].toArray ∧ OwS w' w.heap.size w'.heap.size o x.nodes) := by
  unfold cntGraph at hb
  refine ct_of Try.func20 rfl Try.ntmps20 rfl ?_
  obtain ⟨o1, rfl, hd1⟩ := Graph.op hx
  refine S_sub [(0, .agg [o1, .int .i64 x.workers, .int .i64 x.cap].toArray)] ⟨rfl, trivial⟩ ?_
  have E : Ext w w := Ext.refl w
  refine S_seq ?_
  refine S_reg [false, false] rfl rfl ?_
  refine J_box rfl rfl (fun b1 w1 e1 s1 h1 => ?_)
  have g_b1 : w.heap.size ≤ b1 := by have := E.size; omega
  have y_b1 := h1.lt
  replace E := E.trans e1
  have z1 := e1.size
  refine J_alloc st35 rfl (fun b2 w2 e2 s2 h2 => ?_)
  have g_b2 : w.heap.size ≤ b2 := by have := E.size; omega
  have y_b2 := h2.lt
  replace E := E.trans e2; replace h1 := h1.ext e2
  have z2 := e2.size
  refine J_done ?_
  refine S_seq ?_
  refine S_reg [false] rfl rfl ?_
  refine J_alloc st35 rfl (fun b3 w3 e3 s3 h3 => ?_)
  have g_b3 : w.heap.size ≤ b3 := by have := E.size; omega
  have y_b3 := h3.lt
  replace E := E.trans e3; replace h1 := h1.ext e3; replace h2 := h2.ext e3
  have z3 := e3.size
  refine J_done ?_
  refine S_seq ?_
  refine S_reg [true, true, false, true, false] rfl rfl ?_
  refine J_st (R_fieldAddr0 fl24_0 rfl) rfl (J_st (R_load sc22 rfl (h1.one 0 rfl)) rfl ?_)
  refine J_call Try.call45 rfl (c_toNodeS o1 x.nodes _ (RdD.any (hd1.ext E)) (by first | omega | (simp only [mkL_length]; omega) | (rw [mkL_length]))) rfl (fun v1 w4 e4 ho1 => ?_)
  have g_ho1 : w.heap.size ≤ w3.heap.size := E.size
  replace E := E.trans e4; replace h1 := h1.ext e4; replace h2 := h2.ext e4; replace h3 := h3.ext e4
  have z4 := e4.size
  refine J_st (R_fieldAddr0 fl35_0 rfl) rfl ?_
  refine J_store' (cs' := [v1, .int .i64 0, .int .i64 0]) sc33 rfl rfl (RdD.one (OwS.rd ho1)) h3 (Nat.le_of_ble_eq_true rfl) rfl (fun w5 m1 h3' => ?_)
  replace h3 := h3'
  replace E := E.step m1 (fun g hg => by cases hg; omega); replace h1 := h1.mod m1 (fun g hg => by cases hg; omega); replace h2 := h2.mod m1 (fun g hg => by cases hg; omega); replace ho1 := ho1.mod m1 (fun g hg => by cases hg; omega)
  have z5 := m1.size
  refine J_done ?_
  refine S_seq ?_
  refine S_reg [true, true, true, false] rfl rfl ?_
  refine J_st (R_fieldAddr0 fl24_1 rfl) rfl (J_st (R_load sc3 rfl (h1.one 1 rfl)) rfl (J_st (R_fieldAddr0 fl35_1 rfl) rfl ?_))
  refine J_store' (cs' := [v1, .int .i64 x.workers, .int .i64 0]) sc3 rfl rfl rfl h3 (Nat.le_of_ble_eq_true rfl) rfl (fun w6 m2 h3' => ?_)
  replace h3 := h3'
  replace E := E.step m2 (fun g hg => by cases hg; omega); replace h1 := h1.mod m2 (fun g hg => by cases hg; omega); replace h2 := h2.mod m2 (fun g hg => by cases hg; omega); replace ho1 := ho1.mod m2 (fun g hg => by cases hg; omega)
  have z6 := m2.size
  refine J_done ?_
  refine S_seq ?_
  refine S_reg [true, true, true, false] rfl rfl ?_
  refine J_st (R_fieldAddr0 fl24_2 rfl) rfl (J_st (R_load sc3 rfl (h1.one 2 rfl)) rfl (J_st (R_fieldAddr0 fl35_2 rfl) rfl ?_))
  refine J_store' (cs' := [v1, .int .i64 x.workers, .int .i64 x.cap]) sc3 rfl rfl rfl h3 (Nat.le_of_ble_eq_true rfl) rfl (fun w7 m3 h3' => ?_)
  replace h3 := h3'
  replace E := E.step m3 (fun g hg => by cases hg; omega); replace h1 := h1.mod m3 (fun g hg => by cases hg; omega); replace h2 := h2.mod m3 (fun g hg => by cases hg; omega); replace ho1 := ho1.mod m3 (fun g hg => by cases hg; omega)
  have z7 := m3.size
  refine J_done ?_
  refine S_seq ?_
  refine S_reg [true, false] rfl rfl ?_
  refine J_st (R_loadS st35 rfl h3.at rfl) rfl ?_
  refine J_storeS' (cs' := [v1, .int .i64 x.workers, .int .i64 x.cap]) st35 rfl rfl rfl (all_cons (RdD.one (OwS.rd ho1)) (all_cons rfl (all_cons rfl rfl))) h2 (Nat.le_of_ble_eq_true rfl) rfl (fun w8 m4 h2' => ?_)
  replace h2 := h2'
  replace E := E.step m4 (fun g hg => by cases hg; omega); replace h1 := h1.mod m4 (fun g hg => by cases hg; omega); replace h3 := h3.mod m4 (fun g hg => by cases hg; omega); replace ho1 := ho1.mod m4 (fun g hg => by cases hg; omega)
  have z8 := m4.size
  refine J_done ?_
  refine S_ret (E_doneC rfl rfl (run_loadVar_st st35 h2.at rfl) E ?_)
  exact ⟨_, rfl, OwS.widen ho1 (by have := E.size; omega) (by omega)⟩

set_option maxRecDepth 20000 in
theorem c_slicesEqual (vxs : Value) (xs : List Int) (vys : Value) (ys : List Int) (w : World) (hxs : RdS w vxs xs) (hys : RdS w vys ys) : Ct Try.prog 63 [vxs, vys] w (fun v _ => v = .bool (decide (xs = ys))) := by
  refine ct_of Try.func63 rfl Try.ntmps63 rfl ?_
  refine S_sub [(0, vxs), (1, vys)] ⟨rfl, rfl, trivial⟩ ?_
  have E : Ext w w := Ext.refl w
  refine S_seq ?_
  refine S_reg [true] rfl rfl ?_
  refine J_st (R_assign rfl) rfl (J_done ?_)
  refine S_seq ?_
  refine S_seq ?_
  refine S_reg [true, true, true, true, true] rfl rfl ?_
  refine J_st (R_move rfl) rfl (J_st (R_len Try.underlying68 rfl (hxs.ext E).len) rfl (J_st (R_move rfl) rfl (J_st (R_len Try.underlying68 rfl (hys.ext E).len) rfl (J_st (R_neq rfl rfl) rfl (J_done ?_)))))
  refine S_cond rfl (fun hc1 => ?_) (fun hc1 => ?_)
  · have hc1n : ¬ xs.length = ys.length := by first | (have h := of_decide_eq_true hc1; omega) | (have h := hc1; simp at h; omega)
    refine S_seq ?_
    refine S_reg [true] rfl rfl ?_
    refine J_st (R_assign rfl) rfl (J_done ?_)
    refine S_ret (E_done1 rfl rfl E ?_)
    simp [eq_len hc1n]
  · have hc1n : xs.length = ys.length := by first | (have h := of_decide_eq_false hc1; omega) | (have h := hc1; simp at h; omega)
    refine S_skip ?_
    refine S_seq ?_
    refine S_seq ?_
    refine S_reg [true, true, true] rfl rfl ?_
    refine J_st (R_move rfl) rfl (J_st (R_len Try.underlying68 rfl (hxs.ext E).len) rfl (J_st (R_move rfl) rfl (J_done ?_)))
    refine S_block ?_
    refine S_loop (fun (k : Nat) => [(0, vxs), (1, vys), (4, .bool false), (12, .int .i64 ((xs.length : Nat) : Int)), (13, .int .i64 ((k : Nat) : Int))]) (fun (k : Nat) w' => Ext w w' ∧ w.heap.size ≤ w'.heap.size ∧ k ≤ xs.length ∧ xs.take k = ys.take k) (fun (k : Nat) => xs.length - k) 0 ⟨rfl, rfl, rfl, rfl, rfl, trivial⟩ ⟨E, Nat.le_refl _, Nat.zero_le _, rfl⟩ ?_
    clear E
    rintro k w1 ⟨E, z1, hk, hp⟩
    refine S_seq ?_
    refine S_reg [true] rfl rfl ?_
    refine J_st (R_lss rfl rfl) rfl (J_done ?_)
    refine S_seq ?_
    refine S_cond rfl (fun hc2 => ?_) (fun hc2 => ?_)
    · have hc2n : k < xs.length := by first | (have h := of_decide_eq_true hc2; omega) | (have h := hc2; simp at h; omega)
      refine S_skip ?_
      refine S_seq ?_
      refine S_block ?_
      refine S_seq ?_
      refine S_reg [true, true] rfl rfl ?_
      refine J_st (R_move rfl) rfl (J_st (R_assign rfl) rfl (J_done ?_))
      refine S_seq ?_
      refine S_regD mixed [(0, true), (1, true), (2, true), (3, true), (4, true), (5, true), (6, true), (7, true), (8, true)] (by decide +kernel) rfl (fun w2 e1 => ?_)
      replace E := E.trans e1
      have z2 := e1.size
      refine J_st (R_move rfl) rfl (J_st (R_move rfl) rfl ?_)
      have hi1 : k < xs.length := (by first | assumption | omega)
      refine J_st (R_index (i := k) sl68 rfl rfl (hxs.ext E) hi1) rfl (J_st (R_load sc3 rfl (((hxs.ext E).get hi1).one 0 rfl)) rfl (J_st (R_move rfl) rfl (J_st (R_move rfl) rfl ?_)))
      have hi2 : k < ys.length := (by first | assumption | omega)
      refine J_st (R_index (i := k) sl68 rfl rfl (hys.ext E) hi2) rfl (J_st (R_load sc3 rfl (((hys.ext E).get hi2).one 0 rfl)) rfl (J_st (R_neq rfl rfl) rfl (J_done ?_)))
      refine S_cond rfl (fun hc3 => ?_) (fun hc3 => ?_)
      · refine S_seq ?_
        refine S_reg [true] rfl rfl ?_
        refine J_st (R_assign rfl) rfl (J_done ?_)
        refine S_ret (E_inB_ret (E_lp_ret (E_inB_ret (E_done1 rfl rfl E ?_))))
        exact eqS_no (by omega) (by omega) (by simpa using hc3)
      · refine S_skip ?_
        refine S_nil (E_inB ?_)
        refine S_reg [true, true] rfl rfl ?_
        refine J_st (R_add rfl rfl (add_one hc2n hxs.1)) rfl (J_st (R_move rfl) rfl (J_done ?_))
        refine S_nil (E_again (k + 1) (by omega) ⟨rfl, rfl, rfl, rfl, rfl, trivial⟩ ⟨E, (by omega), (by omega), eqS_step hp (by assumption) (by omega) (by simpa using hc3)⟩)
    · have hc2n : ¬ k < xs.length := by first | (have h := of_decide_eq_false hc2; omega) | (have h := hc2; simp at h; omega)
      refine S_exit (E_lp_exit (E_inB_exit ?_))
      refine S_seq ?_
      refine S_reg [true] rfl rfl ?_
      refine J_st (R_assign rfl) rfl (J_done ?_)
      refine S_ret (E_done1 rfl rfl E ?_)
      exact eqS_yes hp hc1n (by omega)

set_option maxRecDepth 20000 in
theorem s_l08Ints (vxs : Value) (xs : List Int) (vys : Value) (ys : List Int) (w : World) (hxs : RdS w vxs xs) (hys : RdS w vys ys) : Ct Try.prog 55 [vxs, vys] w (fun v _ => v = .bool (decide (xs = ys))) := by
  refine ct_of Try.func55 rfl Try.ntmps55 rfl ?_
  refine S_sub [(0, vxs), (1, vys)] ⟨rfl, rfl, trivial⟩ ?_
  have E : Ext w w := Ext.refl w
  refine S_seq ?_
  refine S_reg [true] rfl rfl ?_
  refine J_st (R_assign rfl) rfl (J_done ?_)
  refine S_seq ?_
  refine S_seq ?_
  refine S_reg [true, true, true, true, true] rfl rfl ?_
  refine J_st (R_move rfl) rfl (J_st (R_len Try.underlying68 rfl (hxs.ext E).len) rfl (J_st (R_move rfl) rfl (J_st (R_len Try.underlying68 rfl (hys.ext E).len) rfl (J_st (R_neq rfl rfl) rfl (J_done ?_)))))
  refine S_cond rfl (fun hc1 => ?_) (fun hc1 => ?_)
  · have hc1n : ¬ xs.length = ys.length := by first | (have h := of_decide_eq_true hc1; omega) | (have h := hc1; simp at h; omega)
    refine S_seq ?_
    refine S_reg [true] rfl rfl ?_
    refine J_st (R_assign rfl) rfl (J_done ?_)
    refine S_ret (E_done1 rfl rfl E ?_)
    simp [eq_len hc1n]
  · have hc1n : xs.length = ys.length := by first | (have h := of_decide_eq_false hc1; omega) | (have h := hc1; simp at h; omega)
    refine S_skip ?_
    refine S_seq ?_
    refine S_seq ?_
    refine S_reg [true] rfl rfl ?_
    refine J_st (R_assign rfl) rfl (J_done ?_)
    refine S_block ?_
    refine S_loop (fun (k : Nat) => [(0, vxs), (1, vys), (4, .bool false), (5, .int .i64 ((k : Nat) : Int))]) (fun (k : Nat) w' => Ext w w' ∧ w.heap.size ≤ w'.heap.size ∧ k ≤ xs.length ∧ xs.take k = ys.take k) (fun (k : Nat) => xs.length - k) 0 ⟨rfl, rfl, rfl, rfl, trivial⟩ ⟨E, Nat.le_refl _, Nat.zero_le _, rfl⟩ ?_
    clear E
    rintro k w1 ⟨E, z1, hk, hp⟩
    refine S_seq ?_
    refine S_seq ?_
    refine S_reg [true, true, true, true] rfl rfl ?_
    refine J_st (R_move rfl) rfl (J_st (R_move rfl) rfl (J_st (R_len Try.underlying68 rfl (hxs.ext E).len) rfl (J_st (R_lss rfl rfl) rfl (J_done ?_))))
    refine S_cond rfl (fun hc2 => ?_) (fun hc2 => ?_)
    · have hc2n : k < xs.length := by first | (have h := of_decide_eq_true hc2; omega) | (have h := hc2; simp at h; omega)
      refine S_skip ?_
      refine S_seq ?_
      refine S_block ?_
      refine S_seq ?_
      refine S_regD mixed [(0, true), (1, true), (2, true), (3, true), (4, true), (5, true), (6, true), (7, true), (8, true)] (by decide +kernel) rfl (fun w2 e1 => ?_)
      replace E := E.trans e1
      have z2 := e1.size
      refine J_st (R_move rfl) rfl (J_st (R_move rfl) rfl ?_)
      have hi1 : k < xs.length := (by first | assumption | omega)
      refine J_st (R_index (i := k) sl68 rfl rfl (hxs.ext E) hi1) rfl (J_st (R_load sc3 rfl (((hxs.ext E).get hi1).one 0 rfl)) rfl (J_st (R_move rfl) rfl (J_st (R_move rfl) rfl ?_)))
      have hi2 : k < ys.length := (by first | assumption | omega)
      refine J_st (R_index (i := k) sl68 rfl rfl (hys.ext E) hi2) rfl (J_st (R_load sc3 rfl (((hys.ext E).get hi2).one 0 rfl)) rfl (J_st (R_neq rfl rfl) rfl (J_done ?_)))
      refine S_cond rfl (fun hc3 => ?_) (fun hc3 => ?_)
      · refine S_seq ?_
        refine S_reg [true] rfl rfl ?_
        refine J_st (R_assign rfl) rfl (J_done ?_)
        refine S_ret (E_inB_ret (E_lp_ret (E_inB_ret (E_done1 rfl rfl E ?_))))
        exact eqS_no (by omega) (by omega) (by simpa using hc3)
      · refine S_skip ?_
        refine S_nil (E_inB ?_)
        refine S_reg [true, true, true] rfl rfl ?_
        refine J_st (R_move rfl) rfl (J_st (R_add rfl rfl (add_one hc2n hxs.1)) rfl (J_st (R_assign rfl) rfl (J_done ?_)))
        refine S_nil (E_again (k + 1) (by omega) ⟨rfl, rfl, rfl, rfl, trivial⟩ ⟨E, (by omega), (by omega), eqS_step hp (by assumption) (by omega) (by simpa using hc3)⟩)
    · have hc2n : ¬ k < xs.length := by first | (have h := of_decide_eq_false hc2; omega) | (have h := hc2; simp at h; omega)
      refine S_exit (E_lp_exit (E_inB_exit ?_))
      refine S_seq ?_
      refine S_reg [true] rfl rfl ?_
      refine J_st (R_assign rfl) rfl (J_done ?_)
      refine S_ret (E_done1 rfl rfl E ?_)
      exact eqS_yes hp hc1n (by omega)

set_option maxRecDepth 20000 in
theorem c_sameNode (cx : List Value) (x : Node) (cy : List Value) (y : Node) (w : World) (hx : Dat.R w 0 w.heap.size cx x) (hy : Dat.R w 0 w.heap.size cy y) : Ct Try.prog 60 [.agg cx.toArray, .agg cy.toArray] w (fun v _ => v = .bool (decide (x = y))) := by
  refine ct_of Try.func60 rfl Try.ntmps60 rfl ?_
  obtain ⟨o1, rfl, hd1⟩ := Node.op hx
  obtain ⟨o2, rfl, hd2⟩ := Node.op hy
  refine S_sub [(0, .agg [.int .i64 x.kind, .int .i64 x.a, .int .i64 x.b, o1].toArray), (1, .agg [.int .i64 y.kind, .int .i64 y.a, .int .i64 y.b, o2].toArray)] ⟨rfl, rfl, trivial⟩ ?_
  have E : Ext w w := Ext.refl w
  refine S_seq ?_
  refine S_reg [false, false, true] rfl rfl ?_
  refine J_box rfl rfl (fun b1 w1 e1 s1 h1 => ?_)
  have g_b1 : w.heap.size ≤ b1 := by have := E.size; omega
  have y_b1 := h1.lt
  replace E := E.trans e1
  have z1 := e1.size
  refine J_box rfl rfl (fun b2 w2 e2 s2 h2 => ?_)
  have g_b2 : w.heap.size ≤ b2 := by have := E.size; omega
  have y_b2 := h2.lt
  replace E := E.trans e2; replace h1 := h1.ext e2
  have z2 := e2.size
  refine J_st (R_assign rfl) rfl (J_done ?_)
  refine S_seq ?_
  refine S_reg [true, true, true, true, true, true, true, true, true, true, true, true, true, true, true, true, true, true, true, true, true, true, true, true, false, true, true] rfl rfl ?_
  refine J_st (R_fieldAddr0 fl102_0 rfl) rfl (J_st (R_load sc3 rfl (h1.one 0 rfl)) rfl (J_st (R_fieldAddr0 fl102_0 rfl) rfl (J_st (R_load sc3 rfl (h2.one 0 rfl)) rfl (J_st (R_eql rfl rfl) rfl (J_st (R_move rfl) rfl ?_)))))
  refine J_cut 20 [(0, .agg [.int .i64 x.kind, .int .i64 x.a, .int .i64 x.b, o1].toArray), (1, .agg [.int .i64 y.kind, .int .i64 y.a, .int .i64 y.b, o2].toArray), (2, .pointer (some ⟨b1, 0, none⟩)), (3, .pointer (some ⟨b2, 0, none⟩)), (4, .bool false), (30, .bool ((((x.kind == y.kind) && (x.a == y.a)) && (x.b == y.b)) && (decide (x.outs = y.outs))))] (fun w' => Ext w w' ∧ w2.heap.size ≤ w'.heap.size ∧ Blk w' b1 ([.int .i64 x.kind, .int .i64 x.a, .int .i64 x.b, o1]) ∧ Blk w' b2 ([.int .i64 y.kind, .int .i64 y.a, .int .i64 y.b, o2])) ?_ ?_
  · refine J_if (gd := 10) rfl rfl (fun hg1 => ?_) (fun hg1 => ?_)
    · refine J_gd rfl rfl (R_fieldAddr0 fl102_1 rfl) rfl (J_gd rfl rfl (R_load sc3 rfl (h1.one 1 rfl)) rfl (J_gd rfl rfl (R_fieldAddr0 fl102_1 rfl) rfl (J_gd rfl rfl (R_load sc3 rfl (h2.one 1 rfl)) rfl (J_gd rfl rfl (R_eql rfl rfl) rfl (J_st (R_pickT rfl rfl) rfl (J_st (R_move rfl) rfl ?_))))))
      refine J_if (gd := 17) rfl rfl (fun hg2 => ?_) (fun hg2 => ?_)
      · refine J_gd rfl rfl (R_fieldAddr0 fl102_2 rfl) rfl (J_gd rfl rfl (R_load sc3 rfl (h1.one 2 rfl)) rfl (J_gd rfl rfl (R_fieldAddr0 fl102_2 rfl) rfl (J_gd rfl rfl (R_load sc3 rfl (h2.one 2 rfl)) rfl (J_gd rfl rfl (R_eql rfl rfl) rfl (J_st (R_pickT rfl rfl) rfl (J_st (R_move rfl) rfl ?_))))))
        refine J_if (gd := 24) rfl rfl (fun hg3 => ?_) (fun hg3 => ?_)
        · refine J_gd rfl rfl (R_fieldAddr0 fl102_3 rfl) rfl (J_gd rfl rfl (R_load sc68 rfl (h1.one 3 rfl)) rfl (J_gd rfl rfl (R_fieldAddr0 fl102_3 rfl) rfl (J_gd rfl rfl (R_load sc68 rfl (h2.one 3 rfl)) rfl ?_)))
          refine J_ung rfl rfl ?_
          refine J_call Try.call63 rfl (c_slicesEqual o1 x.outs o2 y.outs _ (hd1.rd.ext E) (hd2.rd.ext E)) rfl (fun _ w4 e3 hv => ?_)
          subst hv
          replace E := E.trans e3; replace h1 := h1.ext e3; replace h2 := h2.ext e3
          have z3 := e3.size
          refine J_st (R_pickT rfl rfl) rfl (J_cutEnd ⟨rfl, rfl, rfl, rfl, rfl, congrArg (fun b => some (Value.bool b)) (show (decide (x.outs = y.outs)) = ((((x.kind == y.kind) && (x.a == y.a)) && (x.b == y.b)) && (decide (x.outs = y.outs))) by first | (rw [hg1, hg2, hg3] <;> rfl) | (simp [hg1, hg2, hg3]; done) | (simp only [nat_nlt] <;> simp)), trivial⟩ ⟨E, (by omega), h1, h2⟩)
        · refine J_gdno rfl rfl rfl rfl (J_gdno rfl rfl rfl rfl (J_gdno rfl rfl rfl rfl (J_gdno rfl rfl rfl rfl ?_)))
          refine J_ungno rfl rfl rfl rfl ?_
          refine J_st (R_pickF rfl rfl) rfl (J_cutEnd ⟨rfl, rfl, rfl, rfl, rfl, congrArg (fun b => some (Value.bool b)) (show false = ((((x.kind == y.kind) && (x.a == y.a)) && (x.b == y.b)) && (decide (x.outs = y.outs))) by first | (rw [hg1, hg2, hg3] <;> rfl) | (simp [hg1, hg2, hg3]; done) | (simp only [nat_nlt] <;> simp)), trivial⟩ ⟨E, (by omega), h1, h2⟩)
      · refine J_gdno rfl rfl rfl rfl (J_gdno rfl rfl rfl rfl (J_gdno rfl rfl rfl rfl (J_gdno rfl rfl rfl rfl (J_gdno rfl rfl rfl rfl (J_st (R_pickF rfl rfl) rfl (J_st (R_move rfl) rfl (J_gdno rfl rfl rfl rfl (J_gdno rfl rfl rfl rfl (J_gdno rfl rfl rfl rfl (J_gdno rfl rfl rfl rfl ?_))))))))))
        refine J_ungno rfl rfl rfl rfl ?_
        refine J_st (R_pickF rfl rfl) rfl (J_cutEnd ⟨rfl, rfl, rfl, rfl, rfl, congrArg (fun b => some (Value.bool b)) (show false = ((((x.kind == y.kind) && (x.a == y.a)) && (x.b == y.b)) && (decide (x.outs = y.outs))) by first | (rw [hg1, hg2] <;> rfl) | (simp [hg1, hg2]; done) | (simp only [nat_nlt] <;> simp)), trivial⟩ ⟨E, (by omega), h1, h2⟩)
    · refine J_gdno rfl rfl rfl rfl (J_gdno rfl rfl rfl rfl (J_gdno rfl rfl rfl rfl (J_gdno rfl rfl rfl rfl (J_gdno rfl rfl rfl rfl (J_st (R_pickF rfl rfl) rfl (J_st (R_move rfl) rfl (J_gdno rfl rfl rfl rfl (J_gdno rfl rfl rfl rfl (J_gdno rfl rfl rfl rfl (J_gdno rfl rfl rfl rfl (J_gdno rfl rfl rfl rfl (J_st (R_pickF rfl rfl) rfl (J_st (R_move rfl) rfl (J_gdno rfl rfl rfl rfl (J_gdno rfl rfl rfl rfl (J_gdno rfl rfl rfl rfl (J_gdno rfl rfl rfl rfl ?_)))))))))))))))))
      refine J_ungno rfl rfl rfl rfl ?_
      refine J_st (R_pickF rfl rfl) rfl (J_cutEnd ⟨rfl, rfl, rfl, rfl, rfl, congrArg (fun b => some (Value.bool b)) (show false = ((((x.kind == y.kind) && (x.a == y.a)) && (x.b == y.b)) && (decide (x.outs = y.outs))) by first | (rw [hg1] <;> rfl) | (simp [hg1]; done) | (simp only [nat_nlt] <;> simp)), trivial⟩ ⟨E, (by omega), h1, h2⟩)
  clear E h1 h2
  rintro w3 ⟨E, z4, h1, h2⟩
  refine J_st (R_assign rfl) rfl (J_done ?_)
  refine S_ret (E_done1 rfl rfl E ?_)
  refine congrArg Value.bool (Bool.eq_iff_iff.2 ?_); cases x; cases y; simp [and_assoc]

set_option maxRecDepth 20000 in
theorem c_EqualFuncNode (vxs : Value) (xs : List Node) (vys : Value) (ys : List Node) (w : World) (hxs : RdD w 0 w.heap.size vxs xs) (hys : RdD w 0 w.heap.size vys ys) : Ct Try.prog 59 [vxs, vys, .func (.func 60) #[] #[]] w (fun v _ => v = .bool (decide (xs = ys))) := by
  refine ct_of Try.func59 rfl Try.ntmps59 rfl ?_
  refine S_sub [(0, vxs), (1, vys), (2, .func (.func 60) #[] #[])] ⟨rfl, rfl, rfl, trivial⟩ ?_
  have E : Ext w w := Ext.refl w
  refine S_seq ?_
  refine S_reg [true] rfl rfl ?_
  refine J_st (R_assign rfl) rfl (J_done ?_)
  refine S_seq ?_
  refine S_seq ?_
  refine S_reg [true, true, true, true, true] rfl rfl ?_
  refine J_st (R_move rfl) rfl (J_st (R_len Try.underlying33 rfl (hxs.ext E).len) rfl (J_st (R_move rfl) rfl (J_st (R_len Try.underlying33 rfl (hys.ext E).len) rfl (J_st (R_neq rfl rfl) rfl (J_done ?_)))))
  refine S_cond rfl (fun hc1 => ?_) (fun hc1 => ?_)
  · have hc1n : ¬ xs.length = ys.length := by first | (have h := of_decide_eq_true hc1; omega) | (have h := hc1; simp at h; omega)
    refine S_seq ?_
    refine S_reg [true] rfl rfl ?_
    refine J_st (R_assign rfl) rfl (J_done ?_)
    refine S_ret (E_done1 rfl rfl E ?_)
    simp [eq_len hc1n]
  · have hc1n : xs.length = ys.length := by first | (have h := of_decide_eq_false hc1; omega) | (have h := hc1; simp at h; omega)
    refine S_skip ?_
    refine S_seq ?_
    refine S_seq ?_
    refine S_reg [true, true, true] rfl rfl ?_
    refine J_st (R_move rfl) rfl (J_st (R_len Try.underlying33 rfl (hxs.ext E).len) rfl (J_st (R_move rfl) rfl (J_done ?_)))
    refine S_block ?_
    refine S_loop (fun (k : Nat) => [(1, vys), (2, .func (.func 60) #[] #[]), (6, .bool false), (15, vxs), (16, .int .i64 ((xs.length : Nat) : Int)), (17, .int .i64 ((k : Nat) : Int))]) (fun (k : Nat) w' => Ext w w' ∧ w.heap.size ≤ w'.heap.size ∧ k ≤ xs.length ∧ xs.take k = ys.take k) (fun (k : Nat) => xs.length - k) 0 ⟨rfl, rfl, rfl, rfl, rfl, rfl, trivial⟩ ⟨E, Nat.le_refl _, Nat.zero_le _, rfl⟩ ?_
    clear E
    rintro k w1 ⟨E, z1, hk, hp⟩
    refine S_seq ?_
    refine S_reg [true] rfl rfl ?_
    refine J_st (R_lss rfl rfl) rfl (J_done ?_)
    refine S_seq ?_
    refine S_cond rfl (fun hc2 => ?_) (fun hc2 => ?_)
    · have hc2n : k < xs.length := by first | (have h := of_decide_eq_true hc2; omega) | (have h := hc2; simp at h; omega)
      refine S_skip ?_
      refine S_seq ?_
      refine S_block ?_
      refine S_seq ?_
      refine S_reg [true, true, true, false, true, false] rfl rfl ?_
      refine J_st (R_move rfl) rfl ?_
      have hi1 : k < xs.length := (by first | assumption | omega)
      obtain ⟨_, hr1, ha1⟩ := RdD.get hxs hi1
      obtain ⟨o1, rfl, hd1⟩ := Node.op hr1
      replace ha1 : At w (sblk vxs) (soff vxs + k * 4) [.int .i64 ((xs[k]'hi1).kind), .int .i64 ((xs[k]'hi1).a), .int .i64 ((xs[k]'hi1).b), o1] := ha1
      refine J_st (R_index (i := k) sl33 rfl rfl (hxs.ext E).1 hi1) rfl (J_st (R_loadS st102 rfl (ha1.ext E) rfl) rfl ?_)
      refine J_alloc st102 rfl (fun b1 w2 e1 s1 h1 => ?_)
      have g_b1 : w.heap.size ≤ b1 := by have := E.size; omega
      have y_b1 := h1.lt
      replace E := E.trans e1
      have z2 := e1.size
      refine J_st (R_assign rfl) rfl ?_
      refine J_storeS' (cs' := [.int .i64 ((xs[k]'hi1).kind), .int .i64 ((xs[k]'hi1).a), .int .i64 ((xs[k]'hi1).b), o1]) st102 rfl rfl rfl (all_cons rfl (all_cons rfl (all_cons rfl (all_cons (RdD.one (hd1.ext E)) rfl)))) h1 (Nat.le_of_ble_eq_true rfl) rfl (fun w3 m1 h1' => ?_)
      replace h1 := h1'
      replace E := E.step m1 (fun g hg => by cases hg; omega)
      have z3 := m1.size
      refine J_done ?_
      refine S_seq ?_
      refine S_reg [true, true, true, true, false, false] rfl rfl ?_
      refine J_st (R_move rfl) rfl (J_st (R_move rfl) rfl ?_)
      have hi2 : k < ys.length := (by first | assumption | omega)
      obtain ⟨_, hr2, ha2⟩ := RdD.get hys hi2
      obtain ⟨o2, rfl, hd2⟩ := Node.op hr2
      replace ha2 : At w (sblk vys) (soff vys + k * 4) [.int .i64 ((ys[k]'hi2).kind), .int .i64 ((ys[k]'hi2).a), .int .i64 ((ys[k]'hi2).b), o2] := ha2
      refine J_st (R_index (i := k) sl33 rfl rfl (hys.ext E).1 hi2) rfl (J_st (R_loadS st102 rfl (ha2.ext E) rfl) rfl ?_)
      refine J_alloc st102 rfl (fun b2 w4 e2 s2 h2 => ?_)
      have g_b2 : w.heap.size ≤ b2 := by have := E.size; omega
      have y_b2 := h2.lt
      replace E := E.trans e2; replace h1 := h1.ext e2
      have z4 := e2.size
      refine J_storeS' (cs' := [.int .i64 ((ys[k]'hi2).kind), .int .i64 ((ys[k]'hi2).a), .int .i64 ((ys[k]'hi2).b), o2]) st102 rfl rfl rfl (all_cons rfl (all_cons rfl (all_cons rfl (all_cons (RdD.one (hd2.ext E)) rfl)))) h2 (Nat.le_of_ble_eq_true rfl) rfl (fun w5 m2 h2' => ?_)
      replace h2 := h2'
      replace E := E.step m2 (fun g hg => by cases hg; omega); replace h1 := h1.mod m2 (fun g hg => by cases hg; omega)
      have z5 := m2.size
      refine J_done ?_
      refine S_seq ?_
      refine S_reg [true, true, true, false, true] rfl rfl ?_
      refine J_st (R_move rfl) rfl (J_st (R_loadS st102 rfl h1.at rfl) rfl (J_st (R_loadS st102 rfl h2.at rfl) rfl ?_))
      refine J_callV (fs := []) (cs := []) Try.call60 rfl rfl (c_sameNode [.int .i64 ((xs[k]'hi1).kind), .int .i64 ((xs[k]'hi1).a), .int .i64 ((xs[k]'hi1).b), o1] (xs[k]'hi1) [.int .i64 ((ys[k]'hi2).kind), .int .i64 ((ys[k]'hi2).a), .int .i64 ((ys[k]'hi2).b), o2] (ys[k]'hi2) _ (Node.mkR (xs[k]'hi1) (RdD.any (hd1.ext E))) (Node.mkR (ys[k]'hi2) (RdD.any (hd2.ext E)))) rfl (fun _ w6 e3 hv => ?_)
      subst hv
      replace E := E.trans e3; replace h1 := h1.ext e3; replace h2 := h2.ext e3
      have z6 := e3.size
      refine J_st (R_not rfl) rfl (J_done ?_)
      refine S_cond rfl (fun hc3 => ?_) (fun hc3 => ?_)
      · refine S_seq ?_
        refine S_reg [true] rfl rfl ?_
        refine J_st (R_assign rfl) rfl (J_done ?_)
        refine S_ret (E_inB_ret (E_lp_ret (E_inB_ret (E_done1 rfl rfl E ?_))))
        exact eqS_no (by omega) (by omega) (by simpa using hc3)
      · refine S_skip ?_
        refine S_nil (E_inB ?_)
        refine S_reg [true, true] rfl rfl ?_
        refine J_st (R_add rfl rfl (add_one hc2n (hxs.ext E).1.1)) rfl (J_st (R_move rfl) rfl (J_done ?_))
        refine S_nil (E_again (k + 1) (by omega) ⟨rfl, rfl, rfl, rfl, rfl, rfl, trivial⟩ ⟨E, (by omega), (by omega), eqS_step hp (by assumption) (by omega) (by simpa using hc3)⟩)
    · have hc2n : ¬ k < xs.length := by first | (have h := of_decide_eq_false hc2; omega) | (have h := hc2; simp at h; omega)
      refine S_exit (E_lp_exit (E_inB_exit ?_))
      refine S_seq ?_
      refine S_reg [true] rfl rfl ?_
      refine J_st (R_assign rfl) rfl (J_done ?_)
      refine S_ret (E_done1 rfl rfl E ?_)
      exact eqS_yes hp hc1n (by omega)

set_option maxRecDepth 20000 in
theorem c_SameGraph (cx : List Value) (x : Graph) (cy : List Value) (y : Graph) (w : World) (hx : Dat.R w 0 w.heap.size cx x) (hy : Dat.R w 0 w.heap.size cy y) : Ct Try.prog 35 [.agg cx.toArray, .agg cy.toArray] w (fun v _ => v = .bool (decide (x = y))) := by
  refine ct_of Try.func35 rfl Try.ntmps35 rfl ?_
  obtain ⟨o1, rfl, hd1⟩ := Graph.op hx
  obtain ⟨o2, rfl, hd2⟩ := Graph.op hy
  refine S_sub [(0, .agg [o1, .int .i64 x.workers, .int .i64 x.cap].toArray), (1, .agg [o2, .int .i64 y.workers, .int .i64 y.cap].toArray)] ⟨rfl, rfl, trivial⟩ ?_
  have E : Ext w w := Ext.refl w
  refine S_seq ?_
  refine S_reg [false, false, true] rfl rfl ?_
  refine J_box rfl rfl (fun b1 w1 e1 s1 h1 => ?_)
  have g_b1 : w.heap.size ≤ b1 := by have := E.size; omega
  have y_b1 := h1.lt
  replace E := E.trans e1
  have z1 := e1.size
  refine J_box rfl rfl (fun b2 w2 e2 s2 h2 => ?_)
  have g_b2 : w.heap.size ≤ b2 := by have := E.size; omega
  have y_b2 := h2.lt
  replace E := E.trans e2; replace h1 := h1.ext e2
  have z2 := e2.size
  refine J_st (R_assign rfl) rfl (J_done ?_)
  refine S_seq ?_
  refine S_reg [true, true, true, true, false, true, true, true, true, true, true, true, true, true, true, true, true, true, true, true] rfl rfl ?_
  refine J_st (R_fieldAddr0 fl35_0 rfl) rfl (J_st (R_load sc33 rfl (h1.one 0 rfl)) rfl (J_st (R_fieldAddr0 fl35_0 rfl) rfl (J_st (R_load sc33 rfl (h2.one 0 rfl)) rfl ?_)))
  refine J_call Try.call59 rfl (c_EqualFuncNode o1 x.nodes o2 y.nodes _ (RdD.any (hd1.ext E)) (RdD.any (hd2.ext E))) rfl (fun _ w3 e3 hv => ?_)
  subst hv
  replace E := E.trans e3; replace h1 := h1.ext e3; replace h2 := h2.ext e3
  have z3 := e3.size
  refine J_st (R_move rfl) rfl ?_
  refine J_cut 13 [(0, .agg [o1, .int .i64 x.workers, .int .i64 x.cap].toArray), (1, .agg [o2, .int .i64 y.workers, .int .i64 y.cap].toArray), (2, .pointer (some ⟨b1, 0, none⟩)), (3, .pointer (some ⟨b2, 0, none⟩)), (4, .bool false), (23, .bool (((decide (x.nodes = y.nodes)) && (x.workers == y.workers)) && (x.cap == y.cap)))] (fun w' => w3 = w') ?_ ?_
  · refine J_if (gd := 10) rfl rfl (fun hg1 => ?_) (fun hg1 => ?_)
    · refine J_gd rfl rfl (R_fieldAddr0 fl35_1 rfl) rfl (J_gd rfl rfl (R_load sc3 rfl (h1.one 1 rfl)) rfl (J_gd rfl rfl (R_fieldAddr0 fl35_1 rfl) rfl (J_gd rfl rfl (R_load sc3 rfl (h2.one 1 rfl)) rfl (J_gd rfl rfl (R_eql rfl rfl) rfl (J_st (R_pickT rfl rfl) rfl (J_st (R_move rfl) rfl ?_))))))
      refine J_if (gd := 17) rfl rfl (fun hg2 => ?_) (fun hg2 => ?_)
      · refine J_gd rfl rfl (R_fieldAddr0 fl35_2 rfl) rfl (J_gd rfl rfl (R_load sc3 rfl (h1.one 2 rfl)) rfl (J_gd rfl rfl (R_fieldAddr0 fl35_2 rfl) rfl (J_gd rfl rfl (R_load sc3 rfl (h2.one 2 rfl)) rfl (J_gd rfl rfl (R_eql rfl rfl) rfl (J_st (R_pickT rfl rfl) rfl (J_cutEnd ⟨rfl, rfl, rfl, rfl, rfl, congrArg (fun b => some (Value.bool b)) (show (x.cap == y.cap) = (((decide (x.nodes = y.nodes)) && (x.workers == y.workers)) && (x.cap == y.cap)) by first | (rw [hg1, hg2] <;> rfl) | (simp [hg1, hg2]; done) | (simp only [nat_nlt] <;> simp)), trivial⟩ rfl))))))
      · refine J_gdno rfl rfl rfl rfl (J_gdno rfl rfl rfl rfl (J_gdno rfl rfl rfl rfl (J_gdno rfl rfl rfl rfl (J_gdno rfl rfl rfl rfl (J_st (R_pickF rfl rfl) rfl (J_cutEnd ⟨rfl, rfl, rfl, rfl, rfl, congrArg (fun b => some (Value.bool b)) (show false = (((decide (x.nodes = y.nodes)) && (x.workers == y.workers)) && (x.cap == y.cap)) by first | (rw [hg1, hg2] <;> rfl) | (simp [hg1, hg2]; done) | (simp only [nat_nlt] <;> simp)), trivial⟩ rfl))))))
    · refine J_gdno rfl rfl rfl rfl (J_gdno rfl rfl rfl rfl (J_gdno rfl rfl rfl rfl (J_gdno rfl rfl rfl rfl (J_gdno rfl rfl rfl rfl (J_st (R_pickF rfl rfl) rfl (J_st (R_move rfl) rfl (J_gdno rfl rfl rfl rfl (J_gdno rfl rfl rfl rfl (J_gdno rfl rfl rfl rfl (J_gdno rfl rfl rfl rfl (J_gdno rfl rfl rfl rfl (J_st (R_pickF rfl rfl) rfl (J_cutEnd ⟨rfl, rfl, rfl, rfl, rfl, congrArg (fun b => some (Value.bool b)) (show false = (((decide (x.nodes = y.nodes)) && (x.workers == y.workers)) && (x.cap == y.cap)) by first | (rw [hg1] <;> rfl) | (simp [hg1]; done) | (simp only [nat_nlt] <;> simp)), trivial⟩ rfl)))))))))))))
  rintro _ rfl
  refine J_st (R_assign rfl) rfl (J_done ?_)
  refine S_ret (E_done1 rfl rfl E ?_)
  refine congrArg Value.bool (Bool.eq_iff_iff.2 ?_); cases x; cases y; simp [and_assoc]

set_option maxHeartbeats 4000000 in
set_option maxRecDepth 20000 in
theorem s_SameGraph (cx : List Value) (x : Graph) (cy : List Value) (y : Graph) (w : World) (hx : Dat.R w 0 w.heap.size cx x) (hy : Dat.R w 0 w.heap.size cy y) : Ct Try.prog 32 [.agg cx.toArray, .agg cy.toArray] w (fun v _ => v = .bool (decide (x = y))) := by
  refine ct_of Try.func32 rfl Try.ntmps32 rfl ?_
  obtain ⟨o1, rfl, hd1⟩ := Graph.op hx
  obtain ⟨o2, rfl, hd2⟩ := Graph.op hy
  refine S_sub [(0, .agg [o1, .int .i64 x.workers, .int .i64 x.cap].toArray), (1, .agg [o2, .int .i64 y.workers, .int .i64 y.cap].toArray)] ⟨rfl, rfl, trivial⟩ ?_
  have E : Ext w w := Ext.refl w
  refine S_seq ?_
  refine S_reg [false, false, true] rfl rfl ?_
  refine J_box rfl rfl (fun b1 w1 e1 s1 h1 => ?_)
  have g_b1 : w.heap.size ≤ b1 := by have := E.size; omega
  have y_b1 := h1.lt
  replace E := E.trans e1
  have z1 := e1.size
  refine J_box rfl rfl (fun b2 w2 e2 s2 h2 => ?_)
  have g_b2 : w.heap.size ≤ b2 := by have := E.size; omega
  have y_b2 := h2.lt
  replace E := E.trans e2; replace h1 := h1.ext e2
  have z2 := e2.size
  refine J_st (R_assign rfl) rfl (J_done ?_)
  refine S_seq ?_
  refine S_seq ?_
  refine S_reg [true, true, true, true, true, true, true, true, true, true, true, true, true, true, true, true, true, true, true, true, true] rfl rfl ?_
  refine J_st (R_fieldAddr0 fl35_1 rfl) rfl (J_st (R_load sc3 rfl (h1.one 1 rfl)) rfl (J_st (R_fieldAddr0 fl35_1 rfl) rfl (J_st (R_load sc3 rfl (h2.one 1 rfl)) rfl (J_st (R_neq rfl rfl) rfl (J_st (R_move rfl) rfl ?_)))))
  refine J_cut 15 [(0, .agg [o1, .int .i64 x.workers, .int .i64 x.cap].toArray), (1, .agg [o2, .int .i64 y.workers, .int .i64 y.cap].toArray), (2, .pointer (some ⟨b1, 0, none⟩)), (3, .pointer (some ⟨b2, 0, none⟩)), (4, .bool false), (28, .bool (((x.workers != y.workers) || (x.cap != y.cap)) || (((x.nodes.length : Nat) : Int) != ((y.nodes.length : Nat) : Int))))] (fun w' => w2 = w') ?_ ?_
  · refine J_if (gd := 13) rfl rfl (fun hg1 => ?_) (fun hg1 => ?_)
    · refine J_gdno rfl rfl rfl rfl (J_gdno rfl rfl rfl rfl (J_gdno rfl rfl rfl rfl (J_gdno rfl rfl rfl rfl (J_gdno rfl rfl rfl rfl (J_st (R_pickT rfl rfl) rfl (J_st (R_move rfl) rfl (J_gdno rfl rfl rfl rfl (J_gdno rfl rfl rfl rfl (J_gdno rfl rfl rfl rfl (J_gdno rfl rfl rfl rfl (J_gdno rfl rfl rfl rfl (J_gdno rfl rfl rfl rfl (J_gdno rfl rfl rfl rfl (J_st (R_pickT rfl rfl) rfl (J_cutEnd ⟨rfl, rfl, rfl, rfl, rfl, congrArg (fun b => some (Value.bool b)) (show true = (((x.workers != y.workers) || (x.cap != y.cap)) || (((x.nodes.length : Nat) : Int) != ((y.nodes.length : Nat) : Int))) by first | (rw [hg1] <;> rfl) | (simp [hg1]; done) | (simp only [nat_nlt] <;> simp)), trivial⟩ rfl)))))))))))))))
    · refine J_gd rfl rfl (R_fieldAddr0 fl35_2 rfl) rfl (J_gd rfl rfl (R_load sc3 rfl (h1.one 2 rfl)) rfl (J_gd rfl rfl (R_fieldAddr0 fl35_2 rfl) rfl (J_gd rfl rfl (R_load sc3 rfl (h2.one 2 rfl)) rfl (J_gd rfl rfl (R_neq rfl rfl) rfl (J_st (R_pickF rfl rfl) rfl (J_st (R_move rfl) rfl ?_))))))
      refine J_if (gd := 20) rfl rfl (fun hg2 => ?_) (fun hg2 => ?_)
      · refine J_gdno rfl rfl rfl rfl (J_gdno rfl rfl rfl rfl (J_gdno rfl rfl rfl rfl (J_gdno rfl rfl rfl rfl (J_gdno rfl rfl rfl rfl (J_gdno rfl rfl rfl rfl (J_gdno rfl rfl rfl rfl (J_st (R_pickT rfl rfl) rfl (J_cutEnd ⟨rfl, rfl, rfl, rfl, rfl, congrArg (fun b => some (Value.bool b)) (show true = (((x.workers != y.workers) || (x.cap != y.cap)) || (((x.nodes.length : Nat) : Int) != ((y.nodes.length : Nat) : Int))) by first | (rw [hg1, hg2] <;> rfl) | (simp [hg1, hg2]; done) | (simp only [nat_nlt] <;> simp)), trivial⟩ rfl))))))))
      · refine J_gd rfl rfl (R_fieldAddr0 fl35_0 rfl) rfl (J_gd rfl rfl (R_load sc33 rfl (h1.one 0 rfl)) rfl (J_gd rfl rfl (R_len Try.underlying33 rfl (hd1.ext E).len) rfl (J_gd rfl rfl (R_fieldAddr0 fl35_0 rfl) rfl (J_gd rfl rfl (R_load sc33 rfl (h2.one 0 rfl)) rfl (J_gd rfl rfl (R_len Try.underlying33 rfl (hd2.ext E).len) rfl (J_gd rfl rfl (R_neq rfl rfl) rfl (J_st (R_pickF rfl rfl) rfl (J_cutEnd ⟨rfl, rfl, rfl, rfl, rfl, congrArg (fun b => some (Value.bool b)) (show (((x.nodes.length : Nat) : Int) != ((y.nodes.length : Nat) : Int)) = (((x.workers != y.workers) || (x.cap != y.cap)) || (((x.nodes.length : Nat) : Int) != ((y.nodes.length : Nat) : Int))) by first | (rw [hg1, hg2] <;> rfl) | (simp [hg1, hg2]; done) | (simp only [nat_nlt] <;> simp)), trivial⟩ rfl))))))))
  rintro _ rfl
  refine J_done ?_
  refine S_cond rfl (fun hc1 => ?_) (fun hc1 => ?_)
  · refine S_seq ?_
    refine S_reg [true] rfl rfl ?_
    refine J_st (R_assign rfl) rfl (J_done ?_)
    refine S_ret (E_done1 rfl rfl E ?_)
    exact sg_no hc1
  · refine S_skip ?_
    refine S_seq ?_
    refine S_seq ?_
    refine S_reg [true] rfl rfl ?_
    refine J_st (R_assign rfl) rfl (J_done ?_)
    refine S_block ?_
    refine S_loop (fun (k : Nat) => [(2, .pointer (some ⟨b1, 0, none⟩)), (3, .pointer (some ⟨b2, 0, none⟩)), (4, .bool false), (5, .int .i64 ((k : Nat) : Int))]) (fun (k : Nat) w' => Ext w w' ∧ w2.heap.size ≤ w'.heap.size ∧ Blk w' b1 ([o1, .int .i64 x.workers, .int .i64 x.cap]) ∧ Blk w' b2 ([o2, .int .i64 y.workers, .int .i64 y.cap]) ∧ k ≤ x.nodes.length ∧ x.nodes.take k = y.nodes.take k) (fun (k : Nat) => x.nodes.length - k) 0 ⟨rfl, rfl, rfl, rfl, trivial⟩ ⟨E, Nat.le_refl _, h1, h2, Nat.zero_le _, rfl⟩ ?_
    clear E h1 h2
    rintro k w4 ⟨E, z3, h1, h2, hk, hp⟩
    have hle := sg_len hc1
    refine S_seq ?_
    refine S_seq ?_
    refine S_reg [true, true, true, true, true] rfl rfl ?_
    refine J_st (R_move rfl) rfl (J_st (R_fieldAddr0 fl35_0 rfl) rfl (J_st (R_load sc33 rfl (h1.one 0 rfl)) rfl (J_st (R_len Try.underlying33 rfl (hd1.ext E).len) rfl (J_st (R_lss rfl rfl) rfl (J_done ?_)))))
    refine S_cond rfl (fun hc2 => ?_) (fun hc2 => ?_)
    · have hc2n : k < x.nodes.length := by first | (have h := of_decide_eq_true hc2; omega) | (have h := hc2; simp at h; omega)
      refine S_skip ?_
      refine S_seq ?_
      refine S_block ?_
      refine S_seq ?_
      refine S_reg [true, true, true, true, true, false, false] rfl rfl ?_
      refine J_st (R_fieldAddr0 fl35_0 rfl) rfl (J_st (R_load sc33 rfl (h1.one 0 rfl)) rfl (J_st (R_move rfl) rfl ?_))
      have hi1 : k < x.nodes.length := (by first | assumption | omega)
      obtain ⟨_, hr1, ha1⟩ := RdD.get hd1 hi1
      obtain ⟨o3, rfl, hd3⟩ := Node.op hr1
      replace ha1 : At w (sblk o1) (soff o1 + k * 4) [.int .i64 ((x.nodes[k]'hi1).kind), .int .i64 ((x.nodes[k]'hi1).a), .int .i64 ((x.nodes[k]'hi1).b), o3] := ha1
      refine J_st (R_index (i := k) sl33 rfl rfl (hd1.ext E).1 hi1) rfl (J_st (R_loadS st102 rfl (ha1.ext E) rfl) rfl ?_)
      refine J_alloc st102 rfl (fun b3 w5 e3 s3 h3 => ?_)
      have g_b3 : w.heap.size ≤ b3 := by have := E.size; omega
      have y_b3 := h3.lt
      replace E := E.trans e3; replace h1 := h1.ext e3; replace h2 := h2.ext e3
      have z4 := e3.size
      refine J_storeS' (cs' := [.int .i64 ((x.nodes[k]'hi1).kind), .int .i64 ((x.nodes[k]'hi1).a), .int .i64 ((x.nodes[k]'hi1).b), o3]) st102 rfl rfl rfl (all_cons rfl (all_cons rfl (all_cons rfl (all_cons (RdD.one (hd3.ext E)) rfl)))) h3 (Nat.le_of_ble_eq_true rfl) rfl (fun w6 m1 h3' => ?_)
      replace h3 := h3'
      replace E := E.step m1 (fun g hg => by cases hg; omega); replace h1 := h1.mod m1 (fun g hg => by cases hg; omega); replace h2 := h2.mod m1 (fun g hg => by cases hg; omega)
      have z5 := m1.size
      refine J_done ?_
      refine S_seq ?_
      refine S_reg [true, true, true, true, true, false, false] rfl rfl ?_
      refine J_st (R_fieldAddr0 fl35_0 rfl) rfl (J_st (R_load sc33 rfl (h2.one 0 rfl)) rfl (J_st (R_move rfl) rfl ?_))
      have hi2 : k < y.nodes.length := (by first | assumption | omega)
      obtain ⟨_, hr2, ha2⟩ := RdD.get hd2 hi2
      obtain ⟨o4, rfl, hd4⟩ := Node.op hr2
      replace ha2 : At w (sblk o2) (soff o2 + k * 4) [.int .i64 ((y.nodes[k]'hi2).kind), .int .i64 ((y.nodes[k]'hi2).a), .int .i64 ((y.nodes[k]'hi2).b), o4] := ha2
      refine J_st (R_index (i := k) sl33 rfl rfl (hd2.ext E).1 hi2) rfl (J_st (R_loadS st102 rfl (ha2.ext E) rfl) rfl ?_)
      refine J_alloc st102 rfl (fun b4 w7 e4 s4 h4 => ?_)
      have g_b4 : w.heap.size ≤ b4 := by have := E.size; omega
      have y_b4 := h4.lt
      replace E := E.trans e4; replace h1 := h1.ext e4; replace h2 := h2.ext e4; replace h3 := h3.ext e4
      have z6 := e4.size
      refine J_storeS' (cs' := [.int .i64 ((y.nodes[k]'hi2).kind), .int .i64 ((y.nodes[k]'hi2).a), .int .i64 ((y.nodes[k]'hi2).b), o4]) st102 rfl rfl rfl (all_cons rfl (all_cons rfl (all_cons rfl (all_cons (RdD.one (hd4.ext E)) rfl)))) h4 (Nat.le_of_ble_eq_true rfl) rfl (fun w8 m2 h4' => ?_)
      replace h4 := h4'
      replace E := E.step m2 (fun g hg => by cases hg; omega); replace h1 := h1.mod m2 (fun g hg => by cases hg; omega); replace h2 := h2.mod m2 (fun g hg => by cases hg; omega); replace h3 := h3.mod m2 (fun g hg => by cases hg; omega)
      have z7 := m2.size
      refine J_done ?_
      refine S_seq ?_
      refine S_reg [true, true, true, true, true, true, true, true, true, true, true, true, true, true, true, true, true, true, true, true, true, true, true, true, false, true, true] rfl rfl ?_
      refine J_st (R_fieldAddr0 fl102_0 rfl) rfl (J_st (R_load sc3 rfl (h3.one 0 rfl)) rfl (J_st (R_fieldAddr0 fl102_0 rfl) rfl (J_st (R_load sc3 rfl (h4.one 0 rfl)) rfl (J_st (R_neq rfl rfl) rfl (J_st (R_move rfl) rfl ?_)))))
      refine J_cut 21 [(2, .pointer (some ⟨b1, 0, none⟩)), (3, .pointer (some ⟨b2, 0, none⟩)), (4, .bool false), (5, .int .i64 ((k : Nat) : Int)), (6, .pointer (some ⟨b3, 0, none⟩)), (7, .pointer (some ⟨b4, 0, none⟩)), (29, .int .i64 ((k : Nat) : Int)), (30, .pointer (some ⟨b1, 0, none⟩)), (31, o1), (32, .int .i64 ((x.nodes.length : Nat) : Int)), (33, .bool (decide (((k : Nat) : Int) < ((x.nodes.length : Nat) : Int)))), (36, .pointer (some ⟨b1, 0, none⟩)), (37, o1), (38, .int .i64 ((k : Nat) : Int)), (39, .pointer (some ⟨sblk o1, soff o1 + k * 4, none⟩)), (40, .agg [.int .i64 ((x.nodes[k]'hi1).kind), .int .i64 ((x.nodes[k]'hi1).a), .int .i64 ((x.nodes[k]'hi1).b), o3].toArray), (41, .pointer (some ⟨b2, 0, none⟩)), (42, o2), (43, .int .i64 ((k : Nat) : Int)), (44, .pointer (some ⟨sblk o2, soff o2 + k * 4, none⟩)), (45, .agg [.int .i64 ((y.nodes[k]'hi2).kind), .int .i64 ((y.nodes[k]'hi2).a), .int .i64 ((y.nodes[k]'hi2).b), o4].toArray), (72, .bool ((((((x.nodes[k]'hi1).kind) != ((y.nodes[k]'hi2).kind)) || (((x.nodes[k]'hi1).a) != ((y.nodes[k]'hi2).a))) || (((x.nodes[k]'hi1).b) != ((y.nodes[k]'hi2).b))) || (!(decide (((x.nodes[k]'hi1).outs) = ((y.nodes[k]'hi2).outs))))))] (fun w' => Ext w w' ∧ w8.heap.size ≤ w'.heap.size ∧ Blk w' b1 ([o1, .int .i64 x.workers, .int .i64 x.cap]) ∧ Blk w' b2 ([o2, .int .i64 y.workers, .int .i64 y.cap]) ∧ Blk w' b3 [.int .i64 ((x.nodes[k]'hi1).kind), .int .i64 ((x.nodes[k]'hi1).a), .int .i64 ((x.nodes[k]'hi1).b), o3] ∧ Blk w' b4 [.int .i64 ((y.nodes[k]'hi2).kind), .int .i64 ((y.nodes[k]'hi2).a), .int .i64 ((y.nodes[k]'hi2).b), o4]) ?_ ?_
      · refine J_if (gd := 51) rfl rfl (fun hg3 => ?_) (fun hg3 => ?_)
        · refine J_gdno rfl rfl rfl rfl (J_gdno rfl rfl rfl rfl (J_gdno rfl rfl rfl rfl (J_gdno rfl rfl rfl rfl (J_gdno rfl rfl rfl rfl (J_st (R_pickT rfl rfl) rfl (J_st (R_move rfl) rfl (J_gdno rfl rfl rfl rfl (J_gdno rfl rfl rfl rfl (J_gdno rfl rfl rfl rfl (J_gdno rfl rfl rfl rfl (J_gdno rfl rfl rfl rfl (J_st (R_pickT rfl rfl) rfl (J_st (R_move rfl) rfl (J_gdno rfl rfl rfl rfl (J_gdno rfl rfl rfl rfl (J_gdno rfl rfl rfl rfl (J_gdno rfl rfl rfl rfl ?_)))))))))))))))))
          refine J_ungno rfl rfl rfl rfl ?_
          refine J_gdno rfl rfl rfl rfl (J_st (R_pickT rfl rfl) rfl (J_cutEnd ⟨rfl, rfl, rfl, rfl, rfl, rfl, rfl, rfl, rfl, rfl, rfl, rfl, rfl, rfl, rfl, rfl, rfl, rfl, rfl, rfl, rfl, congrArg (fun b => some (Value.bool b)) (show true = ((((((x.nodes[k]'hi1).kind) != ((y.nodes[k]'hi2).kind)) || (((x.nodes[k]'hi1).a) != ((y.nodes[k]'hi2).a))) || (((x.nodes[k]'hi1).b) != ((y.nodes[k]'hi2).b))) || (!(decide (((x.nodes[k]'hi1).outs) = ((y.nodes[k]'hi2).outs))))) by first | (rw [hg3] <;> rfl) | (simp [hg3]; done) | (simp only [nat_nlt] <;> simp)), trivial⟩ ⟨E, (by omega), h1, h2, h3, h4⟩))
        · refine J_gd rfl rfl (R_fieldAddr0 fl102_1 rfl) rfl (J_gd rfl rfl (R_load sc3 rfl (h3.one 1 rfl)) rfl (J_gd rfl rfl (R_fieldAddr0 fl102_1 rfl) rfl (J_gd rfl rfl (R_load sc3 rfl (h4.one 1 rfl)) rfl (J_gd rfl rfl (R_neq rfl rfl) rfl (J_st (R_pickF rfl rfl) rfl (J_st (R_move rfl) rfl ?_))))))
          refine J_if (gd := 58) rfl rfl (fun hg4 => ?_) (fun hg4 => ?_)
          · refine J_gdno rfl rfl rfl rfl (J_gdno rfl rfl rfl rfl (J_gdno rfl rfl rfl rfl (J_gdno rfl rfl rfl rfl (J_gdno rfl rfl rfl rfl (J_st (R_pickT rfl rfl) rfl (J_st (R_move rfl) rfl (J_gdno rfl rfl rfl rfl (J_gdno rfl rfl rfl rfl (J_gdno rfl rfl rfl rfl (J_gdno rfl rfl rfl rfl ?_))))))))))
            refine J_ungno rfl rfl rfl rfl ?_
            refine J_gdno rfl rfl rfl rfl (J_st (R_pickT rfl rfl) rfl (J_cutEnd ⟨rfl, rfl, rfl, rfl, rfl, rfl, rfl, rfl, rfl, rfl, rfl, rfl, rfl, rfl, rfl, rfl, rfl, rfl, rfl, rfl, rfl, congrArg (fun b => some (Value.bool b)) (show true = ((((((x.nodes[k]'hi1).kind) != ((y.nodes[k]'hi2).kind)) || (((x.nodes[k]'hi1).a) != ((y.nodes[k]'hi2).a))) || (((x.nodes[k]'hi1).b) != ((y.nodes[k]'hi2).b))) || (!(decide (((x.nodes[k]'hi1).outs) = ((y.nodes[k]'hi2).outs))))) by first | (rw [hg3, hg4] <;> rfl) | (simp [hg3, hg4]; done) | (simp only [nat_nlt] <;> simp)), trivial⟩ ⟨E, (by omega), h1, h2, h3, h4⟩))
          · refine J_gd rfl rfl (R_fieldAddr0 fl102_2 rfl) rfl (J_gd rfl rfl (R_load sc3 rfl (h3.one 2 rfl)) rfl (J_gd rfl rfl (R_fieldAddr0 fl102_2 rfl) rfl (J_gd rfl rfl (R_load sc3 rfl (h4.one 2 rfl)) rfl (J_gd rfl rfl (R_neq rfl rfl) rfl (J_st (R_pickF rfl rfl) rfl (J_st (R_move rfl) rfl ?_))))))
            refine J_if (gd := 65) rfl rfl (fun hg5 => ?_) (fun hg5 => ?_)
            · refine J_gdno rfl rfl rfl rfl (J_gdno rfl rfl rfl rfl (J_gdno rfl rfl rfl rfl (J_gdno rfl rfl rfl rfl ?_)))
              refine J_ungno rfl rfl rfl rfl ?_
              refine J_gdno rfl rfl rfl rfl (J_st (R_pickT rfl rfl) rfl (J_cutEnd ⟨rfl, rfl, rfl, rfl, rfl, rfl, rfl, rfl, rfl, rfl, rfl, rfl, rfl, rfl, rfl, rfl, rfl, rfl, rfl, rfl, rfl, congrArg (fun b => some (Value.bool b)) (show true = ((((((x.nodes[k]'hi1).kind) != ((y.nodes[k]'hi2).kind)) || (((x.nodes[k]'hi1).a) != ((y.nodes[k]'hi2).a))) || (((x.nodes[k]'hi1).b) != ((y.nodes[k]'hi2).b))) || (!(decide (((x.nodes[k]'hi1).outs) = ((y.nodes[k]'hi2).outs))))) by first | (rw [hg3, hg4, hg5] <;> rfl) | (simp [hg3, hg4, hg5]; done) | (simp only [nat_nlt] <;> simp)), trivial⟩ ⟨E, (by omega), h1, h2, h3, h4⟩))
            · refine J_gd rfl rfl (R_fieldAddr0 fl102_3 rfl) rfl (J_gd rfl rfl (R_load sc68 rfl (h3.one 3 rfl)) rfl (J_gd rfl rfl (R_fieldAddr0 fl102_3 rfl) rfl (J_gd rfl rfl (R_load sc68 rfl (h4.one 3 rfl)) rfl ?_)))
              refine J_ung rfl rfl ?_
              refine J_call Try.call55 rfl (s_l08Ints o3 ((x.nodes[k]'hi1).outs) o4 ((y.nodes[k]'hi2).outs) _ (hd3.rd.ext E) (hd4.rd.ext E)) rfl (fun _ w10 e5 hv => ?_)
              subst hv
              replace E := E.trans e5; replace h1 := h1.ext e5; replace h2 := h2.ext e5; replace h3 := h3.ext e5; replace h4 := h4.ext e5
              have z8 := e5.size
              refine J_gd rfl rfl (R_not rfl) rfl (J_st (R_pickF rfl rfl) rfl (J_cutEnd ⟨rfl, rfl, rfl, rfl, rfl, rfl, rfl, rfl, rfl, rfl, rfl, rfl, rfl, rfl, rfl, rfl, rfl, rfl, rfl, rfl, rfl, congrArg (fun b => some (Value.bool b)) (show (!(decide (((x.nodes[k]'hi1).outs) = ((y.nodes[k]'hi2).outs)))) = ((((((x.nodes[k]'hi1).kind) != ((y.nodes[k]'hi2).kind)) || (((x.nodes[k]'hi1).a) != ((y.nodes[k]'hi2).a))) || (((x.nodes[k]'hi1).b) != ((y.nodes[k]'hi2).b))) || (!(decide (((x.nodes[k]'hi1).outs) = ((y.nodes[k]'hi2).outs))))) by first | (rw [hg3, hg4, hg5] <;> rfl) | (simp [hg3, hg4, hg5]; done) | (simp only [nat_nlt] <;> simp)), trivial⟩ ⟨E, (by omega), h1, h2, h3, h4⟩))
      clear E h1 h2 h3 h4
      rintro w9 ⟨E, z9, h1, h2, h3, h4⟩
      refine J_done ?_
      refine S_cond rfl (fun hc3 => ?_) (fun hc3 => ?_)
      · refine S_seq ?_
        refine S_reg [true] rfl rfl ?_
        refine J_st (R_assign rfl) rfl (J_done ?_)
        refine S_ret (E_inB_ret (E_lp_ret (E_inB_ret (E_done1 rfl rfl E ?_))))
        exact sg_no1 hc3
      · refine S_skip ?_
        refine S_nil (E_inB ?_)
        refine S_reg [true, true, true] rfl rfl ?_
        refine J_st (R_move rfl) rfl (J_st (R_add rfl rfl (add_one hc2n (hd1.ext E).1.1)) rfl (J_st (R_assign rfl) rfl (J_done ?_)))
        refine S_nil (E_again (k + 1) (by omega) ⟨rfl, rfl, rfl, rfl, trivial⟩ ⟨E, (by omega), h1, h2, (by omega), eqS_step hp (by assumption) (by omega) (sg_node hc3)⟩)
    · have hc2n : ¬ k < x.nodes.length := by first | (have h := of_decide_eq_false hc2; omega) | (have h := hc2; simp at h; omega)
      refine S_exit (E_lp_exit (E_inB_exit ?_))
      refine S_seq ?_
      refine S_reg [true] rfl rfl ?_
      refine J_st (R_assign rfl) rfl (J_done ?_)
      refine S_ret (E_done1 rfl rfl E ?_)
      exact sg_yes hc1 (by rw [List.take_of_length_le (by omega), List.take_of_length_le (by have := sg_len hc1; omega)] at hp; exact hp)

set_option maxRecDepth 20000 in
theorem c_toStamp (x : Stamp) (w : World)  : Ct Try.prog 90 [.agg (Enc.enc x).toArray] w (fun v _ => v = .agg (Enc.enc x).toArray) := by
  refine ct_of Try.func90 rfl Try.ntmps90 rfl ?_
  refine S_sub [(0, .agg (Enc.enc x).toArray)] ⟨rfl, trivial⟩ ?_
  have E : Ext w w := Ext.refl w
  refine S_seq ?_
  refine S_reg [false, false] rfl rfl ?_
  refine J_box rfl rfl (fun b1 w1 e1 s1 h1 => ?_)
  have g_b1 : w.heap.size ≤ b1 := by have := E.size; omega
  have y_b1 := h1.lt
  replace E := E.trans e1
  have z1 := e1.size
  refine J_alloc st112 rfl (fun b2 w2 e2 s2 h2 => ?_)
  have g_b2 : w.heap.size ≤ b2 := by have := E.size; omega
  have y_b2 := h2.lt
  replace E := E.trans e2; replace h1 := h1.ext e2
  have z2 := e2.size
  refine J_done ?_
  refine S_seq ?_
  refine S_reg [false] rfl rfl ?_
  refine J_alloc st112 rfl (fun b3 w3 e3 s3 h3 => ?_)
  have g_b3 : w.heap.size ≤ b3 := by have := E.size; omega
  have y_b3 := h3.lt
  replace E := E.trans e3; replace h1 := h1.ext e3; replace h2 := h2.ext e3
  have z3 := e3.size
  refine J_done ?_
  refine S_seq ?_
  refine S_reg [true, true, true, false] rfl rfl ?_
  refine J_st (R_fieldAddr0 fl132_0 rfl) rfl (J_st (R_load sc3 rfl (h1.one 0 rfl)) rfl (J_st (R_fieldAddr0 fl112_0 rfl) rfl ?_))
  refine J_store' (cs' := [.int .i64 x.epoch, .int .i64 0]) sc3 rfl rfl rfl h3 (Nat.le_of_ble_eq_true rfl) rfl (fun w4 m1 h3' => ?_)
  replace h3 := h3'
  replace E := E.step m1 (fun g hg => by cases hg; omega); replace h1 := h1.mod m1 (fun g hg => by cases hg; omega); replace h2 := h2.mod m1 (fun g hg => by cases hg; omega)
  have z4 := m1.size
  refine J_done ?_
  refine S_seq ?_
  refine S_reg [true, true, true, false] rfl rfl ?_
  refine J_st (R_fieldAddr0 fl132_1 rfl) rfl (J_st (R_load sc3 rfl (h1.one 1 rfl)) rfl (J_st (R_fieldAddr0 fl112_1 rfl) rfl ?_))
  refine J_store' (cs' := [.int .i64 x.epoch, .int .i64 x.turn]) sc3 rfl rfl rfl h3 (Nat.le_of_ble_eq_true rfl) rfl (fun w5 m2 h3' => ?_)
  replace h3 := h3'
  replace E := E.step m2 (fun g hg => by cases hg; omega); replace h1 := h1.mod m2 (fun g hg => by cases hg; omega); replace h2 := h2.mod m2 (fun g hg => by cases hg; omega)
  have z5 := m2.size
  refine J_done ?_
  refine S_seq ?_
  refine S_reg [true, false] rfl rfl ?_
  refine J_st (R_loadS st112 rfl h3.at rfl) rfl ?_
  refine J_storeS' (cs' := [.int .i64 x.epoch, .int .i64 x.turn]) st112 rfl rfl rfl rfl h2 (Nat.le_of_ble_eq_true rfl) rfl (fun w6 m3 h2' => ?_)
  replace h2 := h2'
  replace E := E.step m3 (fun g hg => by cases hg; omega); replace h1 := h1.mod m3 (fun g hg => by cases hg; omega); replace h3 := h3.mod m3 (fun g hg => by cases hg; omega)
  have z6 := m3.size
  refine J_done ?_
  refine S_ret (E_doneC rfl rfl (run_loadVar_st st112 h2.at rfl) E ?_)
  rfl

set_option maxRecDepth 20000 in
theorem c_toRecord (x : Record) (w : World)  : Ct Try.prog 84 [.agg (Enc.enc x).toArray] w (fun v _ => v = .agg (Enc.enc x).toArray) := by
  refine ct_of Try.func84 rfl Try.ntmps84 rfl ?_
  refine S_sub [(0, .agg (Enc.enc x).toArray)] ⟨rfl, trivial⟩ ?_
  have E : Ext w w := Ext.refl w
  refine S_seq ?_
  refine S_reg [false, false] rfl rfl ?_
  refine J_box rfl rfl (fun b1 w1 e1 s1 h1 => ?_)
  have g_b1 : w.heap.size ≤ b1 := by have := E.size; omega
  have y_b1 := h1.lt
  replace E := E.trans e1
  have z1 := e1.size
  refine J_alloc st114 rfl (fun b2 w2 e2 s2 h2 => ?_)
  have g_b2 : w.heap.size ≤ b2 := by have := E.size; omega
  have y_b2 := h2.lt
  replace E := E.trans e2; replace h1 := h1.ext e2
  have z2 := e2.size
  refine J_done ?_
  refine S_seq ?_
  refine S_reg [false] rfl rfl ?_
  refine J_alloc st114 rfl (fun b3 w3 e3 s3 h3 => ?_)
  have g_b3 : w.heap.size ≤ b3 := by have := E.size; omega
  have y_b3 := h3.lt
  replace E := E.trans e3; replace h1 := h1.ext e3; replace h2 := h2.ext e3
  have z3 := e3.size
  refine J_done ?_
  refine S_seq ?_
  refine S_reg [true, true, true, false] rfl rfl ?_
  refine J_st (R_fieldAddr0 fl134_0 rfl) rfl (J_st (R_load sc3 rfl (h1.one 0 rfl)) rfl (J_st (R_fieldAddr0 fl114_0 rfl) rfl ?_))
  refine J_store' (cs' := [.int .i64 x.op, .int .i64 0, .int .i64 0, .int .i64 0, .int .i64 0]) sc3 rfl rfl rfl h3 (Nat.le_of_ble_eq_true rfl) rfl (fun w4 m1 h3' => ?_)
  replace h3 := h3'
  replace E := E.step m1 (fun g hg => by cases hg; omega); replace h1 := h1.mod m1 (fun g hg => by cases hg; omega); replace h2 := h2.mod m1 (fun g hg => by cases hg; omega)
  have z4 := m1.size
  refine J_done ?_
  refine S_seq ?_
  refine S_reg [true, true, false, true, false] rfl rfl ?_
  refine J_st (R_fieldAddr0 fl134_1 rfl) rfl (J_st (R_loadS st132 rfl (h1.part 1 [.int .i64 x.stamp.epoch, .int .i64 x.stamp.turn] rfl) rfl) rfl ?_)
  refine J_call Try.call90 rfl (c_toStamp x.stamp _ ) rfl (fun _ w5 e4 hv => ?_)
  subst hv
  replace E := E.trans e4; replace h1 := h1.ext e4; replace h2 := h2.ext e4; replace h3 := h3.ext e4
  have z5 := e4.size
  refine J_st (R_fieldAddr0 fl114_1 rfl) rfl ?_
  refine J_storeS' (cs' := [.int .i64 x.op, .int .i64 x.stamp.epoch, .int .i64 x.stamp.turn, .int .i64 0, .int .i64 0]) st112 rfl rfl rfl rfl h3 (Nat.le_of_ble_eq_true rfl) rfl (fun w6 m2 h3' => ?_)
  replace h3 := h3'
  replace E := E.step m2 (fun g hg => by cases hg; omega); replace h1 := h1.mod m2 (fun g hg => by cases hg; omega); replace h2 := h2.mod m2 (fun g hg => by cases hg; omega)
  have z6 := m2.size
  refine J_done ?_
  refine S_seq ?_
  refine S_reg [true, true, true, false] rfl rfl ?_
  refine J_st (R_fieldAddr0 fl134_2 rfl) rfl (J_st (R_load sc3 rfl (h1.one 3 rfl)) rfl (J_st (R_fieldAddr0 fl114_2 rfl) rfl ?_))
  refine J_store' (cs' := [.int .i64 x.op, .int .i64 x.stamp.epoch, .int .i64 x.stamp.turn, .int .i64 x.key, .int .i64 0]) sc3 rfl rfl rfl h3 (Nat.le_of_ble_eq_true rfl) rfl (fun w7 m3 h3' => ?_)
  replace h3 := h3'
  replace E := E.step m3 (fun g hg => by cases hg; omega); replace h1 := h1.mod m3 (fun g hg => by cases hg; omega); replace h2 := h2.mod m3 (fun g hg => by cases hg; omega)
  have z7 := m3.size
  refine J_done ?_
  refine S_seq ?_
  refine S_reg [true, true, true, false] rfl rfl ?_
  refine J_st (R_fieldAddr0 fl134_3 rfl) rfl (J_st (R_load sc3 rfl (h1.one 4 rfl)) rfl (J_st (R_fieldAddr0 fl114_3 rfl) rfl ?_))
  refine J_store' (cs' := [.int .i64 x.op, .int .i64 x.stamp.epoch, .int .i64 x.stamp.turn, .int .i64 x.key, .int .i64 x.val]) sc3 rfl rfl rfl h3 (Nat.le_of_ble_eq_true rfl) rfl (fun w8 m4 h3' => ?_)
  replace h3 := h3'
  replace E := E.step m4 (fun g hg => by cases hg; omega); replace h1 := h1.mod m4 (fun g hg => by cases hg; omega); replace h2 := h2.mod m4 (fun g hg => by cases hg; omega)
  have z8 := m4.size
  refine J_done ?_
  refine S_seq ?_
  refine S_reg [true, false] rfl rfl ?_
  refine J_st (R_loadS st114 rfl h3.at rfl) rfl ?_
  refine J_storeS' (cs' := [.int .i64 x.op, .int .i64 x.stamp.epoch, .int .i64 x.stamp.turn, .int .i64 x.key, .int .i64 x.val]) st114 rfl rfl rfl rfl h2 (Nat.le_of_ble_eq_true rfl) rfl (fun w9 m5 h2' => ?_)
  replace h2 := h2'
  replace E := E.step m5 (fun g hg => by cases hg; omega); replace h1 := h1.mod m5 (fun g hg => by cases hg; omega); replace h3 := h3.mod m5 (fun g hg => by cases hg; omega)
  have z9 := m5.size
  refine J_done ?_
  refine S_ret (E_doneC rfl rfl (run_loadVar_st st114 h2.at rfl) E ?_)
  rfl

set_option maxRecDepth 20000 in
theorem c_eqStamp (x : Stamp) (y : Stamp) (w : World)  : Ct Try.prog 91 [.agg (Enc.enc x).toArray, .agg (Enc.enc y).toArray] w (fun v _ => v = .bool (decide (x = y))) := by
  refine ct_of Try.func91 rfl Try.ntmps91 rfl ?_
  refine S_sub [(0, .agg (Enc.enc x).toArray), (1, .agg (Enc.enc y).toArray)] ⟨rfl, rfl, trivial⟩ ?_
  have E : Ext w w := Ext.refl w
  refine S_seq ?_
  refine S_reg [false, false, true] rfl rfl ?_
  refine J_box rfl rfl (fun b1 w1 e1 s1 h1 => ?_)
  have g_b1 : w.heap.size ≤ b1 := by have := E.size; omega
  have y_b1 := h1.lt
  replace E := E.trans e1
  have z1 := e1.size
  refine J_box rfl rfl (fun b2 w2 e2 s2 h2 => ?_)
  have g_b2 : w.heap.size ≤ b2 := by have := E.size; omega
  have y_b2 := h2.lt
  replace E := E.trans e2; replace h1 := h1.ext e2
  have z2 := e2.size
  refine J_st (R_assign rfl) rfl (J_done ?_)
  refine S_seq ?_
  refine S_seq ?_
  refine S_reg [true, true, true, true, true] rfl rfl ?_
  refine J_st (R_fieldAddr0 fl112_0 rfl) rfl (J_st (R_load sc3 rfl (h1.one 0 rfl)) rfl (J_st (R_fieldAddr0 fl112_0 rfl) rfl (J_st (R_load sc3 rfl (h2.one 0 rfl)) rfl (J_st (R_neq rfl rfl) rfl (J_done ?_)))))
  refine S_cond rfl (fun hc1 => ?_) (fun hc1 => ?_)
  · refine S_seq ?_
    refine S_reg [true] rfl rfl ?_
    refine J_st (R_assign rfl) rfl (J_done ?_)
    refine S_ret (E_done1 rfl rfl E ?_)
    cases x; cases y; simp_all
  · refine S_skip ?_
    refine S_seq ?_
    refine S_seq ?_
    refine S_reg [true, true, true, true, true] rfl rfl ?_
    refine J_st (R_fieldAddr0 fl112_1 rfl) rfl (J_st (R_load sc3 rfl (h1.one 1 rfl)) rfl (J_st (R_fieldAddr0 fl112_1 rfl) rfl (J_st (R_load sc3 rfl (h2.one 1 rfl)) rfl (J_st (R_neq rfl rfl) rfl (J_done ?_)))))
    refine S_cond rfl (fun hc2 => ?_) (fun hc2 => ?_)
    · refine S_seq ?_
      refine S_reg [true] rfl rfl ?_
      refine J_st (R_assign rfl) rfl (J_done ?_)
      refine S_ret (E_done1 rfl rfl E ?_)
      cases x; cases y; simp_all
    · refine S_skip ?_
      refine S_seq ?_
      refine S_reg [true] rfl rfl ?_
      refine J_st (R_assign rfl) rfl (J_done ?_)
      refine S_ret (E_done1 rfl rfl E ?_)
      cases x; cases y; simp_all

set_option maxRecDepth 20000 in
theorem c_eqRecord (x : Record) (y : Record) (w : World)  : Ct Try.prog 87 [.agg (Enc.enc x).toArray, .agg (Enc.enc y).toArray] w (fun v _ => v = .bool (decide (x = y))) := by
  refine ct_of Try.func87 rfl Try.ntmps87 rfl ?_
  refine S_sub [(0, .agg (Enc.enc x).toArray), (1, .agg (Enc.enc y).toArray)] ⟨rfl, rfl, trivial⟩ ?_
  have E : Ext w w := Ext.refl w
  refine S_seq ?_
  refine S_reg [false, false, true] rfl rfl ?_
  refine J_box rfl rfl (fun b1 w1 e1 s1 h1 => ?_)
  have g_b1 : w.heap.size ≤ b1 := by have := E.size; omega
  have y_b1 := h1.lt
  replace E := E.trans e1
  have z1 := e1.size
  refine J_box rfl rfl (fun b2 w2 e2 s2 h2 => ?_)
  have g_b2 : w.heap.size ≤ b2 := by have := E.size; omega
  have y_b2 := h2.lt
  replace E := E.trans e2; replace h1 := h1.ext e2
  have z2 := e2.size
  refine J_st (R_assign rfl) rfl (J_done ?_)
  refine S_seq ?_
  refine S_seq ?_
  refine S_reg [true, true, true, true, true] rfl rfl ?_
  refine J_st (R_fieldAddr0 fl114_0 rfl) rfl (J_st (R_load sc3 rfl (h1.one 0 rfl)) rfl (J_st (R_fieldAddr0 fl114_0 rfl) rfl (J_st (R_load sc3 rfl (h2.one 0 rfl)) rfl (J_st (R_neq rfl rfl) rfl (J_done ?_)))))
  refine S_cond rfl (fun hc1 => ?_) (fun hc1 => ?_)
  · refine S_seq ?_
    refine S_reg [true] rfl rfl ?_
    refine J_st (R_assign rfl) rfl (J_done ?_)
    refine S_ret (E_done1 rfl rfl E ?_)
    cases x; cases y; simp_all
  · refine S_skip ?_
    refine S_seq ?_
    refine S_seq ?_
    refine S_reg [true, true, true, true, false, true] rfl rfl ?_
    refine J_st (R_fieldAddr0 fl114_1 rfl) rfl (J_st (R_loadS st112 rfl (h1.part 1 [.int .i64 x.stamp.epoch, .int .i64 x.stamp.turn] rfl) rfl) rfl (J_st (R_fieldAddr0 fl114_1 rfl) rfl (J_st (R_loadS st112 rfl (h2.part 1 [.int .i64 y.stamp.epoch, .int .i64 y.stamp.turn] rfl) rfl) rfl ?_)))
    refine J_call Try.call91 rfl (c_eqStamp x.stamp y.stamp _ ) rfl (fun _ w3 e3 hv => ?_)
    subst hv
    replace E := E.trans e3; replace h1 := h1.ext e3; replace h2 := h2.ext e3
    have z3 := e3.size
    refine J_st (R_not rfl) rfl (J_done ?_)
    refine S_cond rfl (fun hc2 => ?_) (fun hc2 => ?_)
    · refine S_seq ?_
      refine S_reg [true] rfl rfl ?_
      refine J_st (R_assign rfl) rfl (J_done ?_)
      refine S_ret (E_done1 rfl rfl E ?_)
      cases x; cases y; simp_all
    · refine S_skip ?_
      refine S_seq ?_
      refine S_seq ?_
      refine S_reg [true, true, true, true, true] rfl rfl ?_
      refine J_st (R_fieldAddr0 fl114_2 rfl) rfl (J_st (R_load sc3 rfl (h1.one 3 rfl)) rfl (J_st (R_fieldAddr0 fl114_2 rfl) rfl (J_st (R_load sc3 rfl (h2.one 3 rfl)) rfl (J_st (R_neq rfl rfl) rfl (J_done ?_)))))
      refine S_cond rfl (fun hc3 => ?_) (fun hc3 => ?_)
      · refine S_seq ?_
        refine S_reg [true] rfl rfl ?_
        refine J_st (R_assign rfl) rfl (J_done ?_)
        refine S_ret (E_done1 rfl rfl E ?_)
        cases x; cases y; simp_all
      · refine S_skip ?_
        refine S_seq ?_
        refine S_seq ?_
        refine S_reg [true, true, true, true, true] rfl rfl ?_
        refine J_st (R_fieldAddr0 fl114_3 rfl) rfl (J_st (R_load sc3 rfl (h1.one 4 rfl)) rfl (J_st (R_fieldAddr0 fl114_3 rfl) rfl (J_st (R_load sc3 rfl (h2.one 4 rfl)) rfl (J_st (R_neq rfl rfl) rfl (J_done ?_)))))
        refine S_cond rfl (fun hc4 => ?_) (fun hc4 => ?_)
        · refine S_seq ?_
          refine S_reg [true] rfl rfl ?_
          refine J_st (R_assign rfl) rfl (J_done ?_)
          refine S_ret (E_done1 rfl rfl E ?_)
          cases x; cases y; simp_all
        · refine S_skip ?_
          refine S_seq ?_
          refine S_reg [true] rfl rfl ?_
          refine J_st (R_assign rfl) rfl (J_done ?_)
          refine S_ret (E_done1 rfl rfl E ?_)
          cases x; cases y; simp_all

set_option maxRecDepth 20000 in
theorem c_toDone (x : Done) (w : World)  : Ct Try.prog 86 [.agg (Enc.enc x).toArray] w (fun v _ => v = .agg (Enc.enc x).toArray) := by
  refine ct_of Try.func86 rfl Try.ntmps86 rfl ?_
  refine S_sub [(0, .agg (Enc.enc x).toArray)] ⟨rfl, trivial⟩ ?_
  have E : Ext w w := Ext.refl w
  refine S_seq ?_
  refine S_reg [false, false] rfl rfl ?_
  refine J_box rfl rfl (fun b1 w1 e1 s1 h1 => ?_)
  have g_b1 : w.heap.size ≤ b1 := by have := E.size; omega
  have y_b1 := h1.lt
  replace E := E.trans e1
  have z1 := e1.size
  refine J_alloc st108 rfl (fun b2 w2 e2 s2 h2 => ?_)
  have g_b2 : w.heap.size ≤ b2 := by have := E.size; omega
  have y_b2 := h2.lt
  replace E := E.trans e2; replace h1 := h1.ext e2
  have z2 := e2.size
  refine J_done ?_
  refine S_seq ?_
  refine S_reg [false] rfl rfl ?_
  refine J_alloc st108 rfl (fun b3 w3 e3 s3 h3 => ?_)
  have g_b3 : w.heap.size ≤ b3 := by have := E.size; omega
  have y_b3 := h3.lt
  replace E := E.trans e3; replace h1 := h1.ext e3; replace h2 := h2.ext e3
  have z3 := e3.size
  refine J_done ?_
  refine S_seq ?_
  refine S_reg [true, true, true, false] rfl rfl ?_
  refine J_st (R_fieldAddr0 fl138_0 rfl) rfl (J_st (R_load sc3 rfl (h1.one 0 rfl)) rfl (J_st (R_fieldAddr0 fl108_0 rfl) rfl ?_))
  refine J_store' (cs' := [.int .i64 x.epoch, .bool false]) sc3 rfl rfl rfl h3 (Nat.le_of_ble_eq_true rfl) rfl (fun w4 m1 h3' => ?_)
  replace h3 := h3'
  replace E := E.step m1 (fun g hg => by cases hg; omega); replace h1 := h1.mod m1 (fun g hg => by cases hg; omega); replace h2 := h2.mod m1 (fun g hg => by cases hg; omega)
  have z4 := m1.size
  refine J_done ?_
  refine S_seq ?_
  refine S_reg [true, true, true, false] rfl rfl ?_
  refine J_st (R_fieldAddr0 fl138_1 rfl) rfl (J_st (R_load sc4 rfl (h1.one 1 rfl)) rfl (J_st (R_fieldAddr0 fl108_1 rfl) rfl ?_))
  refine J_store' (cs' := [.int .i64 x.epoch, .bool x.capped]) sc4 rfl rfl rfl h3 (Nat.le_of_ble_eq_true rfl) rfl (fun w5 m2 h3' => ?_)
  replace h3 := h3'
  replace E := E.step m2 (fun g hg => by cases hg; omega); replace h1 := h1.mod m2 (fun g hg => by cases hg; omega); replace h2 := h2.mod m2 (fun g hg => by cases hg; omega)
  have z5 := m2.size
  refine J_done ?_
  refine S_seq ?_
  refine S_reg [true, false] rfl rfl ?_
  refine J_st (R_loadS st108 rfl h3.at rfl) rfl ?_
  refine J_storeS' (cs' := [.int .i64 x.epoch, .bool x.capped]) st108 rfl rfl rfl rfl h2 (Nat.le_of_ble_eq_true rfl) rfl (fun w6 m3 h2' => ?_)
  replace h2 := h2'
  replace E := E.step m3 (fun g hg => by cases hg; omega); replace h1 := h1.mod m3 (fun g hg => by cases hg; omega); replace h3 := h3.mod m3 (fun g hg => by cases hg; omega)
  have z6 := m3.size
  refine J_done ?_
  refine S_ret (E_doneC rfl rfl (run_loadVar_st st108 h2.at rfl) E ?_)
  rfl

set_option maxRecDepth 20000 in
theorem c_eqDone (x : Done) (y : Done) (w : World)  : Ct Try.prog 89 [.agg (Enc.enc x).toArray, .agg (Enc.enc y).toArray] w (fun v _ => v = .bool (decide (x = y))) := by
  refine ct_of Try.func89 rfl Try.ntmps89 rfl ?_
  refine S_sub [(0, .agg (Enc.enc x).toArray), (1, .agg (Enc.enc y).toArray)] ⟨rfl, rfl, trivial⟩ ?_
  have E : Ext w w := Ext.refl w
  refine S_seq ?_
  refine S_reg [false, false, true] rfl rfl ?_
  refine J_box rfl rfl (fun b1 w1 e1 s1 h1 => ?_)
  have g_b1 : w.heap.size ≤ b1 := by have := E.size; omega
  have y_b1 := h1.lt
  replace E := E.trans e1
  have z1 := e1.size
  refine J_box rfl rfl (fun b2 w2 e2 s2 h2 => ?_)
  have g_b2 : w.heap.size ≤ b2 := by have := E.size; omega
  have y_b2 := h2.lt
  replace E := E.trans e2; replace h1 := h1.ext e2
  have z2 := e2.size
  refine J_st (R_assign rfl) rfl (J_done ?_)
  refine S_seq ?_
  refine S_seq ?_
  refine S_reg [true, true, true, true, true] rfl rfl ?_
  refine J_st (R_fieldAddr0 fl108_0 rfl) rfl (J_st (R_load sc3 rfl (h1.one 0 rfl)) rfl (J_st (R_fieldAddr0 fl108_0 rfl) rfl (J_st (R_load sc3 rfl (h2.one 0 rfl)) rfl (J_st (R_neq rfl rfl) rfl (J_done ?_)))))
  refine S_cond rfl (fun hc1 => ?_) (fun hc1 => ?_)
  · refine S_seq ?_
    refine S_reg [true] rfl rfl ?_
    refine J_st (R_assign rfl) rfl (J_done ?_)
    refine S_ret (E_done1 rfl rfl E ?_)
    cases x; cases y; simp_all
  · refine S_skip ?_
    refine S_seq ?_
    refine S_seq ?_
    refine S_reg [true, true, true, true, true] rfl rfl ?_
    refine J_st (R_fieldAddr0 fl108_1 rfl) rfl (J_st (R_load sc4 rfl (h1.one 1 rfl)) rfl (J_st (R_fieldAddr0 fl108_1 rfl) rfl (J_st (R_load sc4 rfl (h2.one 1 rfl)) rfl (J_st (R_neqB (Try.underlying4) rfl rfl) rfl (J_done ?_)))))
    refine S_cond rfl (fun hc2 => ?_) (fun hc2 => ?_)
    · refine S_seq ?_
      refine S_reg [true] rfl rfl ?_
      refine J_st (R_assign rfl) rfl (J_done ?_)
      refine S_ret (E_done1 rfl rfl E ?_)
      cases x; cases y; simp_all
    · refine S_skip ?_
      refine S_seq ?_
      refine S_reg [true] rfl rfl ?_
      refine J_st (R_assign rfl) rfl (J_done ?_)
      refine S_ret (E_done1 rfl rfl E ?_)
      cases x; cases y; simp_all

set_option maxRecDepth 20000 in
theorem c_szRecordS (vxs : Value) (xs : List Record) (n : Int) (w : World) (hxs : RdS w vxs xs) (h0 : 0 ≤ n ∧ n ≤ 1048576) : Ct Try.prog 67 [vxs, .int .i64 n] w (fun v _ => v = .int .i64 (szM xs.length n)) := by
  refine ct_of Try.func67 rfl Try.ntmps67 rfl ?_
  refine S_sub [(0, vxs), (1, .int .i64 n)] ⟨rfl, rfl, trivial⟩ ?_
  have E : Ext w w := Ext.refl w
  refine S_seq ?_
  refine S_reg [true] rfl rfl ?_
  refine J_st (R_assign rfl) rfl (J_done ?_)
  refine S_seq ?_
  refine S_reg [true, true, true, true, true] rfl rfl ?_
  refine J_st (R_move rfl) rfl (J_st (R_move rfl) rfl (J_st (R_len Try.underlying83 rfl (hxs.ext E).len) rfl (J_st (R_sub rfl rfl rfl) rfl (J_st (R_assign rfl) rfl (J_done ?_)))))
  refine S_seq ?_
  refine S_seq ?_
  refine S_reg [true, true] rfl rfl ?_
  refine J_st (R_move rfl) rfl (J_st (R_lss rfl rfl) rfl (J_done ?_))
  refine S_cond rfl (fun hc1 => ?_) (fun hc1 => ?_)
  · refine S_seq ?_
    refine S_reg [true] rfl rfl ?_
    refine J_st (R_assign rfl) rfl (J_done ?_)
    refine S_ret (E_done1 rfl rfl E ?_)
    exact sz_no h0.2 h0.1 hxs.1 hc1
  · refine S_skip ?_
    refine S_seq ?_
    refine S_reg [true, true] rfl rfl ?_
    refine J_st (R_move rfl) rfl (J_st (R_assign rfl) rfl (J_done ?_))
    refine S_ret (E_done1 rfl rfl E ?_)
    exact sz_yes h0.2 h0.1 hxs.1 hc1

set_option maxRecDepth 20000 in
theorem c_toRecordS (vxs : Value) (xs : List Record) (w : World) (hxs : RdS w vxs xs) (hb : xs.length ≤ 1048576) : Ct Try.prog 73 [vxs] w (fun v w' => Own w' w.heap.size w'.heap.size 5 v (List.flatMap (Enc.enc (α := Record)) xs)) := by
  refine ct_of Try.func73 rfl Try.ntmps73 rfl ?_
  refine S_sub [(0, vxs)] ⟨rfl, trivial⟩ ?_
  have E : Ext w w := Ext.refl w
  refine S_seq ?_
  refine S_reg [true] rfl rfl ?_
  refine J_st (R_assign rfl) rfl (J_done ?_)
  refine S_seq ?_
  refine S_reg [true, true, false, true] rfl rfl ?_
  refine J_st (R_move rfl) rfl (J_st (R_len Try.underlying83 rfl (hxs.ext E).len) rfl ?_)
  refine J_make (m := xs.length) sl66 rfl rfl (by omega) (by decide) rfl (fun b1 w1 e1 s1 h1 => ?_)
  have g_b1 : w.heap.size ≤ b1 := by have := E.size; omega
  have y_b1 := h1.lt
  replace E := E.trans e1
  have z1 := e1.size
  refine J_st (R_assign rfl) rfl (J_done ?_)
  refine S_seq ?_
  refine S_seq ?_
  refine S_reg [true] rfl rfl ?_
  refine J_st (R_assign rfl) rfl (J_done ?_)
  refine S_block ?_
  refine S_loop (fun (k : Nat) => [(0, vxs), (2, .slice none 0 0), (3, .slice (some ⟨b1, 0, none⟩) xs.length xs.length), (4, .int .i64 ((k : Nat) : Int))]) (fun (k : Nat) w' => Ext w w' ∧ w1.heap.size ≤ w'.heap.size ∧ k ≤ xs.length ∧ Blk w' b1 (mk xs [.int .i64 0, .int .i64 0, .int .i64 0, .int .i64 0, .int .i64 0] k xs.length)) (fun (k : Nat) => xs.length - k) 0 ⟨rfl, rfl, rfl, rfl, trivial⟩ ⟨E, Nat.le_refl _, Nat.zero_le _, (mk_zero xs [.int .i64 0, .int .i64 0, .int .i64 0, .int .i64 0, .int .i64 0] xs.length) ▸ h1⟩ ?_
  clear E h1
  rintro k w2 ⟨E, z2, hk, h1⟩
  refine S_seq ?_
  refine S_seq ?_
  refine S_reg [true, true, true, true] rfl rfl ?_
  refine J_st (R_move rfl) rfl (J_st (R_move rfl) rfl (J_st (R_len Try.underlying83 rfl (hxs.ext E).len) rfl (J_st (R_lss rfl rfl) rfl (J_done ?_))))
  refine S_cond rfl (fun hc1 => ?_) (fun hc1 => ?_)
  · have hc1n : k < xs.length := by first | (have h := of_decide_eq_true hc1; omega) | (have h := hc1; simp at h; omega)
    refine S_skip ?_
    refine S_seq ?_
    refine S_block ?_
    refine S_reg [true, true, true, true, true, true, false, true, false] rfl rfl ?_
    refine J_st (R_move rfl) rfl (J_st (R_move rfl) rfl (J_st (R_move rfl) rfl (J_st (R_move rfl) rfl ?_)))
    have hi1 : k < xs.length := (by first | assumption | omega)
    refine J_st (R_index (i := k) sl83 rfl rfl (hxs.ext E) hi1) rfl (J_st (R_loadS st134 rfl ((hxs.ext E).get hi1) rfl) rfl ?_)
    refine J_call Try.call84 rfl (c_toRecord (xs[k]'hi1) _ ) rfl (fun _ w3 e2 hv => ?_)
    subst hv
    replace E := E.trans e2; replace h1 := h1.ext e2
    have z3 := e2.size
    refine J_st (R_indexB sl66 rfl rfl (by first | assumption | omega)) rfl ?_
    refine J_storeS' (cs' := mk xs [.int .i64 0, .int .i64 0, .int .i64 0, .int .i64 0, .int .i64 0] (k + 1) xs.length) st114 rfl rfl rfl rfl h1 (mk_room xs [.int .i64 0, .int .i64 0, .int .i64 0, .int .i64 0, .int .i64 0] rfl hc1n hc1n (by rfl)) (mk_step xs [.int .i64 0, .int .i64 0, .int .i64 0, .int .i64 0, .int .i64 0] rfl hc1n hc1n) (fun w4 m1 h1' => ?_)
    replace h1 := h1'
    replace E := E.step m1 (fun g hg => by cases hg; omega)
    have z4 := m1.size
    refine J_done ?_
    refine S_nil (E_inB ?_)
    refine S_reg [true, true, true] rfl rfl ?_
    refine J_st (R_move rfl) rfl (J_st (R_add rfl rfl (add_one hc1n hxs.1)) rfl (J_st (R_assign rfl) rfl (J_done ?_)))
    refine S_nil (E_again (k + 1) (by omega) ⟨rfl, rfl, rfl, rfl, trivial⟩ ⟨E, (by omega), (by omega), h1⟩)
  · have hc1n : ¬ k < xs.length := by first | (have h := of_decide_eq_false hc1; omega) | (have h := hc1; simp at h; omega)
    refine S_exit (E_lp_exit (E_inB_exit ?_))
    refine S_seq ?_
    refine S_reg [true, true] rfl rfl ?_
    refine J_st (R_move rfl) rfl (J_st (R_assign rfl) rfl (J_done ?_))
    refine S_ret (E_done1 rfl rfl E ?_)
    obtain rfl : k = xs.length := by omega
    rw [mk_all] at h1
    exact Own.ofBlk h1 (by omega) (by have := h1.lt; omega) (sum_flat xs) hxs.1

set_option maxRecDepth 20000 in
theorem c_eqRecordS (vxs : Value) (xs : List Record) (vys : Value) (ys : List Record) (w : World) (hxs : RdS w vxs xs) (hys : RdS w vys ys) : Ct Try.prog 79 [vxs, vys] w (fun v _ => v = .bool (decide (xs = ys))) := by
  refine ct_of Try.func79 rfl Try.ntmps79 rfl ?_
  refine S_sub [(0, vxs), (1, vys)] ⟨rfl, rfl, trivial⟩ ?_
  have E : Ext w w := Ext.refl w
  refine S_seq ?_
  refine S_reg [true] rfl rfl ?_
  refine J_st (R_assign rfl) rfl (J_done ?_)
  refine S_seq ?_
  refine S_seq ?_
  refine S_reg [true, true, true, true, true] rfl rfl ?_
  refine J_st (R_move rfl) rfl (J_st (R_len Try.underlying66 rfl (hxs.ext E).len) rfl (J_st (R_move rfl) rfl (J_st (R_len Try.underlying66 rfl (hys.ext E).len) rfl (J_st (R_neq rfl rfl) rfl (J_done ?_)))))
  refine S_cond rfl (fun hc1 => ?_) (fun hc1 => ?_)
  · have hc1n : ¬ xs.length = ys.length := by first | (have h := of_decide_eq_true hc1; omega) | (have h := hc1; simp at h; omega)
    refine S_seq ?_
    refine S_reg [true] rfl rfl ?_
    refine J_st (R_assign rfl) rfl (J_done ?_)
    refine S_ret (E_done1 rfl rfl E ?_)
    simp [eq_len hc1n]
  · have hc1n : xs.length = ys.length := by first | (have h := of_decide_eq_false hc1; omega) | (have h := hc1; simp at h; omega)
    refine S_skip ?_
    refine S_seq ?_
    refine S_seq ?_
    refine S_reg [true] rfl rfl ?_
    refine J_st (R_assign rfl) rfl (J_done ?_)
    refine S_block ?_
    refine S_loop (fun (k : Nat) => [(0, vxs), (1, vys), (4, .bool false), (5, .int .i64 ((k : Nat) : Int))]) (fun (k : Nat) w' => Ext w w' ∧ w.heap.size ≤ w'.heap.size ∧ k ≤ xs.length ∧ xs.take k = ys.take k) (fun (k : Nat) => xs.length - k) 0 ⟨rfl, rfl, rfl, rfl, trivial⟩ ⟨E, Nat.le_refl _, Nat.zero_le _, rfl⟩ ?_
    clear E
    rintro k w1 ⟨E, z1, hk, hp⟩
    refine S_seq ?_
    refine S_seq ?_
    refine S_reg [true, true, true, true] rfl rfl ?_
    refine J_st (R_move rfl) rfl (J_st (R_move rfl) rfl (J_st (R_len Try.underlying66 rfl (hxs.ext E).len) rfl (J_st (R_lss rfl rfl) rfl (J_done ?_))))
    refine S_cond rfl (fun hc2 => ?_) (fun hc2 => ?_)
    · have hc2n : k < xs.length := by first | (have h := of_decide_eq_true hc2; omega) | (have h := hc2; simp at h; omega)
      refine S_skip ?_
      refine S_seq ?_
      refine S_block ?_
      refine S_seq ?_
      refine S_regD mixed [(0, true), (1, true), (2, true), (3, true), (4, true), (5, true), (6, true), (7, true), (8, false), (9, true)] (by decide +kernel) rfl (fun w2 e1 => ?_)
      replace E := E.trans e1
      have z2 := e1.size
      refine J_st (R_move rfl) rfl (J_st (R_move rfl) rfl ?_)
      have hi1 : k < xs.length := (by first | assumption | omega)
      refine J_st (R_index (i := k) sl66 rfl rfl (hxs.ext E) hi1) rfl (J_st (R_loadS st114 rfl ((hxs.ext E).get hi1) rfl) rfl (J_st (R_move rfl) rfl (J_st (R_move rfl) rfl ?_)))
      have hi2 : k < ys.length := (by first | assumption | omega)
      refine J_st (R_index (i := k) sl66 rfl rfl (hys.ext E) hi2) rfl (J_st (R_loadS st114 rfl ((hys.ext E).get hi2) rfl) rfl ?_)
      refine J_call Try.call87 rfl (c_eqRecord (xs[k]'hi1) (ys[k]'hi2) _ ) rfl (fun _ w3 e2 hv => ?_)
      subst hv
      replace E := E.trans e2
      have z3 := e2.size
      refine J_st (R_not rfl) rfl (J_done ?_)
      refine S_cond rfl (fun hc3 => ?_) (fun hc3 => ?_)
      · refine S_seq ?_
        refine S_reg [true] rfl rfl ?_
        refine J_st (R_assign rfl) rfl (J_done ?_)
        refine S_ret (E_inB_ret (E_lp_ret (E_inB_ret (E_done1 rfl rfl E ?_))))
        exact eqS_no (by omega) (by omega) (by simpa using hc3)
      · refine S_skip ?_
        refine S_nil (E_inB ?_)
        refine S_reg [true, true, true] rfl rfl ?_
        refine J_st (R_move rfl) rfl (J_st (R_add rfl rfl (add_one hc2n hxs.1)) rfl (J_st (R_assign rfl) rfl (J_done ?_)))
        refine S_nil (E_again (k + 1) (by omega) ⟨rfl, rfl, rfl, rfl, trivial⟩ ⟨E, (by omega), (by omega), eqS_step hp (by assumption) (by omega) (by simpa using hc3)⟩)
    · have hc2n : ¬ k < xs.length := by first | (have h := of_decide_eq_false hc2; omega) | (have h := hc2; simp at h; omega)
      refine S_exit (E_lp_exit (E_inB_exit ?_))
      refine S_seq ?_
      refine S_reg [true] rfl rfl ?_
      refine J_st (R_assign rfl) rfl (J_done ?_)
      refine S_ret (E_done1 rfl rfl E ?_)
      exact eqS_yes hp hc1n (by omega)

set_option maxRecDepth 20000 in
theorem c_szBoolS (vxs : Value) (xs : List Bool) (n : Int) (w : World) (hxs : RdS w vxs xs) (h0 : 0 ≤ n ∧ n ≤ 1048576) : Ct Try.prog 70 [vxs, .int .i64 n] w (fun v _ => v = .int .i64 (szM xs.length n)) := by
  refine ct_of Try.func70 rfl Try.ntmps70 rfl ?_
  refine S_sub [(0, vxs), (1, .int .i64 n)] ⟨rfl, rfl, trivial⟩ ?_
  have E : Ext w w := Ext.refl w
  refine S_seq ?_
  refine S_reg [true] rfl rfl ?_
  refine J_st (R_assign rfl) rfl (J_done ?_)
  refine S_seq ?_
  refine S_reg [true, true, true, true, true] rfl rfl ?_
  refine J_st (R_move rfl) rfl (J_st (R_move rfl) rfl (J_st (R_len Try.underlying69 rfl (hxs.ext E).len) rfl (J_st (R_sub rfl rfl rfl) rfl (J_st (R_assign rfl) rfl (J_done ?_)))))
  refine S_seq ?_
  refine S_seq ?_
  refine S_reg [true, true] rfl rfl ?_
  refine J_st (R_move rfl) rfl (J_st (R_lss rfl rfl) rfl (J_done ?_))
  refine S_cond rfl (fun hc1 => ?_) (fun hc1 => ?_)
  · refine S_seq ?_
    refine S_reg [true] rfl rfl ?_
    refine J_st (R_assign rfl) rfl (J_done ?_)
    refine S_ret (E_done1 rfl rfl E ?_)
    exact sz_no h0.2 h0.1 hxs.1 hc1
  · refine S_skip ?_
    refine S_seq ?_
    refine S_reg [true, true] rfl rfl ?_
    refine J_st (R_move rfl) rfl (J_st (R_assign rfl) rfl (J_done ?_))
    refine S_ret (E_done1 rfl rfl E ?_)
    exact sz_yes h0.2 h0.1 hxs.1 hc1

set_option maxRecDepth 20000 in
theorem c_toBoolS (vxs : Value) (xs : List Bool) (w : World) (hxs : RdS w vxs xs) (hb : xs.length ≤ 1048576) : Ct Try.prog 76 [vxs] w (fun v w' => Own w' w.heap.size w'.heap.size 1 v (List.flatMap (Enc.enc (α := Bool)) xs)) := by
  refine ct_of Try.func76 rfl Try.ntmps76 rfl ?_
  refine S_sub [(0, vxs)] ⟨rfl, trivial⟩ ?_
  have E : Ext w w := Ext.refl w
  refine S_seq ?_
  refine S_reg [true] rfl rfl ?_
  refine J_st (R_assign rfl) rfl (J_done ?_)
  refine S_seq ?_
  refine S_reg [true, true, false, true] rfl rfl ?_
  refine J_st (R_move rfl) rfl (J_st (R_len Try.underlying69 rfl (hxs.ext E).len) rfl ?_)
  refine J_make (m := xs.length) sl69 rfl rfl (by omega) (by decide) rfl (fun b1 w1 e1 s1 h1 => ?_)
  have g_b1 : w.heap.size ≤ b1 := by have := E.size; omega
  have y_b1 := h1.lt
  replace E := E.trans e1
  have z1 := e1.size
  refine J_st (R_assign rfl) rfl (J_done ?_)
  refine S_seq ?_
  refine S_seq ?_
  refine S_reg [true] rfl rfl ?_
  refine J_st (R_assign rfl) rfl (J_done ?_)
  refine S_block ?_
  refine S_loop (fun (k : Nat) => [(0, vxs), (2, .slice none 0 0), (3, .slice (some ⟨b1, 0, none⟩) xs.length xs.length), (4, .int .i64 ((k : Nat) : Int))]) (fun (k : Nat) w' => Ext w w' ∧ w1.heap.size ≤ w'.heap.size ∧ k ≤ xs.length ∧ Blk w' b1 (mk xs [.bool false] k xs.length)) (fun (k : Nat) => xs.length - k) 0 ⟨rfl, rfl, rfl, rfl, trivial⟩ ⟨E, Nat.le_refl _, Nat.zero_le _, (mk_zero xs [.bool false] xs.length) ▸ h1⟩ ?_
  clear E h1
  rintro k w2 ⟨E, z2, hk, h1⟩
  refine S_seq ?_
  refine S_seq ?_
  refine S_reg [true, true, true, true] rfl rfl ?_
  refine J_st (R_move rfl) rfl (J_st (R_move rfl) rfl (J_st (R_len Try.underlying69 rfl (hxs.ext E).len) rfl (J_st (R_lss rfl rfl) rfl (J_done ?_))))
  refine S_cond rfl (fun hc1 => ?_) (fun hc1 => ?_)
  · have hc1n : k < xs.length := by first | (have h := of_decide_eq_true hc1; omega) | (have h := hc1; simp at h; omega)
    refine S_skip ?_
    refine S_seq ?_
    refine S_block ?_
    refine S_reg [true, true, true, true, true, true, true, false] rfl rfl ?_
    refine J_st (R_move rfl) rfl (J_st (R_move rfl) rfl (J_st (R_move rfl) rfl (J_st (R_move rfl) rfl ?_)))
    have hi1 : k < xs.length := (by first | assumption | omega)
    refine J_st (R_index (i := k) sl69 rfl rfl (hxs.ext E) hi1) rfl (J_st (R_load sc4 rfl (((hxs.ext E).get hi1).one 0 rfl)) rfl (J_st (R_indexB sl69 rfl rfl (by first | assumption | omega)) rfl ?_))
    refine J_store' (cs' := mk xs [.bool false] (k + 1) xs.length) sc4 rfl rfl rfl h1 (mk_room xs [.bool false] rfl hc1n hc1n (by rfl)) (mk_step xs [.bool false] rfl hc1n hc1n) (fun w3 m1 h1' => ?_)
    replace h1 := h1'
    replace E := E.step m1 (fun g hg => by cases hg; omega)
    have z3 := m1.size
    refine J_done ?_
    refine S_nil (E_inB ?_)
    refine S_reg [true, true, true] rfl rfl ?_
    refine J_st (R_move rfl) rfl (J_st (R_add rfl rfl (add_one hc1n hxs.1)) rfl (J_st (R_assign rfl) rfl (J_done ?_)))
    refine S_nil (E_again (k + 1) (by omega) ⟨rfl, rfl, rfl, rfl, trivial⟩ ⟨E, (by omega), (by omega), h1⟩)
  · have hc1n : ¬ k < xs.length := by first | (have h := of_decide_eq_false hc1; omega) | (have h := hc1; simp at h; omega)
    refine S_exit (E_lp_exit (E_inB_exit ?_))
    refine S_seq ?_
    refine S_reg [true, true] rfl rfl ?_
    refine J_st (R_move rfl) rfl (J_st (R_assign rfl) rfl (J_done ?_))
    refine S_ret (E_done1 rfl rfl E ?_)
    obtain rfl : k = xs.length := by omega
    rw [mk_all] at h1
    exact Own.ofBlk h1 (by omega) (by have := h1.lt; omega) (sum_flat xs) hxs.1

set_option maxRecDepth 20000 in
theorem c_eqBoolS (vxs : Value) (xs : List Bool) (vys : Value) (ys : List Bool) (w : World) (hxs : RdS w vxs xs) (hys : RdS w vys ys) : Ct Try.prog 82 [vxs, vys] w (fun v _ => v = .bool (decide (xs = ys))) := by
  refine ct_of Try.func82 rfl Try.ntmps82 rfl ?_
  refine S_sub [(0, vxs), (1, vys)] ⟨rfl, rfl, trivial⟩ ?_
  have E : Ext w w := Ext.refl w
  refine S_seq ?_
  refine S_reg [true] rfl rfl ?_
  refine J_st (R_assign rfl) rfl (J_done ?_)
  refine S_seq ?_
  refine S_seq ?_
  refine S_reg [true, true, true, true, true] rfl rfl ?_
  refine J_st (R_move rfl) rfl (J_st (R_len Try.underlying69 rfl (hxs.ext E).len) rfl (J_st (R_move rfl) rfl (J_st (R_len Try.underlying69 rfl (hys.ext E).len) rfl (J_st (R_neq rfl rfl) rfl (J_done ?_)))))
  refine S_cond rfl (fun hc1 => ?_) (fun hc1 => ?_)
  · have hc1n : ¬ xs.length = ys.length := by first | (have h := of_decide_eq_true hc1; omega) | (have h := hc1; simp at h; omega)
    refine S_seq ?_
    refine S_reg [true] rfl rfl ?_
    refine J_st (R_assign rfl) rfl (J_done ?_)
    refine S_ret (E_done1 rfl rfl E ?_)
    simp [eq_len hc1n]
  · have hc1n : xs.length = ys.length := by first | (have h := of_decide_eq_false hc1; omega) | (have h := hc1; simp at h; omega)
    refine S_skip ?_
    refine S_seq ?_
    refine S_seq ?_
    refine S_reg [true] rfl rfl ?_
    refine J_st (R_assign rfl) rfl (J_done ?_)
    refine S_block ?_
    refine S_loop (fun (k : Nat) => [(0, vxs), (1, vys), (4, .bool false), (5, .int .i64 ((k : Nat) : Int))]) (fun (k : Nat) w' => Ext w w' ∧ w.heap.size ≤ w'.heap.size ∧ k ≤ xs.length ∧ xs.take k = ys.take k) (fun (k : Nat) => xs.length - k) 0 ⟨rfl, rfl, rfl, rfl, trivial⟩ ⟨E, Nat.le_refl _, Nat.zero_le _, rfl⟩ ?_
    clear E
    rintro k w1 ⟨E, z1, hk, hp⟩
    refine S_seq ?_
    refine S_seq ?_
    refine S_reg [true, true, true, true] rfl rfl ?_
    refine J_st (R_move rfl) rfl (J_st (R_move rfl) rfl (J_st (R_len Try.underlying69 rfl (hxs.ext E).len) rfl (J_st (R_lss rfl rfl) rfl (J_done ?_))))
    refine S_cond rfl (fun hc2 => ?_) (fun hc2 => ?_)
    · have hc2n : k < xs.length := by first | (have h := of_decide_eq_true hc2; omega) | (have h := hc2; simp at h; omega)
      refine S_skip ?_
      refine S_seq ?_
      refine S_block ?_
      refine S_seq ?_
      refine S_regD mixed [(0, true), (1, true), (2, true), (3, true), (4, true), (5, true), (6, true), (7, true), (8, true)] (by decide +kernel) rfl (fun w2 e1 => ?_)
      replace E := E.trans e1
      have z2 := e1.size
      refine J_st (R_move rfl) rfl (J_st (R_move rfl) rfl ?_)
      have hi1 : k < xs.length := (by first | assumption | omega)
      refine J_st (R_index (i := k) sl69 rfl rfl (hxs.ext E) hi1) rfl (J_st (R_load sc4 rfl (((hxs.ext E).get hi1).one 0 rfl)) rfl (J_st (R_move rfl) rfl (J_st (R_move rfl) rfl ?_)))
      have hi2 : k < ys.length := (by first | assumption | omega)
      refine J_st (R_index (i := k) sl69 rfl rfl (hys.ext E) hi2) rfl (J_st (R_load sc4 rfl (((hys.ext E).get hi2).one 0 rfl)) rfl (J_st (R_neqB (Try.underlying4) rfl rfl) rfl (J_done ?_)))
      refine S_cond rfl (fun hc3 => ?_) (fun hc3 => ?_)
      · refine S_seq ?_
        refine S_reg [true] rfl rfl ?_
        refine J_st (R_assign rfl) rfl (J_done ?_)
        refine S_ret (E_inB_ret (E_lp_ret (E_inB_ret (E_done1 rfl rfl E ?_))))
        exact eqS_no (by omega) (by omega) (by simpa using hc3)
      · refine S_skip ?_
        refine S_nil (E_inB ?_)
        refine S_reg [true, true, true] rfl rfl ?_
        refine J_st (R_move rfl) rfl (J_st (R_add rfl rfl (add_one hc2n hxs.1)) rfl (J_st (R_assign rfl) rfl (J_done ?_)))
        refine S_nil (E_again (k + 1) (by omega) ⟨rfl, rfl, rfl, rfl, trivial⟩ ⟨E, (by omega), (by omega), eqS_step hp (by assumption) (by omega) (by simpa using hc3)⟩)
    · have hc2n : ¬ k < xs.length := by first | (have h := of_decide_eq_false hc2; omega) | (have h := hc2; simp at h; omega)
      refine S_exit (E_lp_exit (E_inB_exit ?_))
      refine S_seq ?_
      refine S_reg [true] rfl rfl ?_
      refine J_st (R_assign rfl) rfl (J_done ?_)
      refine S_ret (E_done1 rfl rfl E ?_)
      exact eqS_yes hp hc1n (by omega)

set_option maxRecDepth 20000 in
theorem c_szDoneS (vxs : Value) (xs : List Done) (n : Int) (w : World) (hxs : RdS w vxs xs) (h0 : 0 ≤ n ∧ n ≤ 1048576) : Ct Try.prog 71 [vxs, .int .i64 n] w (fun v _ => v = .int .i64 (szM xs.length n)) := by
  refine ct_of Try.func71 rfl Try.ntmps71 rfl ?_
  refine S_sub [(0, vxs), (1, .int .i64 n)] ⟨rfl, rfl, trivial⟩ ?_
  have E : Ext w w := Ext.refl w
  refine S_seq ?_
  refine S_reg [true] rfl rfl ?_
  refine J_st (R_assign rfl) rfl (J_done ?_)
  refine S_seq ?_
  refine S_reg [true, true, true, true, true] rfl rfl ?_
  refine J_st (R_move rfl) rfl (J_st (R_move rfl) rfl (J_st (R_len Try.underlying85 rfl (hxs.ext E).len) rfl (J_st (R_sub rfl rfl rfl) rfl (J_st (R_assign rfl) rfl (J_done ?_)))))
  refine S_seq ?_
  refine S_seq ?_
  refine S_reg [true, true] rfl rfl ?_
  refine J_st (R_move rfl) rfl (J_st (R_lss rfl rfl) rfl (J_done ?_))
  refine S_cond rfl (fun hc1 => ?_) (fun hc1 => ?_)
  · refine S_seq ?_
    refine S_reg [true] rfl rfl ?_
    refine J_st (R_assign rfl) rfl (J_done ?_)
    refine S_ret (E_done1 rfl rfl E ?_)
    exact sz_no h0.2 h0.1 hxs.1 hc1
  · refine S_skip ?_
    refine S_seq ?_
    refine S_reg [true, true] rfl rfl ?_
    refine J_st (R_move rfl) rfl (J_st (R_assign rfl) rfl (J_done ?_))
    refine S_ret (E_done1 rfl rfl E ?_)
    exact sz_yes h0.2 h0.1 hxs.1 hc1

set_option maxRecDepth 20000 in
theorem c_toDoneS (vxs : Value) (xs : List Done) (w : World) (hxs : RdS w vxs xs) (hb : xs.length ≤ 1048576) : Ct Try.prog 77 [vxs] w (fun v w' => Own w' w.heap.size w'.heap.size 2 v (List.flatMap (Enc.enc (α := Done)) xs)) := by
  refine ct_of Try.func77 rfl Try.ntmps77 rfl ?_
  refine S_sub [(0, vxs)] ⟨rfl, trivial⟩ ?_
  have E : Ext w w := Ext.refl w
  refine S_seq ?_
  refine S_reg [true] rfl rfl ?_
  refine J_st (R_assign rfl) rfl (J_done ?_)
  refine S_seq ?_
  refine S_reg [true, true, false, true] rfl rfl ?_
  refine J_st (R_move rfl) rfl (J_st (R_len Try.underlying85 rfl (hxs.ext E).len) rfl ?_)
  refine J_make (m := xs.length) sl70 rfl rfl (by omega) (by decide) rfl (fun b1 w1 e1 s1 h1 => ?_)
  have g_b1 : w.heap.size ≤ b1 := by have := E.size; omega
  have y_b1 := h1.lt
  replace E := E.trans e1
  have z1 := e1.size
  refine J_st (R_assign rfl) rfl (J_done ?_)
  refine S_seq ?_
  refine S_seq ?_
  refine S_reg [true] rfl rfl ?_
  refine J_st (R_assign rfl) rfl (J_done ?_)
  refine S_block ?_
  refine S_loop (fun (k : Nat) => [(0, vxs), (2, .slice none 0 0), (3, .slice (some ⟨b1, 0, none⟩) xs.length xs.length), (4, .int .i64 ((k : Nat) : Int))]) (fun (k : Nat) w' => Ext w w' ∧ w1.heap.size ≤ w'.heap.size ∧ k ≤ xs.length ∧ Blk w' b1 (mk xs [.int .i64 0, .bool false] k xs.length)) (fun (k : Nat) => xs.length - k) 0 ⟨rfl, rfl, rfl, rfl, trivial⟩ ⟨E, Nat.le_refl _, Nat.zero_le _, (mk_zero xs [.int .i64 0, .bool false] xs.length) ▸ h1⟩ ?_
  clear E h1
  rintro k w2 ⟨E, z2, hk, h1⟩
  refine S_seq ?_
  refine S_seq ?_
  refine S_reg [true, true, true, true] rfl rfl ?_
  refine J_st (R_move rfl) rfl (J_st (R_move rfl) rfl (J_st (R_len Try.underlying85 rfl (hxs.ext E).len) rfl (J_st (R_lss rfl rfl) rfl (J_done ?_))))
  refine S_cond rfl (fun hc1 => ?_) (fun hc1 => ?_)
  · have hc1n : k < xs.length := by first | (have h := of_decide_eq_true hc1; omega) | (have h := hc1; simp at h; omega)
    refine S_skip ?_
    refine S_seq ?_
    refine S_block ?_
    refine S_reg [true, true, true, true, true, true, false, true, false] rfl rfl ?_
    refine J_st (R_move rfl) rfl (J_st (R_move rfl) rfl (J_st (R_move rfl) rfl (J_st (R_move rfl) rfl ?_)))
    have hi1 : k < xs.length := (by first | assumption | omega)
    refine J_st (R_index (i := k) sl85 rfl rfl (hxs.ext E) hi1) rfl (J_st (R_loadS st138 rfl ((hxs.ext E).get hi1) rfl) rfl ?_)
    refine J_call Try.call86 rfl (c_toDone (xs[k]'hi1) _ ) rfl (fun _ w3 e2 hv => ?_)
    subst hv
    replace E := E.trans e2; replace h1 := h1.ext e2
    have z3 := e2.size
    refine J_st (R_indexB sl70 rfl rfl (by first | assumption | omega)) rfl ?_
    refine J_storeS' (cs' := mk xs [.int .i64 0, .bool false] (k + 1) xs.length) st108 rfl rfl rfl rfl h1 (mk_room xs [.int .i64 0, .bool false] rfl hc1n hc1n (by rfl)) (mk_step xs [.int .i64 0, .bool false] rfl hc1n hc1n) (fun w4 m1 h1' => ?_)
    replace h1 := h1'
    replace E := E.step m1 (fun g hg => by cases hg; omega)
    have z4 := m1.size
    refine J_done ?_
    refine S_nil (E_inB ?_)
    refine S_reg [true, true, true] rfl rfl ?_
    refine J_st (R_move rfl) rfl (J_st (R_add rfl rfl (add_one hc1n hxs.1)) rfl (J_st (R_assign rfl) rfl (J_done ?_)))
    refine S_nil (E_again (k + 1) (by omega) ⟨rfl, rfl, rfl, rfl, trivial⟩ ⟨E, (by omega), (by omega), h1⟩)
  · have hc1n : ¬ k < xs.length := by first | (have h := of_decide_eq_false hc1; omega) | (have h := hc1; simp at h; omega)
    refine S_exit (E_lp_exit (E_inB_exit ?_))
    refine S_seq ?_
    refine S_reg [true, true] rfl rfl ?_
    refine J_st (R_move rfl) rfl (J_st (R_assign rfl) rfl (J_done ?_))
    refine S_ret (E_done1 rfl rfl E ?_)
    obtain rfl : k = xs.length := by omega
    rw [mk_all] at h1
    exact Own.ofBlk h1 (by omega) (by have := h1.lt; omega) (sum_flat xs) hxs.1

set_option maxRecDepth 20000 in
theorem c_eqDoneS (vxs : Value) (xs : List Done) (vys : Value) (ys : List Done) (w : World) (hxs : RdS w vxs xs) (hys : RdS w vys ys) : Ct Try.prog 83 [vxs, vys] w (fun v _ => v = .bool (decide (xs = ys))) := by
  refine ct_of Try.func83 rfl Try.ntmps83 rfl ?_
  refine S_sub [(0, vxs), (1, vys)] ⟨rfl, rfl, trivial⟩ ?_
  have E : Ext w w := Ext.refl w
  refine S_seq ?_
  refine S_reg [true] rfl rfl ?_
  refine J_st (R_assign rfl) rfl (J_done ?_)
  refine S_seq ?_
  refine S_seq ?_
  refine S_reg [true, true, true, true, true] rfl rfl ?_
  refine J_st (R_move rfl) rfl (J_st (R_len Try.underlying70 rfl (hxs.ext E).len) rfl (J_st (R_move rfl) rfl (J_st (R_len Try.underlying70 rfl (hys.ext E).len) rfl (J_st (R_neq rfl rfl) rfl (J_done ?_)))))
  refine S_cond rfl (fun hc1 => ?_) (fun hc1 => ?_)
  · have hc1n : ¬ xs.length = ys.length := by first | (have h := of_decide_eq_true hc1; omega) | (have h := hc1; simp at h; omega)
    refine S_seq ?_
    refine S_reg [true] rfl rfl ?_
    refine J_st (R_assign rfl) rfl (J_done ?_)
    refine S_ret (E_done1 rfl rfl E ?_)
    simp [eq_len hc1n]
  · have hc1n : xs.length = ys.length := by first | (have h := of_decide_eq_false hc1; omega) | (have h := hc1; simp at h; omega)
    refine S_skip ?_
    refine S_seq ?_
    refine S_seq ?_
    refine S_reg [true] rfl rfl ?_
    refine J_st (R_assign rfl) rfl (J_done ?_)
    refine S_block ?_
    refine S_loop (fun (k : Nat) => [(0, vxs), (1, vys), (4, .bool false), (5, .int .i64 ((k : Nat) : Int))]) (fun (k : Nat) w' => Ext w w' ∧ w.heap.size ≤ w'.heap.size ∧ k ≤ xs.length ∧ xs.take k = ys.take k) (fun (k : Nat) => xs.length - k) 0 ⟨rfl, rfl, rfl, rfl, trivial⟩ ⟨E, Nat.le_refl _, Nat.zero_le _, rfl⟩ ?_
    clear E
    rintro k w1 ⟨E, z1, hk, hp⟩
    refine S_seq ?_
    refine S_seq ?_
    refine S_reg [true, true, true, true] rfl rfl ?_
    refine J_st (R_move rfl) rfl (J_st (R_move rfl) rfl (J_st (R_len Try.underlying70 rfl (hxs.ext E).len) rfl (J_st (R_lss rfl rfl) rfl (J_done ?_))))
    refine S_cond rfl (fun hc2 => ?_) (fun hc2 => ?_)
    · have hc2n : k < xs.length := by first | (have h := of_decide_eq_true hc2; omega) | (have h := hc2; simp at h; omega)
      refine S_skip ?_
      refine S_seq ?_
      refine S_block ?_
      refine S_seq ?_
      refine S_regD mixed [(0, true), (1, true), (2, true), (3, true), (4, true), (5, true), (6, true), (7, true), (8, false), (9, true)] (by decide +kernel) rfl (fun w2 e1 => ?_)
      replace E := E.trans e1
      have z2 := e1.size
      refine J_st (R_move rfl) rfl (J_st (R_move rfl) rfl ?_)
      have hi1 : k < xs.length := (by first | assumption | omega)
      refine J_st (R_index (i := k) sl70 rfl rfl (hxs.ext E) hi1) rfl (J_st (R_loadS st108 rfl ((hxs.ext E).get hi1) rfl) rfl (J_st (R_move rfl) rfl (J_st (R_move rfl) rfl ?_)))
      have hi2 : k < ys.length := (by first | assumption | omega)
      refine J_st (R_index (i := k) sl70 rfl rfl (hys.ext E) hi2) rfl (J_st (R_loadS st108 rfl ((hys.ext E).get hi2) rfl) rfl ?_)
      refine J_call Try.call89 rfl (c_eqDone (xs[k]'hi1) (ys[k]'hi2) _ ) rfl (fun _ w3 e2 hv => ?_)
      subst hv
      replace E := E.trans e2
      have z3 := e2.size
      refine J_st (R_not rfl) rfl (J_done ?_)
      refine S_cond rfl (fun hc3 => ?_) (fun hc3 => ?_)
      · refine S_seq ?_
        refine S_reg [true] rfl rfl ?_
        refine J_st (R_assign rfl) rfl (J_done ?_)
        refine S_ret (E_inB_ret (E_lp_ret (E_inB_ret (E_done1 rfl rfl E ?_))))
        exact eqS_no (by omega) (by omega) (by simpa using hc3)
      · refine S_skip ?_
        refine S_nil (E_inB ?_)
        refine S_reg [true, true, true] rfl rfl ?_
        refine J_st (R_move rfl) rfl (J_st (R_add rfl rfl (add_one hc2n hxs.1)) rfl (J_st (R_assign rfl) rfl (J_done ?_)))
        refine S_nil (E_again (k + 1) (by omega) ⟨rfl, rfl, rfl, rfl, trivial⟩ ⟨E, (by omega), (by omega), eqS_step hp (by assumption) (by omega) (by simpa using hc3)⟩)
    · have hc2n : ¬ k < xs.length := by first | (have h := of_decide_eq_false hc2; omega) | (have h := hc2; simp at h; omega)
      refine S_exit (E_lp_exit (E_inB_exit ?_))
      refine S_seq ?_
      refine S_reg [true] rfl rfl ?_
      refine J_st (R_assign rfl) rfl (J_done ?_)
      refine S_ret (E_done1 rfl rfl E ?_)
      exact eqS_yes hp hc1n (by omega)

set_option maxHeartbeats 4000000 in
set_option maxRecDepth 20000 in
theorem c_szWorker (cx : List Value) (x : Worker) (n : Int) (w : World) (hx : Dat.R w 0 w.heap.size cx x) (h0 : 0 ≤ n ∧ n ≤ 1048576) : Ct Try.prog 43 [.agg cx.toArray, .int .i64 n] w (fun v _ => v = .int .i64 (szM (cntWorker x) n)) := by
  refine ct_of Try.func43 rfl Try.ntmps43 rfl ?_
  obtain ⟨o1, o2, o3, o4, o5, o6, o7, o8, rfl, hd1, hd2, hd3, hd4, hd5, hd6, hd7, hd8⟩ := Worker.op hx
  refine S_sub [(0, .agg [o1, o2, o3, o4, o5, o6, o7, o8].toArray), (1, .int .i64 n)] ⟨rfl, rfl, trivial⟩ ?_
  have E : Ext w w := Ext.refl w
  refine S_seq ?_
  refine S_reg [false, true] rfl rfl ?_
  refine J_box rfl rfl (fun b1 w1 e1 s1 h1 => ?_)
  have g_b1 : w.heap.size ≤ b1 := by have := E.size; omega
  have y_b1 := h1.lt
  replace E := E.trans e1
  have z1 := e1.size
  refine J_st (R_assign rfl) rfl (J_done ?_)
  refine S_seq ?_
  refine S_reg [true, true, true, false, true] rfl rfl ?_
  refine J_st (R_fieldAddr0 fl87_0 rfl) rfl (J_st (R_load sc83 rfl (h1.one 0 rfl)) rfl (J_st (R_move rfl) rfl ?_))
  refine J_call Try.call67 rfl (c_szRecordS o1 x.queue n _ (hd1.rd.ext E) (by first | omega | (simp only [mkL_length]; omega) | (rw [mkL_length]))) rfl (fun _ w2 e2 hv => ?_)
  subst hv
  replace E := E.trans e2; replace h1 := h1.ext e2
  have z2 := e2.size
  refine J_st (R_assign rfl) rfl (J_done ?_)
  refine S_seq ?_
  refine S_seq ?_
  refine S_reg [true, true] rfl rfl ?_
  refine J_st (R_move rfl) rfl (J_st (R_lss rfl rfl) rfl (J_done ?_))
  refine S_cond rfl (fun hc1 => ?_) (fun hc1 => ?_)
  · have q1 := szM_no hc1 (by omega)
    refine S_seq ?_
    refine S_reg [true] rfl rfl ?_
    refine J_st (R_assign rfl) rfl (J_done ?_)
    refine S_ret (E_done1 rfl rfl E ?_)
    first | exact sz_neg (by unfold cntWorker; omega) | exact sz_fin (by unfold cntWorker; omega) (by unfold cntWorker; omega)
  · have q2 := szM_ok hc1 (by omega)
    refine S_skip ?_
    refine S_seq ?_
    refine S_reg [true, true, true, false, true] rfl rfl ?_
    refine J_st (R_fieldAddr0 fl87_1 rfl) rfl (J_st (R_load sc83 rfl (h1.one 1 rfl)) rfl (J_st (R_move rfl) rfl ?_))
    refine J_call Try.call67 rfl (c_szRecordS o2 x.staged (szM x.queue.length n) _ (hd2.rd.ext E) (by first | omega | (simp only [mkL_length]; omega) | (rw [mkL_length]))) rfl (fun _ w3 e3 hv => ?_)
    subst hv
    replace E := E.trans e3; replace h1 := h1.ext e3
    have z3 := e3.size
    refine J_st (R_assign rfl) rfl (J_done ?_)
    refine S_seq ?_
    refine S_seq ?_
    refine S_reg [true, true] rfl rfl ?_
    refine J_st (R_move rfl) rfl (J_st (R_lss rfl rfl) rfl (J_done ?_))
    refine S_cond rfl (fun hc2 => ?_) (fun hc2 => ?_)
    · have q3 := szM_no hc2 (by omega)
      refine S_seq ?_
      refine S_reg [true] rfl rfl ?_
      refine J_st (R_assign rfl) rfl (J_done ?_)
      refine S_ret (E_done1 rfl rfl E ?_)
      first | exact sz_neg (by unfold cntWorker; omega) | exact sz_fin (by unfold cntWorker; omega) (by unfold cntWorker; omega)
    · have q4 := szM_ok hc2 (by omega)
      refine S_skip ?_
      refine S_seq ?_
      refine S_reg [true, true, true, false, true] rfl rfl ?_
      refine J_st (R_fieldAddr0 fl87_2 rfl) rfl (J_st (R_load sc83 rfl (h1.one 2 rfl)) rfl (J_st (R_move rfl) rfl ?_))
      refine J_call Try.call67 rfl (c_szRecordS o3 x.inputs (szM x.staged.length (szM x.queue.length n)) _ (hd3.rd.ext E) (by first | omega | (simp only [mkL_length]; omega) | (rw [mkL_length]))) rfl (fun _ w4 e4 hv => ?_)
      subst hv
      replace E := E.trans e4; replace h1 := h1.ext e4
      have z4 := e4.size
      refine J_st (R_assign rfl) rfl (J_done ?_)
      refine S_seq ?_
      refine S_seq ?_
      refine S_reg [true, true] rfl rfl ?_
      refine J_st (R_move rfl) rfl (J_st (R_lss rfl rfl) rfl (J_done ?_))
      refine S_cond rfl (fun hc3 => ?_) (fun hc3 => ?_)
      · have q5 := szM_no hc3 (by omega)
        refine S_seq ?_
        refine S_reg [true] rfl rfl ?_
        refine J_st (R_assign rfl) rfl (J_done ?_)
        refine S_ret (E_done1 rfl rfl E ?_)
        first | exact sz_neg (by unfold cntWorker; omega) | exact sz_fin (by unfold cntWorker; omega) (by unfold cntWorker; omega)
      · have q6 := szM_ok hc3 (by omega)
        refine S_skip ?_
        refine S_seq ?_
        refine S_reg [true, true, true, false, true] rfl rfl ?_
        refine J_st (R_fieldAddr0 fl87_3 rfl) rfl (J_st (R_load sc84 rfl (h1.one 3 rfl)) rfl (J_st (R_move rfl) rfl ?_))
        refine J_call Try.call68 rfl (c_szCellS o4 x.cells (szM x.inputs.length (szM x.staged.length (szM x.queue.length n))) _ (hd4.rd.ext E) (by first | omega | (simp only [mkL_length]; omega) | (rw [mkL_length]))) rfl (fun _ w5 e5 hv => ?_)
        subst hv
        replace E := E.trans e5; replace h1 := h1.ext e5
        have z5 := e5.size
        refine J_st (R_assign rfl) rfl (J_done ?_)
        refine S_seq ?_
        refine S_seq ?_
        refine S_reg [true, true] rfl rfl ?_
        refine J_st (R_move rfl) rfl (J_st (R_lss rfl rfl) rfl (J_done ?_))
        refine S_cond rfl (fun hc4 => ?_) (fun hc4 => ?_)
        · have q7 := szM_no hc4 (by omega)
          refine S_seq ?_
          refine S_reg [true] rfl rfl ?_
          refine J_st (R_assign rfl) rfl (J_done ?_)
          refine S_ret (E_done1 rfl rfl E ?_)
          first | exact sz_neg (by unfold cntWorker; omega) | exact sz_fin (by unfold cntWorker; omega) (by unfold cntWorker; omega)
        · have q8 := szM_ok hc4 (by omega)
          refine S_skip ?_
          refine S_seq ?_
          refine S_reg [true, true, true, false, true] rfl rfl ?_
          refine J_st (R_fieldAddr0 fl87_4 rfl) rfl (J_st (R_load sc68 rfl (h1.one 4 rfl)) rfl (J_st (R_move rfl) rfl ?_))
          refine J_call Try.call69 rfl (c_szIntS o5 x.sums (szM x.cells.length (szM x.inputs.length (szM x.staged.length (szM x.queue.length n)))) _ (hd5.rd.ext E) (by first | omega | (simp only [mkL_length]; omega) | (rw [mkL_length]))) rfl (fun _ w6 e6 hv => ?_)
          subst hv
          replace E := E.trans e6; replace h1 := h1.ext e6
          have z6 := e6.size
          refine J_st (R_assign rfl) rfl (J_done ?_)
          refine S_seq ?_
          refine S_seq ?_
          refine S_reg [true, true] rfl rfl ?_
          refine J_st (R_move rfl) rfl (J_st (R_lss rfl rfl) rfl (J_done ?_))
          refine S_cond rfl (fun hc5 => ?_) (fun hc5 => ?_)
          · have q9 := szM_no hc5 (by omega)
            refine S_seq ?_
            refine S_reg [true] rfl rfl ?_
            refine J_st (R_assign rfl) rfl (J_done ?_)
            refine S_ret (E_done1 rfl rfl E ?_)
            first | exact sz_neg (by unfold cntWorker; omega) | exact sz_fin (by unfold cntWorker; omega) (by unfold cntWorker; omega)
          · have q10 := szM_ok hc5 (by omega)
            refine S_skip ?_
            refine S_seq ?_
            refine S_reg [true, true, true, false, true] rfl rfl ?_
            refine J_st (R_fieldAddr0 fl87_5 rfl) rfl (J_st (R_load sc69 rfl (h1.one 5 rfl)) rfl (J_st (R_move rfl) rfl ?_))
            refine J_call Try.call70 rfl (c_szBoolS o6 x.black (szM x.sums.length (szM x.cells.length (szM x.inputs.length (szM x.staged.length (szM x.queue.length n))))) _ (hd6.rd.ext E) (by first | omega | (simp only [mkL_length]; omega) | (rw [mkL_length]))) rfl (fun _ w7 e7 hv => ?_)
            subst hv
            replace E := E.trans e7; replace h1 := h1.ext e7
            have z7 := e7.size
            refine J_st (R_assign rfl) rfl (J_done ?_)
            refine S_seq ?_
            refine S_seq ?_
            refine S_reg [true, true] rfl rfl ?_
            refine J_st (R_move rfl) rfl (J_st (R_lss rfl rfl) rfl (J_done ?_))
            refine S_cond rfl (fun hc6 => ?_) (fun hc6 => ?_)
            · have q11 := szM_no hc6 (by omega)
              refine S_seq ?_
              refine S_reg [true] rfl rfl ?_
              refine J_st (R_assign rfl) rfl (J_done ?_)
              refine S_ret (E_done1 rfl rfl E ?_)
              first | exact sz_neg (by unfold cntWorker; omega) | exact sz_fin (by unfold cntWorker; omega) (by unfold cntWorker; omega)
            · have q12 := szM_ok hc6 (by omega)
              refine S_skip ?_
              refine S_seq ?_
              refine S_reg [true, true, true, false, true] rfl rfl ?_
              refine J_st (R_fieldAddr0 fl87_6 rfl) rfl (J_st (R_load sc69 rfl (h1.one 6 rfl)) rfl (J_st (R_move rfl) rfl ?_))
              refine J_call Try.call70 rfl (c_szBoolS o7 x.caps (szM x.black.length (szM x.sums.length (szM x.cells.length (szM x.inputs.length (szM x.staged.length (szM x.queue.length n)))))) _ (hd7.rd.ext E) (by first | omega | (simp only [mkL_length]; omega) | (rw [mkL_length]))) rfl (fun _ w8 e8 hv => ?_)
              subst hv
              replace E := E.trans e8; replace h1 := h1.ext e8
              have z8 := e8.size
              refine J_st (R_assign rfl) rfl (J_done ?_)
              refine S_seq ?_
              refine S_seq ?_
              refine S_reg [true, true] rfl rfl ?_
              refine J_st (R_move rfl) rfl (J_st (R_lss rfl rfl) rfl (J_done ?_))
              refine S_cond rfl (fun hc7 => ?_) (fun hc7 => ?_)
              · have q13 := szM_no hc7 (by omega)
                refine S_seq ?_
                refine S_reg [true] rfl rfl ?_
                refine J_st (R_assign rfl) rfl (J_done ?_)
                refine S_ret (E_done1 rfl rfl E ?_)
                first | exact sz_neg (by unfold cntWorker; omega) | exact sz_fin (by unfold cntWorker; omega) (by unfold cntWorker; omega)
              · have q14 := szM_ok hc7 (by omega)
                refine S_skip ?_
                refine S_seq ?_
                refine S_reg [true, true, true, false, true] rfl rfl ?_
                refine J_st (R_fieldAddr0 fl87_7 rfl) rfl (J_st (R_load sc85 rfl (h1.one 7 rfl)) rfl (J_st (R_move rfl) rfl ?_))
                refine J_call Try.call71 rfl (c_szDoneS o8 x.dones (szM x.caps.length (szM x.black.length (szM x.sums.length (szM x.cells.length (szM x.inputs.length (szM x.staged.length (szM x.queue.length n))))))) _ (hd8.rd.ext E) (by first | omega | (simp only [mkL_length]; omega) | (rw [mkL_length]))) rfl (fun _ w9 e9 hv => ?_)
                subst hv
                replace E := E.trans e9; replace h1 := h1.ext e9
                have z9 := e9.size
                refine J_st (R_assign rfl) rfl (J_done ?_)
                refine S_seq ?_
                refine S_seq ?_
                refine S_reg [true, true] rfl rfl ?_
                refine J_st (R_move rfl) rfl (J_st (R_lss rfl rfl) rfl (J_done ?_))
                refine S_cond rfl (fun hc8 => ?_) (fun hc8 => ?_)
                · have q15 := szM_no hc8 (by omega)
                  refine S_seq ?_
                  refine S_reg [true] rfl rfl ?_
                  refine J_st (R_assign rfl) rfl (J_done ?_)
                  refine S_ret (E_done1 rfl rfl E ?_)
                  first | exact sz_neg (by unfold cntWorker; omega) | exact sz_fin (by unfold cntWorker; omega) (by unfold cntWorker; omega)
                · have q16 := szM_ok hc8 (by omega)
                  refine S_skip ?_
                  refine S_seq ?_
                  refine S_reg [true, true] rfl rfl ?_
                  refine J_st (R_move rfl) rfl (J_st (R_assign rfl) rfl (J_done ?_))
                  refine S_ret (E_done1 rfl rfl E ?_)
                  first | exact sz_neg (by unfold cntWorker; omega) | exact sz_fin (by unfold cntWorker; omega) (by unfold cntWorker; omega)

set_option maxHeartbeats 4000000 in
set_option maxRecDepth 20000 in
theorem c_toWorker (cx : List Value) (x : Worker) (w : World) (hx : Dat.R w 0 w.heap.size cx x) (hb : cntWorker x ≤ 1048576) : Ct Try.prog 46 [.agg cx.toArray] w (fun v w' => ∃ cs, v = .agg cs.toArray ∧ Own1.O w' w.heap.size w'.heap.size cs x) := by
  unfold cntWorker at hb
  refine ct_of Try.func46 rfl Try.ntmps46 rfl ?_
  obtain ⟨o1, o2, o3, o4, o5, o6, o7, o8, rfl, hd1, hd2, hd3, hd4, hd5, hd6, hd7, hd8⟩ := Worker.op hx
  refine S_sub [(0, .agg [o1, o2, o3, o4, o5, o6, o7, o8].toArray)] ⟨rfl, trivial⟩ ?_
  have E : Ext w w := Ext.refl w
  refine S_seq ?_
  refine S_reg [false, false] rfl rfl ?_
  refine J_box rfl rfl (fun b1 w1 e1 s1 h1 => ?_)
  have g_b1 : w.heap.size ≤ b1 := by have := E.size; omega
  have y_b1 := h1.lt
  replace E := E.trans e1
  have z1 := e1.size
  refine J_alloc st72 rfl (fun b2 w2 e2 s2 h2 => ?_)
  have g_b2 : w.heap.size ≤ b2 := by have := E.size; omega
  have y_b2 := h2.lt
  replace E := E.trans e2; replace h1 := h1.ext e2
  have z2 := e2.size
  refine J_done ?_
  refine S_seq ?_
  refine S_reg [false] rfl rfl ?_
  refine J_alloc st72 rfl (fun b3 w3 e3 s3 h3 => ?_)
  have g_b3 : w.heap.size ≤ b3 := by have := E.size; omega
  have y_b3 := h3.lt
  replace E := E.trans e3; replace h1 := h1.ext e3; replace h2 := h2.ext e3
  have z3 := e3.size
  refine J_done ?_
  refine S_seq ?_
  refine S_reg [true, true, false, true, false] rfl rfl ?_
  refine J_st (R_fieldAddr0 fl87_0 rfl) rfl (J_st (R_load sc83 rfl (h1.one 0 rfl)) rfl ?_)
  refine J_call Try.call73 rfl (c_toRecordS o1 x.queue _ (hd1.rd.ext E) (by first | omega | (simp only [mkL_length]; omega) | (rw [mkL_length]))) rfl (fun v1 w4 e4 ho1 => ?_)
  have g_ho1 : w.heap.size ≤ w3.heap.size := E.size
  replace E := E.trans e4; replace h1 := h1.ext e4; replace h2 := h2.ext e4; replace h3 := h3.ext e4
  have z4 := e4.size
  refine J_st (R_fieldAddr0 fl72_0 rfl) rfl ?_
  refine J_store' (cs' := [v1, .slice none 0 0, .slice none 0 0, .slice none 0 0, .slice none 0 0, .slice none 0 0, .slice none 0 0, .slice none 0 0]) sc66 rfl rfl ho1.one h3 (Nat.le_of_ble_eq_true rfl) rfl (fun w5 m1 h3' => ?_)
  replace h3 := h3'
  replace E := E.step m1 (fun g hg => by cases hg; omega); replace h1 := h1.mod m1 (fun g hg => by cases hg; omega); replace h2 := h2.mod m1 (fun g hg => by cases hg; omega); replace ho1 := ho1.mod m1 (fun g hg => by cases hg; omega)
  have z5 := m1.size
  refine J_done ?_
  refine S_seq ?_
  refine S_reg [true, true, false, true, false] rfl rfl ?_
  refine J_st (R_fieldAddr0 fl87_1 rfl) rfl (J_st (R_load sc83 rfl (h1.one 1 rfl)) rfl ?_)
  refine J_call Try.call73 rfl (c_toRecordS o2 x.staged _ (hd2.rd.ext E) (by first | omega | (simp only [mkL_length]; omega) | (rw [mkL_length]))) rfl (fun v2 w6 e5 ho2 => ?_)
  have g_ho2 : w.heap.size ≤ w5.heap.size := E.size
  replace E := E.trans e5; replace h1 := h1.ext e5; replace h2 := h2.ext e5; replace h3 := h3.ext e5; replace ho1 := ho1.ext e5
  have z6 := e5.size
  refine J_st (R_fieldAddr0 fl72_1 rfl) rfl ?_
  refine J_store' (cs' := [v1, v2, .slice none 0 0, .slice none 0 0, .slice none 0 0, .slice none 0 0, .slice none 0 0, .slice none 0 0]) sc66 rfl rfl ho2.one h3 (Nat.le_of_ble_eq_true rfl) rfl (fun w7 m2 h3' => ?_)
  replace h3 := h3'
  replace E := E.step m2 (fun g hg => by cases hg; omega); replace h1 := h1.mod m2 (fun g hg => by cases hg; omega); replace h2 := h2.mod m2 (fun g hg => by cases hg; omega); replace ho1 := ho1.mod m2 (fun g hg => by cases hg; omega); replace ho2 := ho2.mod m2 (fun g hg => by cases hg; omega)
  have z7 := m2.size
  refine J_done ?_
  refine S_seq ?_
  refine S_reg [true, true, false, true, false] rfl rfl ?_
  refine J_st (R_fieldAddr0 fl87_2 rfl) rfl (J_st (R_load sc83 rfl (h1.one 2 rfl)) rfl ?_)
  refine J_call Try.call73 rfl (c_toRecordS o3 x.inputs _ (hd3.rd.ext E) (by first | omega | (simp only [mkL_length]; omega) | (rw [mkL_length]))) rfl (fun v3 w8 e6 ho3 => ?_)
  have g_ho3 : w.heap.size ≤ w7.heap.size := E.size
  replace E := E.trans e6; replace h1 := h1.ext e6; replace h2 := h2.ext e6; replace h3 := h3.ext e6; replace ho1 := ho1.ext e6; replace ho2 := ho2.ext e6
  have z8 := e6.size
  refine J_st (R_fieldAddr0 fl72_2 rfl) rfl ?_
  refine J_store' (cs' := [v1, v2, v3, .slice none 0 0, .slice none 0 0, .slice none 0 0, .slice none 0 0, .slice none 0 0]) sc66 rfl rfl ho3.one h3 (Nat.le_of_ble_eq_true rfl) rfl (fun w9 m3 h3' => ?_)
  replace h3 := h3'
  replace E := E.step m3 (fun g hg => by cases hg; omega); replace h1 := h1.mod m3 (fun g hg => by cases hg; omega); replace h2 := h2.mod m3 (fun g hg => by cases hg; omega); replace ho1 := ho1.mod m3 (fun g hg => by cases hg; omega); replace ho2 := ho2.mod m3 (fun g hg => by cases hg; omega); replace ho3 := ho3.mod m3 (fun g hg => by cases hg; omega)
  have z9 := m3.size
  refine J_done ?_
  refine S_seq ?_
  refine S_reg [true, true, false, true, false] rfl rfl ?_
  refine J_st (R_fieldAddr0 fl87_3 rfl) rfl (J_st (R_load sc84 rfl (h1.one 3 rfl)) rfl ?_)
  refine J_call Try.call74 rfl (c_toCellS o4 x.cells _ (hd4.rd.ext E) (by first | omega | (simp only [mkL_length]; omega) | (rw [mkL_length]))) rfl (fun v4 w10 e7 ho4 => ?_)
  have g_ho4 : w.heap.size ≤ w9.heap.size := E.size
  replace E := E.trans e7; replace h1 := h1.ext e7; replace h2 := h2.ext e7; replace h3 := h3.ext e7; replace ho1 := ho1.ext e7; replace ho2 := ho2.ext e7; replace ho3 := ho3.ext e7
  have z10 := e7.size
  refine J_st (R_fieldAddr0 fl72_3 rfl) rfl ?_
  refine J_store' (cs' := [v1, v2, v3, v4, .slice none 0 0, .slice none 0 0, .slice none 0 0, .slice none 0 0]) sc67 rfl rfl ho4.one h3 (Nat.le_of_ble_eq_true rfl) rfl (fun w11 m4 h3' => ?_)
  replace h3 := h3'
  replace E := E.step m4 (fun g hg => by cases hg; omega); replace h1 := h1.mod m4 (fun g hg => by cases hg; omega); replace h2 := h2.mod m4 (fun g hg => by cases hg; omega); replace ho1 := ho1.mod m4 (fun g hg => by cases hg; omega); replace ho2 := ho2.mod m4 (fun g hg => by cases hg; omega); replace ho3 := ho3.mod m4 (fun g hg => by cases hg; omega); replace ho4 := ho4.mod m4 (fun g hg => by cases hg; omega)
  have z11 := m4.size
  refine J_done ?_
  refine S_seq ?_
  refine S_reg [true, true, false, true, false] rfl rfl ?_
  refine J_st (R_fieldAddr0 fl87_4 rfl) rfl (J_st (R_load sc68 rfl (h1.one 4 rfl)) rfl ?_)
  refine J_call Try.call75 rfl (c_toIntS o5 x.sums _ (hd5.rd.ext E) (by first | omega | (simp only [mkL_length]; omega) | (rw [mkL_length]))) rfl (fun v5 w12 e8 ho5 => ?_)
  have g_ho5 : w.heap.size ≤ w11.heap.size := E.size
  replace E := E.trans e8; replace h1 := h1.ext e8; replace h2 := h2.ext e8; replace h3 := h3.ext e8; replace ho1 := ho1.ext e8; replace ho2 := ho2.ext e8; replace ho3 := ho3.ext e8; replace ho4 := ho4.ext e8
  have z12 := e8.size
  refine J_st (R_fieldAddr0 fl72_4 rfl) rfl ?_
  refine J_store' (cs' := [v1, v2, v3, v4, v5, .slice none 0 0, .slice none 0 0, .slice none 0 0]) sc68 rfl rfl ho5.one h3 (Nat.le_of_ble_eq_true rfl) rfl (fun w13 m5 h3' => ?_)
  replace h3 := h3'
  replace E := E.step m5 (fun g hg => by cases hg; omega); replace h1 := h1.mod m5 (fun g hg => by cases hg; omega); replace h2 := h2.mod m5 (fun g hg => by cases hg; omega); replace ho1 := ho1.mod m5 (fun g hg => by cases hg; omega); replace ho2 := ho2.mod m5 (fun g hg => by cases hg; omega); replace ho3 := ho3.mod m5 (fun g hg => by cases hg; omega); replace ho4 := ho4.mod m5 (fun g hg => by cases hg; omega); replace ho5 := ho5.mod m5 (fun g hg => by cases hg; omega)
  have z13 := m5.size
  refine J_done ?_
  refine S_seq ?_
  refine S_reg [true, true, false, true, false] rfl rfl ?_
  refine J_st (R_fieldAddr0 fl87_5 rfl) rfl (J_st (R_load sc69 rfl (h1.one 5 rfl)) rfl ?_)
  refine J_call Try.call76 rfl (c_toBoolS o6 x.black _ (hd6.rd.ext E) (by first | omega | (simp only [mkL_length]; omega) | (rw [mkL_length]))) rfl (fun v6 w14 e9 ho6 => ?_)
  have g_ho6 : w.heap.size ≤ w13.heap.size := E.size
  replace E := E.trans e9; replace h1 := h1.ext e9; replace h2 := h2.ext e9; replace h3 := h3.ext e9; replace ho1 := ho1.ext e9; replace ho2 := ho2.ext e9; replace ho3 := ho3.ext e9; replace ho4 := ho4.ext e9; replace ho5 := ho5.ext e9
  have z14 := e9.size
  refine J_st (R_fieldAddr0 fl72_5 rfl) rfl ?_
  refine J_store' (cs' := [v1, v2, v3, v4, v5, v6, .slice none 0 0, .slice none 0 0]) sc69 rfl rfl ho6.one h3 (Nat.le_of_ble_eq_true rfl) rfl (fun w15 m6 h3' => ?_)
  replace h3 := h3'
  replace E := E.step m6 (fun g hg => by cases hg; omega); replace h1 := h1.mod m6 (fun g hg => by cases hg; omega); replace h2 := h2.mod m6 (fun g hg => by cases hg; omega); replace ho1 := ho1.mod m6 (fun g hg => by cases hg; omega); replace ho2 := ho2.mod m6 (fun g hg => by cases hg; omega); replace ho3 := ho3.mod m6 (fun g hg => by cases hg; omega); replace ho4 := ho4.mod m6 (fun g hg => by cases hg; omega); replace ho5 := ho5.mod m6 (fun g hg => by cases hg; omega); replace ho6 := ho6.mod m6 (fun g hg => by cases hg; omega)
  have z15 := m6.size
  refine J_done ?_
  refine S_seq ?_
  refine S_reg [true, true, false, true, false] rfl rfl ?_
  refine J_st (R_fieldAddr0 fl87_6 rfl) rfl (J_st (R_load sc69 rfl (h1.one 6 rfl)) rfl ?_)
  refine J_call Try.call76 rfl (c_toBoolS o7 x.caps _ (hd7.rd.ext E) (by first | omega | (simp only [mkL_length]; omega) | (rw [mkL_length]))) rfl (fun v7 w16 e10 ho7 => ?_)
  have g_ho7 : w.heap.size ≤ w15.heap.size := E.size
  replace E := E.trans e10; replace h1 := h1.ext e10; replace h2 := h2.ext e10; replace h3 := h3.ext e10; replace ho1 := ho1.ext e10; replace ho2 := ho2.ext e10; replace ho3 := ho3.ext e10; replace ho4 := ho4.ext e10; replace ho5 := ho5.ext e10; replace ho6 := ho6.ext e10
  have z16 := e10.size
  refine J_st (R_fieldAddr0 fl72_6 rfl) rfl ?_
  refine J_store' (cs' := [v1, v2, v3, v4, v5, v6, v7, .slice none 0 0]) sc69 rfl rfl ho7.one h3 (Nat.le_of_ble_eq_true rfl) rfl (fun w17 m7 h3' => ?_)
  replace h3 := h3'
  replace E := E.step m7 (fun g hg => by cases hg; omega); replace h1 := h1.mod m7 (fun g hg => by cases hg; omega); replace h2 := h2.mod m7 (fun g hg => by cases hg; omega); replace ho1 := ho1.mod m7 (fun g hg => by cases hg; omega); replace ho2 := ho2.mod m7 (fun g hg => by cases hg; omega); replace ho3 := ho3.mod m7 (fun g hg => by cases hg; omega); replace ho4 := ho4.mod m7 (fun g hg => by cases hg; omega); replace ho5 := ho5.mod m7 (fun g hg => by cases hg; omega); replace ho6 := ho6.mod m7 (fun g hg => by cases hg; omega); replace ho7 := ho7.mod m7 (fun g hg => by cases hg; omega)
  have z17 := m7.size
  refine J_done ?_
  refine S_seq ?_
  refine S_reg [true, true, false, true, false] rfl rfl ?_
  refine J_st (R_fieldAddr0 fl87_7 rfl) rfl (J_st (R_load sc85 rfl (h1.one 7 rfl)) rfl ?_)
  refine J_call Try.call77 rfl (c_toDoneS o8 x.dones _ (hd8.rd.ext E) (by first | omega | (simp only [mkL_length]; omega) | (rw [mkL_length]))) rfl (fun v8 w18 e11 ho8 => ?_)
  have g_ho8 : w.heap.size ≤ w17.heap.size := E.size
  replace E := E.trans e11; replace h1 := h1.ext e11; replace h2 := h2.ext e11; replace h3 := h3.ext e11; replace ho1 := ho1.ext e11; replace ho2 := ho2.ext e11; replace ho3 := ho3.ext e11; replace ho4 := ho4.ext e11; replace ho5 := ho5.ext e11; replace ho6 := ho6.ext e11; replace ho7 := ho7.ext e11
  have z18 := e11.size
  refine J_st (R_fieldAddr0 fl72_7 rfl) rfl ?_
  refine J_store' (cs' := [v1, v2, v3, v4, v5, v6, v7, v8]) sc70 rfl rfl ho8.one h3 (Nat.le_of_ble_eq_true rfl) rfl (fun w19 m8 h3' => ?_)
  replace h3 := h3'
  replace E := E.step m8 (fun g hg => by cases hg; omega); replace h1 := h1.mod m8 (fun g hg => by cases hg; omega); replace h2 := h2.mod m8 (fun g hg => by cases hg; omega); replace ho1 := ho1.mod m8 (fun g hg => by cases hg; omega); replace ho2 := ho2.mod m8 (fun g hg => by cases hg; omega); replace ho3 := ho3.mod m8 (fun g hg => by cases hg; omega); replace ho4 := ho4.mod m8 (fun g hg => by cases hg; omega); replace ho5 := ho5.mod m8 (fun g hg => by cases hg; omega); replace ho6 := ho6.mod m8 (fun g hg => by cases hg; omega); replace ho7 := ho7.mod m8 (fun g hg => by cases hg; omega); replace ho8 := ho8.mod m8 (fun g hg => by cases hg; omega)
  have z19 := m8.size
  refine J_done ?_
  refine S_seq ?_
  refine S_reg [true, false] rfl rfl ?_
  refine J_st (R_loadS st72 rfl h3.at rfl) rfl ?_
  refine J_storeS' (cs' := [v1, v2, v3, v4, v5, v6, v7, v8]) st72 rfl rfl rfl (all_cons ho1.one (all_cons ho2.one (all_cons ho3.one (all_cons ho4.one (all_cons ho5.one (all_cons ho6.one (all_cons ho7.one (all_cons ho8.one rfl)))))))) h2 (Nat.le_of_ble_eq_true rfl) rfl (fun w20 m9 h2' => ?_)
  replace h2 := h2'
  replace E := E.step m9 (fun g hg => by cases hg; omega); replace h1 := h1.mod m9 (fun g hg => by cases hg; omega); replace h3 := h3.mod m9 (fun g hg => by cases hg; omega); replace ho1 := ho1.mod m9 (fun g hg => by cases hg; omega); replace ho2 := ho2.mod m9 (fun g hg => by cases hg; omega); replace ho3 := ho3.mod m9 (fun g hg => by cases hg; omega); replace ho4 := ho4.mod m9 (fun g hg => by cases hg; omega); replace ho5 := ho5.mod m9 (fun g hg => by cases hg; omega); replace ho6 := ho6.mod m9 (fun g hg => by cases hg; omega); replace ho7 := ho7.mod m9 (fun g hg => by cases hg; omega); replace ho8 := ho8.mod m9 (fun g hg => by cases hg; omega)
  have z20 := m9.size
  refine J_done ?_
  refine S_ret (E_doneC rfl rfl (run_loadVar_st st72 h2.at rfl) E ?_)
  exact ⟨_, rfl, Worker.mkO x ⟨⟨(Own.sep ho1 ho2 (by omega)), ⟨(Own.sep ho1 ho3 (by omega)), ⟨(Own.sep ho1 ho4 (by omega)), ⟨(Own.sep ho1 ho5 (by omega)), ⟨(Own.sep ho1 ho6 (by omega)), ⟨(Own.sep ho1 ho7 (by omega)), ⟨(Own.sep ho1 ho8 (by omega)), trivial⟩⟩⟩⟩⟩⟩⟩, ⟨⟨(Own.sep ho2 ho3 (by omega)), ⟨(Own.sep ho2 ho4 (by omega)), ⟨(Own.sep ho2 ho5 (by omega)), ⟨(Own.sep ho2 ho6 (by omega)), ⟨(Own.sep ho2 ho7 (by omega)), ⟨(Own.sep ho2 ho8 (by omega)), trivial⟩⟩⟩⟩⟩⟩, ⟨⟨(Own.sep ho3 ho4 (by omega)), ⟨(Own.sep ho3 ho5 (by omega)), ⟨(Own.sep ho3 ho6 (by omega)), ⟨(Own.sep ho3 ho7 (by omega)), ⟨(Own.sep ho3 ho8 (by omega)), trivial⟩⟩⟩⟩⟩, ⟨⟨(Own.sep ho4 ho5 (by omega)), ⟨(Own.sep ho4 ho6 (by omega)), ⟨(Own.sep ho4 ho7 (by omega)), ⟨(Own.sep ho4 ho8 (by omega)), trivial⟩⟩⟩⟩, ⟨⟨(Own.sep ho5 ho6 (by omega)), ⟨(Own.sep ho5 ho7 (by omega)), ⟨(Own.sep ho5 ho8 (by omega)), trivial⟩⟩⟩, ⟨⟨(Own.sep ho6 ho7 (by omega)), ⟨(Own.sep ho6 ho8 (by omega)), trivial⟩⟩, ⟨⟨(Own.sep ho7 ho8 (by omega)), trivial⟩, ⟨trivial, trivial⟩⟩⟩⟩⟩⟩⟩⟩ (Own.widen ho1 (by omega) (by omega)) (Own.widen ho2 (by omega) (by omega)) (Own.widen ho3 (by omega) (by omega)) (Own.widen ho4 (by omega) (by omega)) (Own.widen ho5 (by omega) (by omega)) (Own.widen ho6 (by omega) (by omega)) (Own.widen ho7 (by omega) (by omega)) (Own.widen ho8 (by omega) (by omega))⟩

set_option maxHeartbeats 4000000 in
set_option maxRecDepth 20000 in
theorem c_eqWorker (cx : List Value) (x : Worker) (cy : List Value) (y : Worker) (w : World) (hx : Dat.R w 0 w.heap.size cx x) (hy : Dat.R w 0 w.heap.size cy y) : Ct Try.prog 51 [.agg cx.toArray, .agg cy.toArray] w (fun v _ => v = .bool (decide (x = y))) := by
  refine ct_of Try.func51 rfl Try.ntmps51 rfl ?_
  obtain ⟨o1, o2, o3, o4, o5, o6, o7, o8, rfl, hd1, hd2, hd3, hd4, hd5, hd6, hd7, hd8⟩ := Worker.op hx
  obtain ⟨o9, o10, o11, o12, o13, o14, o15, o16, rfl, hd9, hd10, hd11, hd12, hd13, hd14, hd15, hd16⟩ := Worker.op hy
  refine S_sub [(0, .agg [o1, o2, o3, o4, o5, o6, o7, o8].toArray), (1, .agg [o9, o10, o11, o12, o13, o14, o15, o16].toArray)] ⟨rfl, rfl, trivial⟩ ?_
  have E : Ext w w := Ext.refl w
  refine S_seq ?_
  refine S_reg [false, false, true] rfl rfl ?_
  refine J_box rfl rfl (fun b1 w1 e1 s1 h1 => ?_)
  have g_b1 : w.heap.size ≤ b1 := by have := E.size; omega
  have y_b1 := h1.lt
  replace E := E.trans e1
  have z1 := e1.size
  refine J_box rfl rfl (fun b2 w2 e2 s2 h2 => ?_)
  have g_b2 : w.heap.size ≤ b2 := by have := E.size; omega
  have y_b2 := h2.lt
  replace E := E.trans e2; replace h1 := h1.ext e2
  have z2 := e2.size
  refine J_st (R_assign rfl) rfl (J_done ?_)
  refine S_seq ?_
  refine S_seq ?_
  refine S_reg [true, true, true, true, false, true] rfl rfl ?_
  refine J_st (R_fieldAddr0 fl72_0 rfl) rfl (J_st (R_load sc66 rfl (h1.one 0 rfl)) rfl (J_st (R_fieldAddr0 fl72_0 rfl) rfl (J_st (R_load sc66 rfl (h2.one 0 rfl)) rfl ?_)))
  refine J_call Try.call79 rfl (c_eqRecordS o1 x.queue o9 y.queue _ (hd1.rd.ext E) (hd9.rd.ext E)) rfl (fun _ w3 e3 hv => ?_)
  subst hv
  replace E := E.trans e3; replace h1 := h1.ext e3; replace h2 := h2.ext e3
  have z3 := e3.size
  refine J_st (R_not rfl) rfl (J_done ?_)
  refine S_cond rfl (fun hc1 => ?_) (fun hc1 => ?_)
  · refine S_seq ?_
    refine S_reg [true] rfl rfl ?_
    refine J_st (R_assign rfl) rfl (J_done ?_)
    refine S_ret (E_done1 rfl rfl E ?_)
    cases x; cases y; simp_all
  · refine S_skip ?_
    refine S_seq ?_
    refine S_seq ?_
    refine S_reg [true, true, true, true, false, true] rfl rfl ?_
    refine J_st (R_fieldAddr0 fl72_1 rfl) rfl (J_st (R_load sc66 rfl (h1.one 1 rfl)) rfl (J_st (R_fieldAddr0 fl72_1 rfl) rfl (J_st (R_load sc66 rfl (h2.one 1 rfl)) rfl ?_)))
    refine J_call Try.call79 rfl (c_eqRecordS o2 x.staged o10 y.staged _ (hd2.rd.ext E) (hd10.rd.ext E)) rfl (fun _ w4 e4 hv => ?_)
    subst hv
    replace E := E.trans e4; replace h1 := h1.ext e4; replace h2 := h2.ext e4
    have z4 := e4.size
    refine J_st (R_not rfl) rfl (J_done ?_)
    refine S_cond rfl (fun hc2 => ?_) (fun hc2 => ?_)
    · refine S_seq ?_
      refine S_reg [true] rfl rfl ?_
      refine J_st (R_assign rfl) rfl (J_done ?_)
      refine S_ret (E_done1 rfl rfl E ?_)
      cases x; cases y; simp_all
    · refine S_skip ?_
      refine S_seq ?_
      refine S_seq ?_
      refine S_reg [true, true, true, true, false, true] rfl rfl ?_
      refine J_st (R_fieldAddr0 fl72_2 rfl) rfl (J_st (R_load sc66 rfl (h1.one 2 rfl)) rfl (J_st (R_fieldAddr0 fl72_2 rfl) rfl (J_st (R_load sc66 rfl (h2.one 2 rfl)) rfl ?_)))
      refine J_call Try.call79 rfl (c_eqRecordS o3 x.inputs o11 y.inputs _ (hd3.rd.ext E) (hd11.rd.ext E)) rfl (fun _ w5 e5 hv => ?_)
      subst hv
      replace E := E.trans e5; replace h1 := h1.ext e5; replace h2 := h2.ext e5
      have z5 := e5.size
      refine J_st (R_not rfl) rfl (J_done ?_)
      refine S_cond rfl (fun hc3 => ?_) (fun hc3 => ?_)
      · refine S_seq ?_
        refine S_reg [true] rfl rfl ?_
        refine J_st (R_assign rfl) rfl (J_done ?_)
        refine S_ret (E_done1 rfl rfl E ?_)
        cases x; cases y; simp_all
      · refine S_skip ?_
        refine S_seq ?_
        refine S_seq ?_
        refine S_reg [true, true, true, true, false, true] rfl rfl ?_
        refine J_st (R_fieldAddr0 fl72_3 rfl) rfl (J_st (R_load sc67 rfl (h1.one 3 rfl)) rfl (J_st (R_fieldAddr0 fl72_3 rfl) rfl (J_st (R_load sc67 rfl (h2.one 3 rfl)) rfl ?_)))
        refine J_call Try.call80 rfl (c_eqCellS o4 x.cells o12 y.cells _ (hd4.rd.ext E) (hd12.rd.ext E)) rfl (fun _ w6 e6 hv => ?_)
        subst hv
        replace E := E.trans e6; replace h1 := h1.ext e6; replace h2 := h2.ext e6
        have z6 := e6.size
        refine J_st (R_not rfl) rfl (J_done ?_)
        refine S_cond rfl (fun hc4 => ?_) (fun hc4 => ?_)
        · refine S_seq ?_
          refine S_reg [true] rfl rfl ?_
          refine J_st (R_assign rfl) rfl (J_done ?_)
          refine S_ret (E_done1 rfl rfl E ?_)
          cases x; cases y; simp_all
        · refine S_skip ?_
          refine S_seq ?_
          refine S_seq ?_
          refine S_reg [true, true, true, true, false, true] rfl rfl ?_
          refine J_st (R_fieldAddr0 fl72_4 rfl) rfl (J_st (R_load sc68 rfl (h1.one 4 rfl)) rfl (J_st (R_fieldAddr0 fl72_4 rfl) rfl (J_st (R_load sc68 rfl (h2.one 4 rfl)) rfl ?_)))
          refine J_call Try.call81 rfl (c_eqIntS o5 x.sums o13 y.sums _ (hd5.rd.ext E) (hd13.rd.ext E)) rfl (fun _ w7 e7 hv => ?_)
          subst hv
          replace E := E.trans e7; replace h1 := h1.ext e7; replace h2 := h2.ext e7
          have z7 := e7.size
          refine J_st (R_not rfl) rfl (J_done ?_)
          refine S_cond rfl (fun hc5 => ?_) (fun hc5 => ?_)
          · refine S_seq ?_
            refine S_reg [true] rfl rfl ?_
            refine J_st (R_assign rfl) rfl (J_done ?_)
            refine S_ret (E_done1 rfl rfl E ?_)
            cases x; cases y; simp_all
          · refine S_skip ?_
            refine S_seq ?_
            refine S_seq ?_
            refine S_reg [true, true, true, true, false, true] rfl rfl ?_
            refine J_st (R_fieldAddr0 fl72_5 rfl) rfl (J_st (R_load sc69 rfl (h1.one 5 rfl)) rfl (J_st (R_fieldAddr0 fl72_5 rfl) rfl (J_st (R_load sc69 rfl (h2.one 5 rfl)) rfl ?_)))
            refine J_call Try.call82 rfl (c_eqBoolS o6 x.black o14 y.black _ (hd6.rd.ext E) (hd14.rd.ext E)) rfl (fun _ w8 e8 hv => ?_)
            subst hv
            replace E := E.trans e8; replace h1 := h1.ext e8; replace h2 := h2.ext e8
            have z8 := e8.size
            refine J_st (R_not rfl) rfl (J_done ?_)
            refine S_cond rfl (fun hc6 => ?_) (fun hc6 => ?_)
            · refine S_seq ?_
              refine S_reg [true] rfl rfl ?_
              refine J_st (R_assign rfl) rfl (J_done ?_)
              refine S_ret (E_done1 rfl rfl E ?_)
              cases x; cases y; simp_all
            · refine S_skip ?_
              refine S_seq ?_
              refine S_seq ?_
              refine S_reg [true, true, true, true, false, true] rfl rfl ?_
              refine J_st (R_fieldAddr0 fl72_6 rfl) rfl (J_st (R_load sc69 rfl (h1.one 6 rfl)) rfl (J_st (R_fieldAddr0 fl72_6 rfl) rfl (J_st (R_load sc69 rfl (h2.one 6 rfl)) rfl ?_)))
              refine J_call Try.call82 rfl (c_eqBoolS o7 x.caps o15 y.caps _ (hd7.rd.ext E) (hd15.rd.ext E)) rfl (fun _ w9 e9 hv => ?_)
              subst hv
              replace E := E.trans e9; replace h1 := h1.ext e9; replace h2 := h2.ext e9
              have z9 := e9.size
              refine J_st (R_not rfl) rfl (J_done ?_)
              refine S_cond rfl (fun hc7 => ?_) (fun hc7 => ?_)
              · refine S_seq ?_
                refine S_reg [true] rfl rfl ?_
                refine J_st (R_assign rfl) rfl (J_done ?_)
                refine S_ret (E_done1 rfl rfl E ?_)
                cases x; cases y; simp_all
              · refine S_skip ?_
                refine S_seq ?_
                refine S_seq ?_
                refine S_reg [true, true, true, true, false, true] rfl rfl ?_
                refine J_st (R_fieldAddr0 fl72_7 rfl) rfl (J_st (R_load sc70 rfl (h1.one 7 rfl)) rfl (J_st (R_fieldAddr0 fl72_7 rfl) rfl (J_st (R_load sc70 rfl (h2.one 7 rfl)) rfl ?_)))
                refine J_call Try.call83 rfl (c_eqDoneS o8 x.dones o16 y.dones _ (hd8.rd.ext E) (hd16.rd.ext E)) rfl (fun _ w10 e10 hv => ?_)
                subst hv
                replace E := E.trans e10; replace h1 := h1.ext e10; replace h2 := h2.ext e10
                have z10 := e10.size
                refine J_st (R_not rfl) rfl (J_done ?_)
                refine S_cond rfl (fun hc8 => ?_) (fun hc8 => ?_)
                · refine S_seq ?_
                  refine S_reg [true] rfl rfl ?_
                  refine J_st (R_assign rfl) rfl (J_done ?_)
                  refine S_ret (E_done1 rfl rfl E ?_)
                  cases x; cases y; simp_all
                · refine S_skip ?_
                  refine S_seq ?_
                  refine S_reg [true] rfl rfl ?_
                  refine J_st (R_assign rfl) rfl (J_done ?_)
                  refine S_ret (E_done1 rfl rfl E ?_)
                  cases x; cases y; simp_all

set_option maxRecDepth 20000 in
theorem c_slicesEqualRecord (vxs : Value) (xs : List Record) (vys : Value) (ys : List Record) (w : World) (hxs : RdS w vxs xs) (hys : RdS w vys ys) : Ct Try.prog 61 [vxs, vys] w (fun v _ => v = .bool (decide (xs = ys))) := by
  refine ct_of Try.func61 rfl Try.ntmps61 rfl ?_
  refine S_sub [(0, vxs), (1, vys)] ⟨rfl, rfl, trivial⟩ ?_
  have E : Ext w w := Ext.refl w
  refine S_seq ?_
  refine S_reg [true] rfl rfl ?_
  refine J_st (R_assign rfl) rfl (J_done ?_)
  refine S_seq ?_
  refine S_seq ?_
  refine S_reg [true, true, true, true, true] rfl rfl ?_
  refine J_st (R_move rfl) rfl (J_st (R_len Try.underlying66 rfl (hxs.ext E).len) rfl (J_st (R_move rfl) rfl (J_st (R_len Try.underlying66 rfl (hys.ext E).len) rfl (J_st (R_neq rfl rfl) rfl (J_done ?_)))))
  refine S_cond rfl (fun hc1 => ?_) (fun hc1 => ?_)
  · have hc1n : ¬ xs.length = ys.length := by first | (have h := of_decide_eq_true hc1; omega) | (have h := hc1; simp at h; omega)
    refine S_seq ?_
    refine S_reg [true] rfl rfl ?_
    refine J_st (R_assign rfl) rfl (J_done ?_)
    refine S_ret (E_done1 rfl rfl E ?_)
    simp [eq_len hc1n]
  · have hc1n : xs.length = ys.length := by first | (have h := of_decide_eq_false hc1; omega) | (have h := hc1; simp at h; omega)
    refine S_skip ?_
    refine S_seq ?_
    refine S_seq ?_
    refine S_reg [true, true, true] rfl rfl ?_
    refine J_st (R_move rfl) rfl (J_st (R_len Try.underlying66 rfl (hxs.ext E).len) rfl (J_st (R_move rfl) rfl (J_done ?_)))
    refine S_block ?_
    refine S_loop (fun (k : Nat) => [(0, vxs), (1, vys), (4, .bool false), (12, .int .i64 ((xs.length : Nat) : Int)), (13, .int .i64 ((k : Nat) : Int))]) (fun (k : Nat) w' => Ext w w' ∧ w.heap.size ≤ w'.heap.size ∧ k ≤ xs.length ∧ xs.take k = ys.take k) (fun (k : Nat) => xs.length - k) 0 ⟨rfl, rfl, rfl, rfl, rfl, trivial⟩ ⟨E, Nat.le_refl _, Nat.zero_le _, rfl⟩ ?_
    clear E
    rintro k w1 ⟨E, z1, hk, hp⟩
    refine S_seq ?_
    refine S_reg [true] rfl rfl ?_
    refine J_st (R_lss rfl rfl) rfl (J_done ?_)
    refine S_seq ?_
    refine S_cond rfl (fun hc2 => ?_) (fun hc2 => ?_)
    · have hc2n : k < xs.length := by first | (have h := of_decide_eq_true hc2; omega) | (have h := hc2; simp at h; omega)
      refine S_skip ?_
      refine S_seq ?_
      refine S_block ?_
      refine S_seq ?_
      refine S_reg [true, true] rfl rfl ?_
      refine J_st (R_move rfl) rfl (J_st (R_assign rfl) rfl (J_done ?_))
      refine S_seq ?_
      refine S_regD mixed [(0, true), (1, true), (2, true), (3, true), (4, true), (5, true), (6, true), (7, true), (8, true)] (by decide +kernel) rfl (fun w2 e1 => ?_)
      replace E := E.trans e1
      have z2 := e1.size
      refine J_st (R_move rfl) rfl (J_st (R_move rfl) rfl ?_)
      have hi1 : k < xs.length := (by first | assumption | omega)
      refine J_st (R_index (i := k) sl66 rfl rfl (hxs.ext E) hi1) rfl (J_st (R_loadS st114 rfl ((hxs.ext E).get hi1) rfl) rfl (J_st (R_move rfl) rfl (J_st (R_move rfl) rfl ?_)))
      have hi2 : k < ys.length := (by first | assumption | omega)
      refine J_st (R_index (i := k) sl66 rfl rfl (hys.ext E) hi2) rfl (J_st (R_loadS st114 rfl ((hys.ext E).get hi2) rfl) rfl (J_st (R_neqS (ne114 (xs[k]'hi1) (ys[k]'hi2)) eqg114 rfl rfl) rfl (J_done ?_)))
      refine S_cond rfl (fun hc3 => ?_) (fun hc3 => ?_)
      · refine S_seq ?_
        refine S_reg [true] rfl rfl ?_
        refine J_st (R_assign rfl) rfl (J_done ?_)
        refine S_ret (E_inB_ret (E_lp_ret (E_inB_ret (E_done1 rfl rfl E ?_))))
        exact eqS_no (by omega) (by omega) (by simpa using hc3)
      · refine S_skip ?_
        refine S_nil (E_inB ?_)
        refine S_reg [true, true] rfl rfl ?_
        refine J_st (R_add rfl rfl (add_one hc2n hxs.1)) rfl (J_st (R_move rfl) rfl (J_done ?_))
        refine S_nil (E_again (k + 1) (by omega) ⟨rfl, rfl, rfl, rfl, rfl, trivial⟩ ⟨E, (by omega), (by omega), eqS_step hp (by assumption) (by omega) (by simpa using hc3)⟩)
    · have hc2n : ¬ k < xs.length := by first | (have h := of_decide_eq_false hc2; omega) | (have h := hc2; simp at h; omega)
      refine S_exit (E_lp_exit (E_inB_exit ?_))
      refine S_seq ?_
      refine S_reg [true] rfl rfl ?_
      refine J_st (R_assign rfl) rfl (J_done ?_)
      refine S_ret (E_done1 rfl rfl E ?_)
      exact eqS_yes hp hc1n (by omega)

set_option maxRecDepth 20000 in
theorem c_slicesEqualCell (vxs : Value) (xs : List Cell) (vys : Value) (ys : List Cell) (w : World) (hxs : RdS w vxs xs) (hys : RdS w vys ys) : Ct Try.prog 62 [vxs, vys] w (fun v _ => v = .bool (decide (xs = ys))) := by
  refine ct_of Try.func62 rfl Try.ntmps62 rfl ?_
  refine S_sub [(0, vxs), (1, vys)] ⟨rfl, rfl, trivial⟩ ?_
  have E : Ext w w := Ext.refl w
  refine S_seq ?_
  refine S_reg [true] rfl rfl ?_
  refine J_st (R_assign rfl) rfl (J_done ?_)
  refine S_seq ?_
  refine S_seq ?_
  refine S_reg [true, true, true, true, true] rfl rfl ?_
  refine J_st (R_move rfl) rfl (J_st (R_len Try.underlying67 rfl (hxs.ext E).len) rfl (J_st (R_move rfl) rfl (J_st (R_len Try.underlying67 rfl (hys.ext E).len) rfl (J_st (R_neq rfl rfl) rfl (J_done ?_)))))
  refine S_cond rfl (fun hc1 => ?_) (fun hc1 => ?_)
  · have hc1n : ¬ xs.length = ys.length := by first | (have h := of_decide_eq_true hc1; omega) | (have h := hc1; simp at h; omega)
    refine S_seq ?_
    refine S_reg [true] rfl rfl ?_
    refine J_st (R_assign rfl) rfl (J_done ?_)
    refine S_ret (E_done1 rfl rfl E ?_)
    simp [eq_len hc1n]
  · have hc1n : xs.length = ys.length := by first | (have h := of_decide_eq_false hc1; omega) | (have h := hc1; simp at h; omega)
    refine S_skip ?_
    refine S_seq ?_
    refine S_seq ?_
    refine S_reg [true, true, true] rfl rfl ?_
    refine J_st (R_move rfl) rfl (J_st (R_len Try.underlying67 rfl (hxs.ext E).len) rfl (J_st (R_move rfl) rfl (J_done ?_)))
    refine S_block ?_
    refine S_loop (fun (k : Nat) => [(0, vxs), (1, vys), (4, .bool false), (12, .int .i64 ((xs.length : Nat) : Int)), (13, .int .i64 ((k : Nat) : Int))]) (fun (k : Nat) w' => Ext w w' ∧ w.heap.size ≤ w'.heap.size ∧ k ≤ xs.length ∧ xs.take k = ys.take k) (fun (k : Nat) => xs.length - k) 0 ⟨rfl, rfl, rfl, rfl, rfl, trivial⟩ ⟨E, Nat.le_refl _, Nat.zero_le _, rfl⟩ ?_
    clear E
    rintro k w1 ⟨E, z1, hk, hp⟩
    refine S_seq ?_
    refine S_reg [true] rfl rfl ?_
    refine J_st (R_lss rfl rfl) rfl (J_done ?_)
    refine S_seq ?_
    refine S_cond rfl (fun hc2 => ?_) (fun hc2 => ?_)
    · have hc2n : k < xs.length := by first | (have h := of_decide_eq_true hc2; omega) | (have h := hc2; simp at h; omega)
      refine S_skip ?_
      refine S_seq ?_
      refine S_block ?_
      refine S_seq ?_
      refine S_reg [true, true] rfl rfl ?_
      refine J_st (R_move rfl) rfl (J_st (R_assign rfl) rfl (J_done ?_))
      refine S_seq ?_
      refine S_regD mixed [(0, true), (1, true), (2, true), (3, true), (4, true), (5, true), (6, true), (7, true), (8, true)] (by decide +kernel) rfl (fun w2 e1 => ?_)
      replace E := E.trans e1
      have z2 := e1.size
      refine J_st (R_move rfl) rfl (J_st (R_move rfl) rfl ?_)
      have hi1 : k < xs.length := (by first | assumption | omega)
      refine J_st (R_index (i := k) sl67 rfl rfl (hxs.ext E) hi1) rfl (J_st (R_loadS st116 rfl ((hxs.ext E).get hi1) rfl) rfl (J_st (R_move rfl) rfl (J_st (R_move rfl) rfl ?_)))
      have hi2 : k < ys.length := (by first | assumption | omega)
      refine J_st (R_index (i := k) sl67 rfl rfl (hys.ext E) hi2) rfl (J_st (R_loadS st116 rfl ((hys.ext E).get hi2) rfl) rfl (J_st (R_neqS (ne116 (xs[k]'hi1) (ys[k]'hi2)) eqg116 rfl rfl) rfl (J_done ?_)))
      refine S_cond rfl (fun hc3 => ?_) (fun hc3 => ?_)
      · refine S_seq ?_
        refine S_reg [true] rfl rfl ?_
        refine J_st (R_assign rfl) rfl (J_done ?_)
        refine S_ret (E_inB_ret (E_lp_ret (E_inB_ret (E_done1 rfl rfl E ?_))))
        exact eqS_no (by omega) (by omega) (by simpa using hc3)
      · refine S_skip ?_
        refine S_nil (E_inB ?_)
        refine S_reg [true, true] rfl rfl ?_
        refine J_st (R_add rfl rfl (add_one hc2n hxs.1)) rfl (J_st (R_move rfl) rfl (J_done ?_))
        refine S_nil (E_again (k + 1) (by omega) ⟨rfl, rfl, rfl, rfl, rfl, trivial⟩ ⟨E, (by omega), (by omega), eqS_step hp (by assumption) (by omega) (by simpa using hc3)⟩)
    · have hc2n : ¬ k < xs.length := by first | (have h := of_decide_eq_false hc2; omega) | (have h := hc2; simp at h; omega)
      refine S_exit (E_lp_exit (E_inB_exit ?_))
      refine S_seq ?_
      refine S_reg [true] rfl rfl ?_
      refine J_st (R_assign rfl) rfl (J_done ?_)
      refine S_ret (E_done1 rfl rfl E ?_)
      exact eqS_yes hp hc1n (by omega)

set_option maxRecDepth 20000 in
theorem c_slicesEqualDone (vxs : Value) (xs : List Done) (vys : Value) (ys : List Done) (w : World) (hxs : RdS w vxs xs) (hys : RdS w vys ys) : Ct Try.prog 65 [vxs, vys] w (fun v _ => v = .bool (decide (xs = ys))) := by
  refine ct_of Try.func65 rfl Try.ntmps65 rfl ?_
  refine S_sub [(0, vxs), (1, vys)] ⟨rfl, rfl, trivial⟩ ?_
  have E : Ext w w := Ext.refl w
  refine S_seq ?_
  refine S_reg [true] rfl rfl ?_
  refine J_st (R_assign rfl) rfl (J_done ?_)
  refine S_seq ?_
  refine S_seq ?_
  refine S_reg [true, true, true, true, true] rfl rfl ?_
  refine J_st (R_move rfl) rfl (J_st (R_len Try.underlying70 rfl (hxs.ext E).len) rfl (J_st (R_move rfl) rfl (J_st (R_len Try.underlying70 rfl (hys.ext E).len) rfl (J_st (R_neq rfl rfl) rfl (J_done ?_)))))
  refine S_cond rfl (fun hc1 => ?_) (fun hc1 => ?_)
  · have hc1n : ¬ xs.length = ys.length := by first | (have h := of_decide_eq_true hc1; omega) | (have h := hc1; simp at h; omega)
    refine S_seq ?_
    refine S_reg [true] rfl rfl ?_
    refine J_st (R_assign rfl) rfl (J_done ?_)
    refine S_ret (E_done1 rfl rfl E ?_)
    simp [eq_len hc1n]
  · have hc1n : xs.length = ys.length := by first | (have h := of_decide_eq_false hc1; omega) | (have h := hc1; simp at h; omega)
    refine S_skip ?_
    refine S_seq ?_
    refine S_seq ?_
    refine S_reg [true, true, true] rfl rfl ?_
    refine J_st (R_move rfl) rfl (J_st (R_len Try.underlying70 rfl (hxs.ext E).len) rfl (J_st (R_move rfl) rfl (J_done ?_)))
    refine S_block ?_
    refine S_loop (fun (k : Nat) => [(0, vxs), (1, vys), (4, .bool false), (12, .int .i64 ((xs.length : Nat) : Int)), (13, .int .i64 ((k : Nat) : Int))]) (fun (k : Nat) w' => Ext w w' ∧ w.heap.size ≤ w'.heap.size ∧ k ≤ xs.length ∧ xs.take k = ys.take k) (fun (k : Nat) => xs.length - k) 0 ⟨rfl, rfl, rfl, rfl, rfl, trivial⟩ ⟨E, Nat.le_refl _, Nat.zero_le _, rfl⟩ ?_
    clear E
    rintro k w1 ⟨E, z1, hk, hp⟩
    refine S_seq ?_
    refine S_reg [true] rfl rfl ?_
    refine J_st (R_lss rfl rfl) rfl (J_done ?_)
    refine S_seq ?_
    refine S_cond rfl (fun hc2 => ?_) (fun hc2 => ?_)
    · have hc2n : k < xs.length := by first | (have h := of_decide_eq_true hc2; omega) | (have h := hc2; simp at h; omega)
      refine S_skip ?_
      refine S_seq ?_
      refine S_block ?_
      refine S_seq ?_
      refine S_reg [true, true] rfl rfl ?_
      refine J_st (R_move rfl) rfl (J_st (R_assign rfl) rfl (J_done ?_))
      refine S_seq ?_
      refine S_regD mixed [(0, true), (1, true), (2, true), (3, true), (4, true), (5, true), (6, true), (7, true), (8, true)] (by decide +kernel) rfl (fun w2 e1 => ?_)
      replace E := E.trans e1
      have z2 := e1.size
      refine J_st (R_move rfl) rfl (J_st (R_move rfl) rfl ?_)
      have hi1 : k < xs.length := (by first | assumption | omega)
      refine J_st (R_index (i := k) sl70 rfl rfl (hxs.ext E) hi1) rfl (J_st (R_loadS st108 rfl ((hxs.ext E).get hi1) rfl) rfl (J_st (R_move rfl) rfl (J_st (R_move rfl) rfl ?_)))
      have hi2 : k < ys.length := (by first | assumption | omega)
      refine J_st (R_index (i := k) sl70 rfl rfl (hys.ext E) hi2) rfl (J_st (R_loadS st108 rfl ((hys.ext E).get hi2) rfl) rfl (J_st (R_neqS (ne108 (xs[k]'hi1) (ys[k]'hi2)) eqg108 rfl rfl) rfl (J_done ?_)))
      refine S_cond rfl (fun hc3 => ?_) (fun hc3 => ?_)
      · refine S_seq ?_
        refine S_reg [true] rfl rfl ?_
        refine J_st (R_assign rfl) rfl (J_done ?_)
        refine S_ret (E_inB_ret (E_lp_ret (E_inB_ret (E_done1 rfl rfl E ?_))))
        exact eqS_no (by omega) (by omega) (by simpa using hc3)
      · refine S_skip ?_
        refine S_nil (E_inB ?_)
        refine S_reg [true, true] rfl rfl ?_
        refine J_st (R_add rfl rfl (add_one hc2n hxs.1)) rfl (J_st (R_move rfl) rfl (J_done ?_))
        refine S_nil (E_again (k + 1) (by omega) ⟨rfl, rfl, rfl, rfl, rfl, trivial⟩ ⟨E, (by omega), (by omega), eqS_step hp (by assumption) (by omega) (by simpa using hc3)⟩)
    · have hc2n : ¬ k < xs.length := by first | (have h := of_decide_eq_false hc2; omega) | (have h := hc2; simp at h; omega)
      refine S_exit (E_lp_exit (E_inB_exit ?_))
      refine S_seq ?_
      refine S_reg [true] rfl rfl ?_
      refine J_st (R_assign rfl) rfl (J_done ?_)
      refine S_ret (E_done1 rfl rfl E ?_)
      exact eqS_yes hp hc1n (by omega)

set_option maxRecDepth 20000 in
theorem c_slicesEqualBool (vxs : Value) (xs : List Bool) (vys : Value) (ys : List Bool) (w : World) (hxs : RdS w vxs xs) (hys : RdS w vys ys) : Ct Try.prog 64 [vxs, vys] w (fun v _ => v = .bool (decide (xs = ys))) := by
  refine ct_of Try.func64 rfl Try.ntmps64 rfl ?_
  refine S_sub [(0, vxs), (1, vys)] ⟨rfl, rfl, trivial⟩ ?_
  have E : Ext w w := Ext.refl w
  refine S_seq ?_
  refine S_reg [true] rfl rfl ?_
  refine J_st (R_assign rfl) rfl (J_done ?_)
  refine S_seq ?_
  refine S_seq ?_
  refine S_reg [true, true, true, true, true] rfl rfl ?_
  refine J_st (R_move rfl) rfl (J_st (R_len Try.underlying69 rfl (hxs.ext E).len) rfl (J_st (R_move rfl) rfl (J_st (R_len Try.underlying69 rfl (hys.ext E).len) rfl (J_st (R_neq rfl rfl) rfl (J_done ?_)))))
  refine S_cond rfl (fun hc1 => ?_) (fun hc1 => ?_)
  · have hc1n : ¬ xs.length = ys.length := by first | (have h := of_decide_eq_true hc1; omega) | (have h := hc1; simp at h; omega)
    refine S_seq ?_
    refine S_reg [true] rfl rfl ?_
    refine J_st (R_assign rfl) rfl (J_done ?_)
    refine S_ret (E_done1 rfl rfl E ?_)
    simp [eq_len hc1n]
  · have hc1n : xs.length = ys.length := by first | (have h := of_decide_eq_false hc1; omega) | (have h := hc1; simp at h; omega)
    refine S_skip ?_
    refine S_seq ?_
    refine S_seq ?_
    refine S_reg [true, true, true] rfl rfl ?_
    refine J_st (R_move rfl) rfl (J_st (R_len Try.underlying69 rfl (hxs.ext E).len) rfl (J_st (R_move rfl) rfl (J_done ?_)))
    refine S_block ?_
    refine S_loop (fun (k : Nat) => [(0, vxs), (1, vys), (4, .bool false), (12, .int .i64 ((xs.length : Nat) : Int)), (13, .int .i64 ((k : Nat) : Int))]) (fun (k : Nat) w' => Ext w w' ∧ w.heap.size ≤ w'.heap.size ∧ k ≤ xs.length ∧ xs.take k = ys.take k) (fun (k : Nat) => xs.length - k) 0 ⟨rfl, rfl, rfl, rfl, rfl, trivial⟩ ⟨E, Nat.le_refl _, Nat.zero_le _, rfl⟩ ?_
    clear E
    rintro k w1 ⟨E, z1, hk, hp⟩
    refine S_seq ?_
    refine S_reg [true] rfl rfl ?_
    refine J_st (R_lss rfl rfl) rfl (J_done ?_)
    refine S_seq ?_
    refine S_cond rfl (fun hc2 => ?_) (fun hc2 => ?_)
    · have hc2n : k < xs.length := by first | (have h := of_decide_eq_true hc2; omega) | (have h := hc2; simp at h; omega)
      refine S_skip ?_
      refine S_seq ?_
      refine S_block ?_
      refine S_seq ?_
      refine S_reg [true, true] rfl rfl ?_
      refine J_st (R_move rfl) rfl (J_st (R_assign rfl) rfl (J_done ?_))
      refine S_seq ?_
      refine S_regD mixed [(0, true), (1, true), (2, true), (3, true), (4, true), (5, true), (6, true), (7, true), (8, true)] (by decide +kernel) rfl (fun w2 e1 => ?_)
      replace E := E.trans e1
      have z2 := e1.size
      refine J_st (R_move rfl) rfl (J_st (R_move rfl) rfl ?_)
      have hi1 : k < xs.length := (by first | assumption | omega)
      refine J_st (R_index (i := k) sl69 rfl rfl (hxs.ext E) hi1) rfl (J_st (R_load sc4 rfl (((hxs.ext E).get hi1).one 0 rfl)) rfl (J_st (R_move rfl) rfl (J_st (R_move rfl) rfl ?_)))
      have hi2 : k < ys.length := (by first | assumption | omega)
      refine J_st (R_index (i := k) sl69 rfl rfl (hys.ext E) hi2) rfl (J_st (R_load sc4 rfl (((hys.ext E).get hi2).one 0 rfl)) rfl (J_st (R_neqB (Try.underlying4) rfl rfl) rfl (J_done ?_)))
      refine S_cond rfl (fun hc3 => ?_) (fun hc3 => ?_)
      · refine S_seq ?_
        refine S_reg [true] rfl rfl ?_
        refine J_st (R_assign rfl) rfl (J_done ?_)
        refine S_ret (E_inB_ret (E_lp_ret (E_inB_ret (E_done1 rfl rfl E ?_))))
        exact eqS_no (by omega) (by omega) (by simpa using hc3)
      · refine S_skip ?_
        refine S_nil (E_inB ?_)
        refine S_reg [true, true] rfl rfl ?_
        refine J_st (R_add rfl rfl (add_one hc2n hxs.1)) rfl (J_st (R_move rfl) rfl (J_done ?_))
        refine S_nil (E_again (k + 1) (by omega) ⟨rfl, rfl, rfl, rfl, rfl, trivial⟩ ⟨E, (by omega), (by omega), eqS_step hp (by assumption) (by omega) (by simpa using hc3)⟩)
    · have hc2n : ¬ k < xs.length := by first | (have h := of_decide_eq_false hc2; omega) | (have h := hc2; simp at h; omega)
      refine S_exit (E_lp_exit (E_inB_exit ?_))
      refine S_seq ?_
      refine S_reg [true] rfl rfl ?_
      refine J_st (R_assign rfl) rfl (J_done ?_)
      refine S_ret (E_done1 rfl rfl E ?_)
      exact eqS_yes hp hc1n (by omega)

set_option maxRecDepth 20000 in
theorem s_l05Same (vxs : Value) (xs : List Record) (vys : Value) (ys : List Record) (w : World) (hxs : RdS w vxs xs) (hys : RdS w vys ys) : Ct Try.prog 56 [vxs, vys] w (fun v _ => v = .bool (decide (xs = ys))) := by
  refine ct_of Try.func56 rfl Try.ntmps56 rfl ?_
  refine S_sub [(0, vxs), (1, vys)] ⟨rfl, rfl, trivial⟩ ?_
  have E : Ext w w := Ext.refl w
  refine S_seq ?_
  refine S_reg [true] rfl rfl ?_
  refine J_st (R_assign rfl) rfl (J_done ?_)
  refine S_seq ?_
  refine S_seq ?_
  refine S_reg [true, true, true, true, true] rfl rfl ?_
  refine J_st (R_move rfl) rfl (J_st (R_len Try.underlying66 rfl (hxs.ext E).len) rfl (J_st (R_move rfl) rfl (J_st (R_len Try.underlying66 rfl (hys.ext E).len) rfl (J_st (R_neq rfl rfl) rfl (J_done ?_)))))
  refine S_cond rfl (fun hc1 => ?_) (fun hc1 => ?_)
  · have hc1n : ¬ xs.length = ys.length := by first | (have h := of_decide_eq_true hc1; omega) | (have h := hc1; simp at h; omega)
    refine S_seq ?_
    refine S_reg [true] rfl rfl ?_
    refine J_st (R_assign rfl) rfl (J_done ?_)
    refine S_ret (E_done1 rfl rfl E ?_)
    simp [eq_len hc1n]
  · have hc1n : xs.length = ys.length := by first | (have h := of_decide_eq_false hc1; omega) | (have h := hc1; simp at h; omega)
    refine S_skip ?_
    refine S_seq ?_
    refine S_seq ?_
    refine S_reg [true] rfl rfl ?_
    refine J_st (R_assign rfl) rfl (J_done ?_)
    refine S_block ?_
    refine S_loop (fun (k : Nat) => [(0, vxs), (1, vys), (4, .bool false), (5, .int .i64 ((k : Nat) : Int))]) (fun (k : Nat) w' => Ext w w' ∧ w.heap.size ≤ w'.heap.size ∧ k ≤ xs.length ∧ xs.take k = ys.take k) (fun (k : Nat) => xs.length - k) 0 ⟨rfl, rfl, rfl, rfl, trivial⟩ ⟨E, Nat.le_refl _, Nat.zero_le _, rfl⟩ ?_
    clear E
    rintro k w1 ⟨E, z1, hk, hp⟩
    refine S_seq ?_
    refine S_seq ?_
    refine S_reg [true, true, true, true] rfl rfl ?_
    refine J_st (R_move rfl) rfl (J_st (R_move rfl) rfl (J_st (R_len Try.underlying66 rfl (hxs.ext E).len) rfl (J_st (R_lss rfl rfl) rfl (J_done ?_))))
    refine S_cond rfl (fun hc2 => ?_) (fun hc2 => ?_)
    · have hc2n : k < xs.length := by first | (have h := of_decide_eq_true hc2; omega) | (have h := hc2; simp at h; omega)
      refine S_skip ?_
      refine S_seq ?_
      refine S_block ?_
      refine S_seq ?_
      refine S_regD mixed [(0, true), (1, true), (2, true), (3, true), (4, true), (5, true), (6, true), (7, true), (8, true)] (by decide +kernel) rfl (fun w2 e1 => ?_)
      replace E := E.trans e1
      have z2 := e1.size
      refine J_st (R_move rfl) rfl (J_st (R_move rfl) rfl ?_)
      have hi1 : k < xs.length := (by first | assumption | omega)
      refine J_st (R_index (i := k) sl66 rfl rfl (hxs.ext E) hi1) rfl (J_st (R_loadS st114 rfl ((hxs.ext E).get hi1) rfl) rfl (J_st (R_move rfl) rfl (J_st (R_move rfl) rfl ?_)))
      have hi2 : k < ys.length := (by first | assumption | omega)
      refine J_st (R_index (i := k) sl66 rfl rfl (hys.ext E) hi2) rfl (J_st (R_loadS st114 rfl ((hys.ext E).get hi2) rfl) rfl (J_st (R_neqS (ne114 (xs[k]'hi1) (ys[k]'hi2)) eqg114 rfl rfl) rfl (J_done ?_)))
      refine S_cond rfl (fun hc3 => ?_) (fun hc3 => ?_)
      · refine S_seq ?_
        refine S_reg [true] rfl rfl ?_
        refine J_st (R_assign rfl) rfl (J_done ?_)
        refine S_ret (E_inB_ret (E_lp_ret (E_inB_ret (E_done1 rfl rfl E ?_))))
        exact eqS_no (by omega) (by omega) (by simpa using hc3)
      · refine S_skip ?_
        refine S_nil (E_inB ?_)
        refine S_reg [true, true, true] rfl rfl ?_
        refine J_st (R_move rfl) rfl (J_st (R_add rfl rfl (add_one hc2n hxs.1)) rfl (J_st (R_assign rfl) rfl (J_done ?_)))
        refine S_nil (E_again (k + 1) (by omega) ⟨rfl, rfl, rfl, rfl, trivial⟩ ⟨E, (by omega), (by omega), eqS_step hp (by assumption) (by omega) (by simpa using hc3)⟩)
    · have hc2n : ¬ k < xs.length := by first | (have h := of_decide_eq_false hc2; omega) | (have h := hc2; simp at h; omega)
      refine S_exit (E_lp_exit (E_inB_exit ?_))
      refine S_seq ?_
      refine S_reg [true] rfl rfl ?_
      refine J_st (R_assign rfl) rfl (J_done ?_)
      refine S_ret (E_done1 rfl rfl E ?_)
      exact eqS_yes hp hc1n (by omega)

set_option maxRecDepth 20000 in
theorem s_l09Same (vxs : Value) (xs : List Cell) (vys : Value) (ys : List Cell) (w : World) (hxs : RdS w vxs xs) (hys : RdS w vys ys) : Ct Try.prog 57 [vxs, vys] w (fun v _ => v = .bool (decide (xs = ys))) := by
  refine ct_of Try.func57 rfl Try.ntmps57 rfl ?_
  refine S_sub [(0, vxs), (1, vys)] ⟨rfl, rfl, trivial⟩ ?_
  have E : Ext w w := Ext.refl w
  refine S_seq ?_
  refine S_reg [true] rfl rfl ?_
  refine J_st (R_assign rfl) rfl (J_done ?_)
  refine S_seq ?_
  refine S_seq ?_
  refine S_reg [true, true, true, true, true] rfl rfl ?_
  refine J_st (R_move rfl) rfl (J_st (R_len Try.underlying67 rfl (hxs.ext E).len) rfl (J_st (R_move rfl) rfl (J_st (R_len Try.underlying67 rfl (hys.ext E).len) rfl (J_st (R_neq rfl rfl) rfl (J_done ?_)))))
  refine S_cond rfl (fun hc1 => ?_) (fun hc1 => ?_)
  · have hc1n : ¬ xs.length = ys.length := by first | (have h := of_decide_eq_true hc1; omega) | (have h := hc1; simp at h; omega)
    refine S_seq ?_
    refine S_reg [true] rfl rfl ?_
    refine J_st (R_assign rfl) rfl (J_done ?_)
    refine S_ret (E_done1 rfl rfl E ?_)
    simp [eq_len hc1n]
  · have hc1n : xs.length = ys.length := by first | (have h := of_decide_eq_false hc1; omega) | (have h := hc1; simp at h; omega)
    refine S_skip ?_
    refine S_seq ?_
    refine S_seq ?_
    refine S_reg [true] rfl rfl ?_
    refine J_st (R_assign rfl) rfl (J_done ?_)
    refine S_block ?_
    refine S_loop (fun (k : Nat) => [(0, vxs), (1, vys), (4, .bool false), (5, .int .i64 ((k : Nat) : Int))]) (fun (k : Nat) w' => Ext w w' ∧ w.heap.size ≤ w'.heap.size ∧ k ≤ xs.length ∧ xs.take k = ys.take k) (fun (k : Nat) => xs.length - k) 0 ⟨rfl, rfl, rfl, rfl, trivial⟩ ⟨E, Nat.le_refl _, Nat.zero_le _, rfl⟩ ?_
    clear E
    rintro k w1 ⟨E, z1, hk, hp⟩
    refine S_seq ?_
    refine S_seq ?_
    refine S_reg [true, true, true, true] rfl rfl ?_
    refine J_st (R_move rfl) rfl (J_st (R_move rfl) rfl (J_st (R_len Try.underlying67 rfl (hxs.ext E).len) rfl (J_st (R_lss rfl rfl) rfl (J_done ?_))))
    refine S_cond rfl (fun hc2 => ?_) (fun hc2 => ?_)
    · have hc2n : k < xs.length := by first | (have h := of_decide_eq_true hc2; omega) | (have h := hc2; simp at h; omega)
      refine S_skip ?_
      refine S_seq ?_
      refine S_block ?_
      refine S_seq ?_
      refine S_regD mixed [(0, true), (1, true), (2, true), (3, true), (4, true), (5, true), (6, true), (7, true), (8, true)] (by decide +kernel) rfl (fun w2 e1 => ?_)
      replace E := E.trans e1
      have z2 := e1.size
      refine J_st (R_move rfl) rfl (J_st (R_move rfl) rfl ?_)
      have hi1 : k < xs.length := (by first | assumption | omega)
      refine J_st (R_index (i := k) sl67 rfl rfl (hxs.ext E) hi1) rfl (J_st (R_loadS st116 rfl ((hxs.ext E).get hi1) rfl) rfl (J_st (R_move rfl) rfl (J_st (R_move rfl) rfl ?_)))
      have hi2 : k < ys.length := (by first | assumption | omega)
      refine J_st (R_index (i := k) sl67 rfl rfl (hys.ext E) hi2) rfl (J_st (R_loadS st116 rfl ((hys.ext E).get hi2) rfl) rfl (J_st (R_neqS (ne116 (xs[k]'hi1) (ys[k]'hi2)) eqg116 rfl rfl) rfl (J_done ?_)))
      refine S_cond rfl (fun hc3 => ?_) (fun hc3 => ?_)
      · refine S_seq ?_
        refine S_reg [true] rfl rfl ?_
        refine J_st (R_assign rfl) rfl (J_done ?_)
        refine S_ret (E_inB_ret (E_lp_ret (E_inB_ret (E_done1 rfl rfl E ?_))))
        exact eqS_no (by omega) (by omega) (by simpa using hc3)
      · refine S_skip ?_
        refine S_nil (E_inB ?_)
        refine S_reg [true, true, true] rfl rfl ?_
        refine J_st (R_move rfl) rfl (J_st (R_add rfl rfl (add_one hc2n hxs.1)) rfl (J_st (R_assign rfl) rfl (J_done ?_)))
        refine S_nil (E_again (k + 1) (by omega) ⟨rfl, rfl, rfl, rfl, trivial⟩ ⟨E, (by omega), (by omega), eqS_step hp (by assumption) (by omega) (by simpa using hc3)⟩)
    · have hc2n : ¬ k < xs.length := by first | (have h := of_decide_eq_false hc2; omega) | (have h := hc2; simp at h; omega)
      refine S_exit (E_lp_exit (E_inB_exit ?_))
      refine S_seq ?_
      refine S_reg [true] rfl rfl ?_
      refine J_st (R_assign rfl) rfl (J_done ?_)
      refine S_ret (E_done1 rfl rfl E ?_)
      exact eqS_yes hp hc1n (by omega)

set_option maxRecDepth 20000 in
theorem s_l12Bits (vxs : Value) (xs : List Bool) (vys : Value) (ys : List Bool) (w : World) (hxs : RdS w vxs xs) (hys : RdS w vys ys) : Ct Try.prog 58 [vxs, vys] w (fun v _ => v = .bool (decide (xs = ys))) := by
  refine ct_of Try.func58 rfl Try.ntmps58 rfl ?_
  refine S_sub [(0, vxs), (1, vys)] ⟨rfl, rfl, trivial⟩ ?_
  have E : Ext w w := Ext.refl w
  refine S_seq ?_
  refine S_reg [true] rfl rfl ?_
  refine J_st (R_assign rfl) rfl (J_done ?_)
  refine S_seq ?_
  refine S_seq ?_
  refine S_reg [true, true, true, true, true] rfl rfl ?_
  refine J_st (R_move rfl) rfl (J_st (R_len Try.underlying69 rfl (hxs.ext E).len) rfl (J_st (R_move rfl) rfl (J_st (R_len Try.underlying69 rfl (hys.ext E).len) rfl (J_st (R_neq rfl rfl) rfl (J_done ?_)))))
  refine S_cond rfl (fun hc1 => ?_) (fun hc1 => ?_)
  · have hc1n : ¬ xs.length = ys.length := by first | (have h := of_decide_eq_true hc1; omega) | (have h := hc1; simp at h; omega)
    refine S_seq ?_
    refine S_reg [true] rfl rfl ?_
    refine J_st (R_assign rfl) rfl (J_done ?_)
    refine S_ret (E_done1 rfl rfl E ?_)
    simp [eq_len hc1n]
  · have hc1n : xs.length = ys.length := by first | (have h := of_decide_eq_false hc1; omega) | (have h := hc1; simp at h; omega)
    refine S_skip ?_
    refine S_seq ?_
    refine S_seq ?_
    refine S_reg [true] rfl rfl ?_
    refine J_st (R_assign rfl) rfl (J_done ?_)
    refine S_block ?_
    refine S_loop (fun (k : Nat) => [(0, vxs), (1, vys), (4, .bool false), (5, .int .i64 ((k : Nat) : Int))]) (fun (k : Nat) w' => Ext w w' ∧ w.heap.size ≤ w'.heap.size ∧ k ≤ xs.length ∧ xs.take k = ys.take k) (fun (k : Nat) => xs.length - k) 0 ⟨rfl, rfl, rfl, rfl, trivial⟩ ⟨E, Nat.le_refl _, Nat.zero_le _, rfl⟩ ?_
    clear E
    rintro k w1 ⟨E, z1, hk, hp⟩
    refine S_seq ?_
    refine S_seq ?_
    refine S_reg [true, true, true, true] rfl rfl ?_
    refine J_st (R_move rfl) rfl (J_st (R_move rfl) rfl (J_st (R_len Try.underlying69 rfl (hxs.ext E).len) rfl (J_st (R_lss rfl rfl) rfl (J_done ?_))))
    refine S_cond rfl (fun hc2 => ?_) (fun hc2 => ?_)
    · have hc2n : k < xs.length := by first | (have h := of_decide_eq_true hc2; omega) | (have h := hc2; simp at h; omega)
      refine S_skip ?_
      refine S_seq ?_
      refine S_block ?_
      refine S_seq ?_
      refine S_regD mixed [(0, true), (1, true), (2, true), (3, true), (4, true), (5, true), (6, true), (7, true), (8, true)] (by decide +kernel) rfl (fun w2 e1 => ?_)
      replace E := E.trans e1
      have z2 := e1.size
      refine J_st (R_move rfl) rfl (J_st (R_move rfl) rfl ?_)
      have hi1 : k < xs.length := (by first | assumption | omega)
      refine J_st (R_index (i := k) sl69 rfl rfl (hxs.ext E) hi1) rfl (J_st (R_load sc4 rfl (((hxs.ext E).get hi1).one 0 rfl)) rfl (J_st (R_move rfl) rfl (J_st (R_move rfl) rfl ?_)))
      have hi2 : k < ys.length := (by first | assumption | omega)
      refine J_st (R_index (i := k) sl69 rfl rfl (hys.ext E) hi2) rfl (J_st (R_load sc4 rfl (((hys.ext E).get hi2).one 0 rfl)) rfl (J_st (R_neqB (Try.underlying4) rfl rfl) rfl (J_done ?_)))
      refine S_cond rfl (fun hc3 => ?_) (fun hc3 => ?_)
      · refine S_seq ?_
        refine S_reg [true] rfl rfl ?_
        refine J_st (R_assign rfl) rfl (J_done ?_)
        refine S_ret (E_inB_ret (E_lp_ret (E_inB_ret (E_done1 rfl rfl E ?_))))
        exact eqS_no (by omega) (by omega) (by simpa using hc3)
      · refine S_skip ?_
        refine S_nil (E_inB ?_)
        refine S_reg [true, true, true] rfl rfl ?_
        refine J_st (R_move rfl) rfl (J_st (R_add rfl rfl (add_one hc2n hxs.1)) rfl (J_st (R_assign rfl) rfl (J_done ?_)))
        refine S_nil (E_again (k + 1) (by omega) ⟨rfl, rfl, rfl, rfl, trivial⟩ ⟨E, (by omega), (by omega), eqS_step hp (by assumption) (by omega) (by simpa using hc3)⟩)
    · have hc2n : ¬ k < xs.length := by first | (have h := of_decide_eq_false hc2; omega) | (have h := hc2; simp at h; omega)
      refine S_exit (E_lp_exit (E_inB_exit ?_))
      refine S_seq ?_
      refine S_reg [true] rfl rfl ?_
      refine J_st (R_assign rfl) rfl (J_done ?_)
      refine S_ret (E_done1 rfl rfl E ?_)
      exact eqS_yes hp hc1n (by omega)

set_option maxHeartbeats 4000000 in
set_option maxRecDepth 20000 in
theorem c_SameWorker (cx : List Value) (x : Worker) (cy : List Value) (y : Worker) (w : World) (hx : Dat.R w 0 w.heap.size cx x) (hy : Dat.R w 0 w.heap.size cy y) : Ct Try.prog 37 [.agg cx.toArray, .agg cy.toArray] w (fun v _ => v = .bool (decide (x = y))) := by
  refine ct_of Try.func37 rfl Try.ntmps37 rfl ?_
  obtain ⟨o1, o2, o3, o4, o5, o6, o7, o8, rfl, hd1, hd2, hd3, hd4, hd5, hd6, hd7, hd8⟩ := Worker.op hx
  obtain ⟨o9, o10, o11, o12, o13, o14, o15, o16, rfl, hd9, hd10, hd11, hd12, hd13, hd14, hd15, hd16⟩ := Worker.op hy
  refine S_sub [(0, .agg [o1, o2, o3, o4, o5, o6, o7, o8].toArray), (1, .agg [o9, o10, o11, o12, o13, o14, o15, o16].toArray)] ⟨rfl, rfl, trivial⟩ ?_
  have E : Ext w w := Ext.refl w
  refine S_seq ?_
  refine S_reg [false, false, true] rfl rfl ?_
  refine J_box rfl rfl (fun b1 w1 e1 s1 h1 => ?_)
  have g_b1 : w.heap.size ≤ b1 := by have := E.size; omega
  have y_b1 := h1.lt
  replace E := E.trans e1
  have z1 := e1.size
  refine J_box rfl rfl (fun b2 w2 e2 s2 h2 => ?_)
  have g_b2 : w.heap.size ≤ b2 := by have := E.size; omega
  have y_b2 := h2.lt
  replace E := E.trans e2; replace h1 := h1.ext e2
  have z2 := e2.size
  refine J_st (R_assign rfl) rfl (J_done ?_)
  refine S_seq ?_
  refine S_reg [true, true, true, true, false, true, true, true, true, true, false, true, true, true, true, true, true, false, true, true, true, true, true, true, false, true, true, true, true, true, true, false, true, true, true, true, true, true, false, true, true, true, true, true, true, false, true, true, true, true, true, true, false, true, true] rfl rfl ?_
  refine J_st (R_fieldAddr0 fl72_0 rfl) rfl (J_st (R_load sc66 rfl (h1.one 0 rfl)) rfl (J_st (R_fieldAddr0 fl72_0 rfl) rfl (J_st (R_load sc66 rfl (h2.one 0 rfl)) rfl ?_)))
  refine J_call Try.call61 rfl (c_slicesEqualRecord o1 x.queue o9 y.queue _ (hd1.rd.ext E) (hd9.rd.ext E)) rfl (fun _ w3 e3 hv => ?_)
  subst hv
  replace E := E.trans e3; replace h1 := h1.ext e3; replace h2 := h2.ext e3
  have z3 := e3.size
  refine J_st (R_move rfl) rfl ?_
  refine J_cut 48 [(0, .agg [o1, o2, o3, o4, o5, o6, o7, o8].toArray), (1, .agg [o9, o10, o11, o12, o13, o14, o15, o16].toArray), (2, .pointer (some ⟨b1, 0, none⟩)), (3, .pointer (some ⟨b2, 0, none⟩)), (4, .bool false), (58, .bool ((((((((decide (x.queue = y.queue)) && (decide (x.staged = y.staged))) && (decide (x.inputs = y.inputs))) && (decide (x.cells = y.cells))) && (decide (x.sums = y.sums))) && (decide (x.black = y.black))) && (decide (x.caps = y.caps))) && (decide (x.dones = y.dones))))] (fun w' => Ext w w' ∧ w3.heap.size ≤ w'.heap.size ∧ Blk w' b1 ([o1, o2, o3, o4, o5, o6, o7, o8]) ∧ Blk w' b2 ([o9, o10, o11, o12, o13, o14, o15, o16])) ?_ ?_
  · refine J_if (gd := 10) rfl rfl (fun hg1 => ?_) (fun hg1 => ?_)
    · refine J_gd rfl rfl (R_fieldAddr0 fl72_1 rfl) rfl (J_gd rfl rfl (R_load sc66 rfl (h1.one 1 rfl)) rfl (J_gd rfl rfl (R_fieldAddr0 fl72_1 rfl) rfl (J_gd rfl rfl (R_load sc66 rfl (h2.one 1 rfl)) rfl ?_)))
      refine J_ung rfl rfl ?_
      refine J_call Try.call61 rfl (c_slicesEqualRecord o2 x.staged o10 y.staged _ (hd2.rd.ext E) (hd10.rd.ext E)) rfl (fun _ w5 e4 hv => ?_)
      subst hv
      replace E := E.trans e4; replace h1 := h1.ext e4; replace h2 := h2.ext e4
      have z4 := e4.size
      refine J_st (R_pickT rfl rfl) rfl (J_st (R_move rfl) rfl ?_)
      refine J_if (gd := 17) rfl rfl (fun hg2 => ?_) (fun hg2 => ?_)
      · refine J_gd rfl rfl (R_fieldAddr0 fl72_2 rfl) rfl (J_gd rfl rfl (R_load sc66 rfl (h1.one 2 rfl)) rfl (J_gd rfl rfl (R_fieldAddr0 fl72_2 rfl) rfl (J_gd rfl rfl (R_load sc66 rfl (h2.one 2 rfl)) rfl ?_)))
        refine J_ung rfl rfl ?_
        refine J_call Try.call61 rfl (c_slicesEqualRecord o3 x.inputs o11 y.inputs _ (hd3.rd.ext E) (hd11.rd.ext E)) rfl (fun _ w6 e5 hv => ?_)
        subst hv
        replace E := E.trans e5; replace h1 := h1.ext e5; replace h2 := h2.ext e5
        have z5 := e5.size
        refine J_st (R_pickT rfl rfl) rfl (J_st (R_move rfl) rfl ?_)
        refine J_if (gd := 24) rfl rfl (fun hg3 => ?_) (fun hg3 => ?_)
        · refine J_gd rfl rfl (R_fieldAddr0 fl72_3 rfl) rfl (J_gd rfl rfl (R_load sc67 rfl (h1.one 3 rfl)) rfl (J_gd rfl rfl (R_fieldAddr0 fl72_3 rfl) rfl (J_gd rfl rfl (R_load sc67 rfl (h2.one 3 rfl)) rfl ?_)))
          refine J_ung rfl rfl ?_
          refine J_call Try.call62 rfl (c_slicesEqualCell o4 x.cells o12 y.cells _ (hd4.rd.ext E) (hd12.rd.ext E)) rfl (fun _ w7 e6 hv => ?_)
          subst hv
          replace E := E.trans e6; replace h1 := h1.ext e6; replace h2 := h2.ext e6
          have z6 := e6.size
          refine J_st (R_pickT rfl rfl) rfl (J_st (R_move rfl) rfl ?_)
          refine J_if (gd := 31) rfl rfl (fun hg4 => ?_) (fun hg4 => ?_)
          · refine J_gd rfl rfl (R_fieldAddr0 fl72_4 rfl) rfl (J_gd rfl rfl (R_load sc68 rfl (h1.one 4 rfl)) rfl (J_gd rfl rfl (R_fieldAddr0 fl72_4 rfl) rfl (J_gd rfl rfl (R_load sc68 rfl (h2.one 4 rfl)) rfl ?_)))
            refine J_ung rfl rfl ?_
            refine J_call Try.call63 rfl (c_slicesEqual o5 x.sums o13 y.sums _ (hd5.rd.ext E) (hd13.rd.ext E)) rfl (fun _ w8 e7 hv => ?_)
            subst hv
            replace E := E.trans e7; replace h1 := h1.ext e7; replace h2 := h2.ext e7
            have z7 := e7.size
            refine J_st (R_pickT rfl rfl) rfl (J_st (R_move rfl) rfl ?_)
            refine J_if (gd := 38) rfl rfl (fun hg5 => ?_) (fun hg5 => ?_)
            · refine J_gd rfl rfl (R_fieldAddr0 fl72_5 rfl) rfl (J_gd rfl rfl (R_load sc69 rfl (h1.one 5 rfl)) rfl (J_gd rfl rfl (R_fieldAddr0 fl72_5 rfl) rfl (J_gd rfl rfl (R_load sc69 rfl (h2.one 5 rfl)) rfl ?_)))
              refine J_ung rfl rfl ?_
              refine J_call Try.call64 rfl (c_slicesEqualBool o6 x.black o14 y.black _ (hd6.rd.ext E) (hd14.rd.ext E)) rfl (fun _ w9 e8 hv => ?_)
              subst hv
              replace E := E.trans e8; replace h1 := h1.ext e8; replace h2 := h2.ext e8
              have z8 := e8.size
              refine J_st (R_pickT rfl rfl) rfl (J_st (R_move rfl) rfl ?_)
              refine J_if (gd := 45) rfl rfl (fun hg6 => ?_) (fun hg6 => ?_)
              · refine J_gd rfl rfl (R_fieldAddr0 fl72_6 rfl) rfl (J_gd rfl rfl (R_load sc69 rfl (h1.one 6 rfl)) rfl (J_gd rfl rfl (R_fieldAddr0 fl72_6 rfl) rfl (J_gd rfl rfl (R_load sc69 rfl (h2.one 6 rfl)) rfl ?_)))
                refine J_ung rfl rfl ?_
                refine J_call Try.call64 rfl (c_slicesEqualBool o7 x.caps o15 y.caps _ (hd7.rd.ext E) (hd15.rd.ext E)) rfl (fun _ w10 e9 hv => ?_)
                subst hv
                replace E := E.trans e9; replace h1 := h1.ext e9; replace h2 := h2.ext e9
                have z9 := e9.size
                refine J_st (R_pickT rfl rfl) rfl (J_st (R_move rfl) rfl ?_)
                refine J_if (gd := 52) rfl rfl (fun hg7 => ?_) (fun hg7 => ?_)
                · refine J_gd rfl rfl (R_fieldAddr0 fl72_7 rfl) rfl (J_gd rfl rfl (R_load sc70 rfl (h1.one 7 rfl)) rfl (J_gd rfl rfl (R_fieldAddr0 fl72_7 rfl) rfl (J_gd rfl rfl (R_load sc70 rfl (h2.one 7 rfl)) rfl ?_)))
                  refine J_ung rfl rfl ?_
                  refine J_call Try.call65 rfl (c_slicesEqualDone o8 x.dones o16 y.dones _ (hd8.rd.ext E) (hd16.rd.ext E)) rfl (fun _ w11 e10 hv => ?_)
                  subst hv
                  replace E := E.trans e10; replace h1 := h1.ext e10; replace h2 := h2.ext e10
                  have z10 := e10.size
                  refine J_st (R_pickT rfl rfl) rfl (J_cutEnd ⟨rfl, rfl, rfl, rfl, rfl, congrArg (fun b => some (Value.bool b)) (show (decide (x.dones = y.dones)) = ((((((((decide (x.queue = y.queue)) && (decide (x.staged = y.staged))) && (decide (x.inputs = y.inputs))) && (decide (x.cells = y.cells))) && (decide (x.sums = y.sums))) && (decide (x.black = y.black))) && (decide (x.caps = y.caps))) && (decide (x.dones = y.dones))) by first | (rw [hg1, hg2, hg3, hg4, hg5, hg6, hg7] <;> rfl) | (simp [hg1, hg2, hg3, hg4, hg5, hg6, hg7]; done) | (simp only [nat_nlt] <;> simp)), trivial⟩ ⟨E, (by omega), h1, h2⟩)
                · refine J_gdno rfl rfl rfl rfl (J_gdno rfl rfl rfl rfl (J_gdno rfl rfl rfl rfl (J_gdno rfl rfl rfl rfl ?_)))
                  refine J_ungno rfl rfl rfl rfl ?_
                  refine J_st (R_pickF rfl rfl) rfl (J_cutEnd ⟨rfl, rfl, rfl, rfl, rfl, congrArg (fun b => some (Value.bool b)) (show false = ((((((((decide (x.queue = y.queue)) && (decide (x.staged = y.staged))) && (decide (x.inputs = y.inputs))) && (decide (x.cells = y.cells))) && (decide (x.sums = y.sums))) && (decide (x.black = y.black))) && (decide (x.caps = y.caps))) && (decide (x.dones = y.dones))) by first | (rw [hg1, hg2, hg3, hg4, hg5, hg6, hg7] <;> rfl) | (simp [hg1, hg2, hg3, hg4, hg5, hg6, hg7]; done) | (simp only [nat_nlt] <;> simp)), trivial⟩ ⟨E, (by omega), h1, h2⟩)
              · refine J_gdno rfl rfl rfl rfl (J_gdno rfl rfl rfl rfl (J_gdno rfl rfl rfl rfl (J_gdno rfl rfl rfl rfl ?_)))
                refine J_ungno rfl rfl rfl rfl ?_
                refine J_st (R_pickF rfl rfl) rfl (J_st (R_move rfl) rfl (J_gdno rfl rfl rfl rfl (J_gdno rfl rfl rfl rfl (J_gdno rfl rfl rfl rfl (J_gdno rfl rfl rfl rfl ?_)))))
                refine J_ungno rfl rfl rfl rfl ?_
                refine J_st (R_pickF rfl rfl) rfl (J_cutEnd ⟨rfl, rfl, rfl, rfl, rfl, congrArg (fun b => some (Value.bool b)) (show false = ((((((((decide (x.queue = y.queue)) && (decide (x.staged = y.staged))) && (decide (x.inputs = y.inputs))) && (decide (x.cells = y.cells))) && (decide (x.sums = y.sums))) && (decide (x.black = y.black))) && (decide (x.caps = y.caps))) && (decide (x.dones = y.dones))) by first | (rw [hg1, hg2, hg3, hg4, hg5, hg6] <;> rfl) | (simp [hg1, hg2, hg3, hg4, hg5, hg6]; done) | (simp only [nat_nlt] <;> simp)), trivial⟩ ⟨E, (by omega), h1, h2⟩)
            · refine J_gdno rfl rfl rfl rfl (J_gdno rfl rfl rfl rfl (J_gdno rfl rfl rfl rfl (J_gdno rfl rfl rfl rfl ?_)))
              refine J_ungno rfl rfl rfl rfl ?_
              refine J_st (R_pickF rfl rfl) rfl (J_st (R_move rfl) rfl (J_gdno rfl rfl rfl rfl (J_gdno rfl rfl rfl rfl (J_gdno rfl rfl rfl rfl (J_gdno rfl rfl rfl rfl ?_)))))
              refine J_ungno rfl rfl rfl rfl ?_
              refine J_st (R_pickF rfl rfl) rfl (J_st (R_move rfl) rfl (J_gdno rfl rfl rfl rfl (J_gdno rfl rfl rfl rfl (J_gdno rfl rfl rfl rfl (J_gdno rfl rfl rfl rfl ?_)))))
              refine J_ungno rfl rfl rfl rfl ?_
              refine J_st (R_pickF rfl rfl) rfl (J_cutEnd ⟨rfl, rfl, rfl, rfl, rfl, congrArg (fun b => some (Value.bool b)) (show false = ((((((((decide (x.queue = y.queue)) && (decide (x.staged = y.staged))) && (decide (x.inputs = y.inputs))) && (decide (x.cells = y.cells))) && (decide (x.sums = y.sums))) && (decide (x.black = y.black))) && (decide (x.caps = y.caps))) && (decide (x.dones = y.dones))) by first | (rw [hg1, hg2, hg3, hg4, hg5] <;> rfl) | (simp [hg1, hg2, hg3, hg4, hg5]; done) | (simp only [nat_nlt] <;> simp)), trivial⟩ ⟨E, (by omega), h1, h2⟩)
          · refine J_gdno rfl rfl rfl rfl (J_gdno rfl rfl rfl rfl (J_gdno rfl rfl rfl rfl (J_gdno rfl rfl rfl rfl ?_)))
            refine J_ungno rfl rfl rfl rfl ?_
            refine J_st (R_pickF rfl rfl) rfl (J_st (R_move rfl) rfl (J_gdno rfl rfl rfl rfl (J_gdno rfl rfl rfl rfl (J_gdno rfl rfl rfl rfl (J_gdno rfl rfl rfl rfl ?_)))))
            refine J_ungno rfl rfl rfl rfl ?_
            refine J_st (R_pickF rfl rfl) rfl (J_st (R_move rfl) rfl (J_gdno rfl rfl rfl rfl (J_gdno rfl rfl rfl rfl (J_gdno rfl rfl rfl rfl (J_gdno rfl rfl rfl rfl ?_)))))
            refine J_ungno rfl rfl rfl rfl ?_
            refine J_st (R_pickF rfl rfl) rfl (J_st (R_move rfl) rfl (J_gdno rfl rfl rfl rfl (J_gdno rfl rfl rfl rfl (J_gdno rfl rfl rfl rfl (J_gdno rfl rfl rfl rfl ?_)))))
            refine J_ungno rfl rfl rfl rfl ?_
            refine J_st (R_pickF rfl rfl) rfl (J_cutEnd ⟨rfl, rfl, rfl, rfl, rfl, congrArg (fun b => some (Value.bool b)) (show false = ((((((((decide (x.queue = y.queue)) && (decide (x.staged = y.staged))) && (decide (x.inputs = y.inputs))) && (decide (x.cells = y.cells))) && (decide (x.sums = y.sums))) && (decide (x.black = y.black))) && (decide (x.caps = y.caps))) && (decide (x.dones = y.dones))) by first | (rw [hg1, hg2, hg3, hg4] <;> rfl) | (simp [hg1, hg2, hg3, hg4]; done) | (simp only [nat_nlt] <;> simp)), trivial⟩ ⟨E, (by omega), h1, h2⟩)
        · refine J_gdno rfl rfl rfl rfl (J_gdno rfl rfl rfl rfl (J_gdno rfl rfl rfl rfl (J_gdno rfl rfl rfl rfl ?_)))
          refine J_ungno rfl rfl rfl rfl ?_
          refine J_st (R_pickF rfl rfl) rfl (J_st (R_move rfl) rfl (J_gdno rfl rfl rfl rfl (J_gdno rfl rfl rfl rfl (J_gdno rfl rfl rfl rfl (J_gdno rfl rfl rfl rfl ?_)))))
          refine J_ungno rfl rfl rfl rfl ?_
          refine J_st (R_pickF rfl rfl) rfl (J_st (R_move rfl) rfl (J_gdno rfl rfl rfl rfl (J_gdno rfl rfl rfl rfl (J_gdno rfl rfl rfl rfl (J_gdno rfl rfl rfl rfl ?_)))))
          refine J_ungno rfl rfl rfl rfl ?_
          refine J_st (R_pickF rfl rfl) rfl (J_st (R_move rfl) rfl (J_gdno rfl rfl rfl rfl (J_gdno rfl rfl rfl rfl (J_gdno rfl rfl rfl rfl (J_gdno rfl rfl rfl rfl ?_)))))
          refine J_ungno rfl rfl rfl rfl ?_
          refine J_st (R_pickF rfl rfl) rfl (J_st (R_move rfl) rfl (J_gdno rfl rfl rfl rfl (J_gdno rfl rfl rfl rfl (J_gdno rfl rfl rfl rfl (J_gdno rfl rfl rfl rfl ?_)))))
          refine J_ungno rfl rfl rfl rfl ?_
          refine J_st (R_pickF rfl rfl) rfl (J_cutEnd ⟨rfl, rfl, rfl, rfl, rfl, congrArg (fun b => some (Value.bool b)) (show false = ((((((((decide (x.queue = y.queue)) && (decide (x.staged = y.staged))) && (decide (x.inputs = y.inputs))) && (decide (x.cells = y.cells))) && (decide (x.sums = y.sums))) && (decide (x.black = y.black))) && (decide (x.caps = y.caps))) && (decide (x.dones = y.dones))) by first | (rw [hg1, hg2, hg3] <;> rfl) | (simp [hg1, hg2, hg3]; done) | (simp only [nat_nlt] <;> simp)), trivial⟩ ⟨E, (by omega), h1, h2⟩)
      · refine J_gdno rfl rfl rfl rfl (J_gdno rfl rfl rfl rfl (J_gdno rfl rfl rfl rfl (J_gdno rfl rfl rfl rfl ?_)))
        refine J_ungno rfl rfl rfl rfl ?_
        refine J_st (R_pickF rfl rfl) rfl (J_st (R_move rfl) rfl (J_gdno rfl rfl rfl rfl (J_gdno rfl rfl rfl rfl (J_gdno rfl rfl rfl rfl (J_gdno rfl rfl rfl rfl ?_)))))
        refine J_ungno rfl rfl rfl rfl ?_
        refine J_st (R_pickF rfl rfl) rfl (J_st (R_move rfl) rfl (J_gdno rfl rfl rfl rfl (J_gdno rfl rfl rfl rfl (J_gdno rfl rfl rfl rfl (J_gdno rfl rfl rfl rfl ?_)))))
        refine J_ungno rfl rfl rfl rfl ?_
        refine J_st (R_pickF rfl rfl) rfl (J_st (R_move rfl) rfl (J_gdno rfl rfl rfl rfl (J_gdno rfl rfl rfl rfl (J_gdno rfl rfl rfl rfl (J_gdno rfl rfl rfl rfl ?_)))))
        refine J_ungno rfl rfl rfl rfl ?_
        refine J_st (R_pickF rfl rfl) rfl (J_st (R_move rfl) rfl (J_gdno rfl rfl rfl rfl (J_gdno rfl rfl rfl rfl (J_gdno rfl rfl rfl rfl (J_gdno rfl rfl rfl rfl ?_)))))
        refine J_ungno rfl rfl rfl rfl ?_
        refine J_st (R_pickF rfl rfl) rfl (J_st (R_move rfl) rfl (J_gdno rfl rfl rfl rfl (J_gdno rfl rfl rfl rfl (J_gdno rfl rfl rfl rfl (J_gdno rfl rfl rfl rfl ?_)))))
        refine J_ungno rfl rfl rfl rfl ?_
        refine J_st (R_pickF rfl rfl) rfl (J_cutEnd ⟨rfl, rfl, rfl, rfl, rfl, congrArg (fun b => some (Value.bool b)) (show false = ((((((((decide (x.queue = y.queue)) && (decide (x.staged = y.staged))) && (decide (x.inputs = y.inputs))) && (decide (x.cells = y.cells))) && (decide (x.sums = y.sums))) && (decide (x.black = y.black))) && (decide (x.caps = y.caps))) && (decide (x.dones = y.dones))) by first | (rw [hg1, hg2] <;> rfl) | (simp [hg1, hg2]; done) | (simp only [nat_nlt] <;> simp)), trivial⟩ ⟨E, (by omega), h1, h2⟩)
    · refine J_gdno rfl rfl rfl rfl (J_gdno rfl rfl rfl rfl (J_gdno rfl rfl rfl rfl (J_gdno rfl rfl rfl rfl ?_)))
      refine J_ungno rfl rfl rfl rfl ?_
      refine J_st (R_pickF rfl rfl) rfl (J_st (R_move rfl) rfl (J_gdno rfl rfl rfl rfl (J_gdno rfl rfl rfl rfl (J_gdno rfl rfl rfl rfl (J_gdno rfl rfl rfl rfl ?_)))))
      refine J_ungno rfl rfl rfl rfl ?_
      refine J_st (R_pickF rfl rfl) rfl (J_st (R_move rfl) rfl (J_gdno rfl rfl rfl rfl (J_gdno rfl rfl rfl rfl (J_gdno rfl rfl rfl rfl (J_gdno rfl rfl rfl rfl ?_)))))
      refine J_ungno rfl rfl rfl rfl ?_
      refine J_st (R_pickF rfl rfl) rfl (J_st (R_move rfl) rfl (J_gdno rfl rfl rfl rfl (J_gdno rfl rfl rfl rfl (J_gdno rfl rfl rfl rfl (J_gdno rfl rfl rfl rfl ?_)))))
      refine J_ungno rfl rfl rfl rfl ?_
      refine J_st (R_pickF rfl rfl) rfl (J_st (R_move rfl) rfl (J_gdno rfl rfl rfl rfl (J_gdno rfl rfl rfl rfl (J_gdno rfl rfl rfl rfl (J_gdno rfl rfl rfl rfl ?_)))))
      refine J_ungno rfl rfl rfl rfl ?_
      refine J_st (R_pickF rfl rfl) rfl (J_st (R_move rfl) rfl (J_gdno rfl rfl rfl rfl (J_gdno rfl rfl rfl rfl (J_gdno rfl rfl rfl rfl (J_gdno rfl rfl rfl rfl ?_)))))
      refine J_ungno rfl rfl rfl rfl ?_
      refine J_st (R_pickF rfl rfl) rfl (J_st (R_move rfl) rfl (J_gdno rfl rfl rfl rfl (J_gdno rfl rfl rfl rfl (J_gdno rfl rfl rfl rfl (J_gdno rfl rfl rfl rfl ?_)))))
      refine J_ungno rfl rfl rfl rfl ?_
      refine J_st (R_pickF rfl rfl) rfl (J_cutEnd ⟨rfl, rfl, rfl, rfl, rfl, congrArg (fun b => some (Value.bool b)) (show false = ((((((((decide (x.queue = y.queue)) && (decide (x.staged = y.staged))) && (decide (x.inputs = y.inputs))) && (decide (x.cells = y.cells))) && (decide (x.sums = y.sums))) && (decide (x.black = y.black))) && (decide (x.caps = y.caps))) && (decide (x.dones = y.dones))) by first | (rw [hg1] <;> rfl) | (simp [hg1]; done) | (simp only [nat_nlt] <;> simp)), trivial⟩ ⟨E, (by omega), h1, h2⟩)
  clear E h1 h2
  rintro w4 ⟨E, z11, h1, h2⟩
  refine J_st (R_assign rfl) rfl (J_done ?_)
  refine S_ret (E_done1 rfl rfl E ?_)
  refine congrArg Value.bool (Bool.eq_iff_iff.2 ?_); cases x; cases y; simp [and_assoc]

end Go.Proofs.Ytnfbnbdjdokmpaa
