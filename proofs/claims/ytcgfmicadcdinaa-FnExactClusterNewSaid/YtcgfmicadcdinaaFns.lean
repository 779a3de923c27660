/- What the functions that the laws call come to: a contract each; no condition. -/
import Derived.Test.YtcgfmicadcdinaaTypes
namespace Go.Proofs.Ytcgfmicadcdinaa
open Go Go.Proofs.Ytcgfmicadcdinaa.X Go.Proofs
set_option maxRecDepth 20000 in
theorem c_eqCell (x : Cell) (y : Cell) (w : World)  : Ct Try.prog 86 [.agg (Enc.enc x).toArray, .agg (Enc.enc y).toArray] w (fun v _ => v = .bool (decide (x = y))) := by
  refine ct_of Try.func86 rfl Try.ntmps86 rfl ?_
  refine S_sub [(0, .agg (Enc.enc x).toArray), (1, .agg (Enc.enc y).toArray)] ⟨rfl, rfl, trivial⟩ ?_
  have E : Ext w w := Ext.refl w
  refine S_seq ?_
  refine S_reg [false, false, true] rfl rfl ?_
  refine J_box rfl rfl (fun b1 w1 e1 s1 h1 => ?_)
  have g_b1 : w.heap.size ≤ b1 := by have := E.size; omega
  have y_b1 := h1.lt
  replace E := E.trans e1
  have z1 := e1.size
  refine J_box rfl rfl (fun b2 w2 e2 s2 h2 => ?_)
  have g_b2 : w.heap.size ≤ b2 := by have := E.size; omega
  have y_b2 := h2.lt
  replace E := E.trans e2; replace h1 := h1.ext e2
  have z2 := e2.size
  refine J_st (R_assign rfl) rfl (J_done ?_)
  refine S_seq ?_
  refine S_seq ?_
  refine S_reg [true, true, true, true, true] rfl rfl ?_
  refine J_st (R_fieldAddr0 fl119_0 rfl) rfl (J_st (R_load sc3 rfl (h1.one 0 rfl)) rfl (J_st (R_fieldAddr0 fl119_0 rfl) rfl (J_st (R_load sc3 rfl (h2.one 0 rfl)) rfl (J_st (R_neq rfl rfl) rfl (J_done ?_)))))
  refine S_cond rfl (fun hc1 => ?_) (fun hc1 => ?_)
  · refine S_seq ?_
    refine S_reg [true] rfl rfl ?_
    refine J_st (R_assign rfl) rfl (J_done ?_)
    refine S_ret (E_done1 rfl rfl E ?_)
    cases x; cases y; simp_all
  · refine S_skip ?_
    refine S_seq ?_
    refine S_seq ?_
    refine S_reg [true, true, true, true, true] rfl rfl ?_
    refine J_st (R_fieldAddr0 fl119_1 rfl) rfl (J_st (R_load sc3 rfl (h1.one 1 rfl)) rfl (J_st (R_fieldAddr0 fl119_1 rfl) rfl (J_st (R_load sc3 rfl (h2.one 1 rfl)) rfl (J_st (R_neq rfl rfl) rfl (J_done ?_)))))
    refine S_cond rfl (fun hc2 => ?_) (fun hc2 => ?_)
    · refine S_seq ?_
      refine S_reg [true] rfl rfl ?_
      refine J_st (R_assign rfl) rfl (J_done ?_)
      refine S_ret (E_done1 rfl rfl E ?_)
      cases x; cases y; simp_all
    · refine S_skip ?_
      refine S_seq ?_
      refine S_seq ?_
      refine S_reg [true, true, true, true, true] rfl rfl ?_
      refine J_st (R_fieldAddr0 fl119_2 rfl) rfl (J_st (R_load sc3 rfl (h1.one 2 rfl)) rfl (J_st (R_fieldAddr0 fl119_2 rfl) rfl (J_st (R_load sc3 rfl (h2.one 2 rfl)) rfl (J_st (R_neq rfl rfl) rfl (J_done ?_)))))
      refine S_cond rfl (fun hc3 => ?_) (fun hc3 => ?_)
      · refine S_seq ?_
        refine S_reg [true] rfl rfl ?_
        refine J_st (R_assign rfl) rfl (J_done ?_)
        refine S_ret (E_done1 rfl rfl E ?_)
        cases x; cases y; simp_all
      · refine S_skip ?_
        refine S_seq ?_
        refine S_seq ?_
        refine S_reg [true, true, true, true, true] rfl rfl ?_
        refine J_st (R_fieldAddr0 fl119_3 rfl) rfl (J_st (R_load sc3 rfl (h1.one 3 rfl)) rfl (J_st (R_fieldAddr0 fl119_3 rfl) rfl (J_st (R_load sc3 rfl (h2.one 3 rfl)) rfl (J_st (R_neq rfl rfl) rfl (J_done ?_)))))
        refine S_cond rfl (fun hc4 => ?_) (fun hc4 => ?_)
        · refine S_seq ?_
          refine S_reg [true] rfl rfl ?_
          refine J_st (R_assign rfl) rfl (J_done ?_)
          refine S_ret (E_done1 rfl rfl E ?_)
          cases x; cases y; simp_all
        · refine S_skip ?_
          refine S_seq ?_
          refine S_reg [true] rfl rfl ?_
          refine J_st (R_assign rfl) rfl (J_done ?_)
          refine S_ret (E_done1 rfl rfl E ?_)
          cases x; cases y; simp_all

set_option maxRecDepth 20000 in
theorem c_eqCellS (vxs : Value) (xs : List Cell) (vys : Value) (ys : List Cell) (w : World) (hxs : RdS w vxs xs) (hys : RdS w vys ys) : Ct Try.prog 82 [vxs, vys] w (fun v _ => v = .bool (decide (xs = ys))) := by
  refine ct_of Try.func82 rfl Try.ntmps82 rfl ?_
  refine S_sub [(0, vxs), (1, vys)] ⟨rfl, rfl, trivial⟩ ?_
  have E : Ext w w := Ext.refl w
  refine S_seq ?_
  refine S_reg [true] rfl rfl ?_
  refine J_st (R_assign rfl) rfl (J_done ?_)
  refine S_seq ?_
  refine S_seq ?_
  refine S_reg [true, true, true, true, true] rfl rfl ?_
  refine J_st (R_move rfl) rfl (J_st (R_len Try.underlying57 rfl (hxs.ext E).len) rfl (J_st (R_move rfl) rfl (J_st (R_len Try.underlying57 rfl (hys.ext E).len) rfl (J_st (R_neq rfl rfl) rfl (J_done ?_)))))
  refine S_cond rfl (fun hc1 => ?_) (fun hc1 => ?_)
  · have hc1n : ¬ xs.length = ys.length := by first | (have h := of_decide_eq_true hc1; omega) | (have h := hc1; simp at h; omega)
    refine S_seq ?_
    refine S_reg [true] rfl rfl ?_
    refine J_st (R_assign rfl) rfl (J_done ?_)
    refine S_ret (E_done1 rfl rfl E ?_)
    simp [eq_len hc1n]
  · have hc1n : xs.length = ys.length := by first | (have h := of_decide_eq_false hc1; omega) | (have h := hc1; simp at h; omega)
    refine S_skip ?_
    refine S_seq ?_
    refine S_seq ?_
    refine S_reg [true] rfl rfl ?_
    refine J_st (R_assign rfl) rfl (J_done ?_)
    refine S_block ?_
    refine S_loop (fun (k : Nat) => [(0, vxs), (1, vys), (4, .bool false), (5, .int .i64 ((k : Nat) : Int))]) (fun (k : Nat) w' => Ext w w' ∧ w.heap.size ≤ w'.heap.size ∧ k ≤ xs.length ∧ xs.take k = ys.take k) (fun (k : Nat) => xs.length - k) 0 ⟨rfl, rfl, rfl, rfl, trivial⟩ ⟨E, Nat.le_refl _, Nat.zero_le _, rfl⟩ ?_
    clear E
    rintro k w1 ⟨E, z1, hk, hp⟩
    refine S_seq ?_
    refine S_seq ?_
    refine S_reg [true, true, true, true] rfl rfl ?_
    refine J_st (R_move rfl) rfl (J_st (R_move rfl) rfl (J_st (R_len Try.underlying57 rfl (hxs.ext E).len) rfl (J_st (R_lss rfl rfl) rfl (J_done ?_))))
    refine S_cond rfl (fun hc2 => ?_) (fun hc2 => ?_)
    · have hc2n : k < xs.length := by first | (have h := of_decide_eq_true hc2; omega) | (have h := hc2; simp at h; omega)
      refine S_skip ?_
      refine S_seq ?_
      refine S_block ?_
      refine S_seq ?_
      refine S_regD mixed [(0, true), (1, true), (2, true), (3, true), (4, true), (5, true), (6, true), (7, true), (8, false), (9, true)] (by decide +kernel) rfl (fun w2 e1 => ?_)
      replace E := E.trans e1
      have z2 := e1.size
      refine J_st (R_move rfl) rfl (J_st (R_move rfl) rfl ?_)
      have hi1 : k < xs.length := (by first | assumption | omega | (simp only [List.length_set]; first | assumption | omega) | (simp only [List.getElem_set_self, List.length_set]; first | assumption | omega) | (simp only [setW, setLk, List.length_set]; first | assumption | omega))
      refine J_st (R_index (i := k) sl57 rfl rfl (hxs.ext E) hi1) rfl (J_st (R_loadS st119 rfl ((hxs.ext E).get hi1) rfl) rfl (J_st (R_move rfl) rfl (J_st (R_move rfl) rfl ?_)))
      have hi2 : k < ys.length := (by first | assumption | omega | (simp only [List.length_set]; first | assumption | omega) | (simp only [List.getElem_set_self, List.length_set]; first | assumption | omega) | (simp only [setW, setLk, List.length_set]; first | assumption | omega))
      refine J_st (R_index (i := k) sl57 rfl rfl (hys.ext E) hi2) rfl (J_st (R_loadS st119 rfl ((hys.ext E).get hi2) rfl) rfl ?_)
      refine J_call Try.call86 rfl (c_eqCell (xs[k]'hi1) (ys[k]'hi2) _ ) rfl (fun _ w3 e2 hv => ?_)
      subst hv
      replace E := E.trans e2
      have z3 := e2.size
      refine J_st (R_not rfl) rfl (J_done ?_)
      refine S_cond rfl (fun hc3 => ?_) (fun hc3 => ?_)
      · refine S_seq ?_
        refine S_reg [true] rfl rfl ?_
        refine J_st (R_assign rfl) rfl (J_done ?_)
        refine S_ret (E_inB_ret (E_lp_ret (E_inB_ret (E_done1 rfl rfl E ?_))))
        exact eqS_no (by omega) (by omega) (by simpa using hc3)
      · refine S_skip ?_
        refine S_nil (E_inB ?_)
        refine S_reg [true, true, true] rfl rfl ?_
        refine J_st (R_move rfl) rfl (J_st (R_add rfl rfl (add_one hc2n hxs.1)) rfl (J_st (R_assign rfl) rfl (J_done ?_)))
        refine S_nil (E_again (k + 1) (by omega) ⟨rfl, rfl, rfl, rfl, trivial⟩ ⟨E, (by omega), (by omega), eqS_step hp (by assumption) (by omega) (by simpa using hc3)⟩)
    · have hc2n : ¬ k < xs.length := by first | (have h := of_decide_eq_false hc2; omega) | (have h := hc2; simp at h; omega)
      refine S_exit (E_lp_exit (E_inB_exit ?_))
      refine S_seq ?_
      refine S_reg [true] rfl rfl ?_
      refine J_st (R_assign rfl) rfl (J_done ?_)
      refine S_ret (E_done1 rfl rfl E ?_)
      exact eqS_yes hp hc1n (by omega)

set_option maxRecDepth 20000 in
theorem markCellS (vxs : Value) (lo hi : Nat) (xs : List Cell) (k : Nat) (w : World) (hxs : Own w lo hi 4 vxs (List.flatMap (Enc.enc (α := Cell)) xs)) (hb : k + xs.length * 4 ≤ 1099511627776) : CtR Try.prog 71 [vxs, .int .i64 ((k : Nat) : Int)] w lo hi (fun v w' => v = .int .i64 ((k + 4 * xs.length : Nat) : Int) ∧ Own w' lo hi 4 vxs (List.flatMap (Enc.enc (α := Cell)) (mkL 4 mkCell k xs.length))) := by
  refine ctR_of Try.func71 rfl Try.ntmps71 rfl ?_
  refine S_sub [(0, vxs), (1, .int .i64 ((k : Nat) : Int))] ⟨rfl, rfl, trivial⟩ ?_
  have E : ModR w w lo hi := ModR.refl w lo hi
  refine S_seq ?_
  refine S_reg [true] rfl rfl ?_
  refine J_st (R_assign rfl) rfl (J_done ?_)
  refine S_seq ?_
  refine S_seq ?_
  refine S_reg [true] rfl rfl ?_
  refine J_st (R_assign rfl) rfl (J_done ?_)
  refine S_block ?_
  refine S_loop (fun (xq : Nat × Nat × List Cell) => let ⟨i, q, bs⟩ := xq; [(0, vxs), (1, .int .i64 ((q : Nat) : Int)), (4, .int .i64 0), (5, .int .i64 ((i : Nat) : Int))]) (fun (xq : Nat × Nat × List Cell) w' => let ⟨i, q, bs⟩ := xq; ModR w w' lo hi ∧ w.heap.size ≤ w'.heap.size ∧ i + bs.length = xs.length ∧ q = k + 4 * i ∧ Own w' lo hi 4 vxs (List.flatMap (Enc.enc (α := Cell)) (mkL 4 mkCell k i ++ bs))) (fun (xq : Nat × Nat × List Cell) => let ⟨i, q, bs⟩ := xq; xs.length - i) (0, k, xs) ⟨rfl, rfl, rfl, rfl, trivial⟩ ⟨E, Nat.le_refl _, (by simp), (by simp), (by simpa [mkL] using hxs)⟩ ?_
  clear E hxs
  rintro ⟨i, q, bs⟩ w1 ⟨E, z1, hi, hq, hxs⟩
  refine S_sub [(0, vxs), (1, .int .i64 ((q : Nat) : Int)), (4, .int .i64 0), (5, .int .i64 ((i : Nat) : Int))] ⟨rfl, rfl, rfl, rfl, trivial⟩ ?_
  refine S_seq ?_
  refine S_seq ?_
  refine S_reg [true, true, true, true] rfl rfl ?_
  refine J_st (R_move rfl) rfl (J_st (R_move rfl) rfl (J_st (R_len Try.underlying57 rfl (Own.lenE (by decide) hxs (by simp only [List.length_append, mkL_length, List.length_cons]; omega))) rfl (J_st (R_lss rfl rfl) rfl (J_done ?_))))
  refine S_cond rfl (fun hc1 => ?_) (fun hc1 => ?_)
  · rcases bs with _ | ⟨x, bs⟩
    · exact absurd hi (by have h := hc1; simp at h ⊢; omega)
    simp only [List.length_cons] at hi
    have hc1n : i < xs.length := by first | (have h := of_decide_eq_true hc1; omega) | (have h := hc1; simp at h; omega)
    refine S_skip ?_
    refine S_seq ?_
    refine S_block ?_
    refine S_seq ?_
    refine S_reg [true, true, true, true, true, false] rfl rfl ?_
    refine J_st (R_move rfl) rfl (J_st (R_move rfl) rfl (J_st (R_move rfl) rfl (J_st (R_index sl57 rfl rfl (Own.rd (by decide) hxs) (by simp only [List.length_append, mkL_length, List.length_cons]; omega)) rfl (J_st (R_fieldAddr fl119_0 rfl) rfl ?_))))
    refine J_storeOwn (α := Cell) (i := i) (f := 0) (⟨((q : Nat) : Int), x.epoch, x.key, x.val⟩ : Cell) sc3 rfl rfl rfl rfl hxs (mkL_length _ _ _ _) (by decide) rfl (fun w2 m1 hxs' => ?_)
    have hq := hxs.blk
    replace hxs := hxs'
    replace E := E.mod m1 (fun g hg => by have := hq g hg; omega)
    have z2 := m1.size
    clear hq
    refine J_done ?_
    refine S_seq ?_
    refine S_reg [true, true, true] rfl rfl ?_
    refine J_st (R_move rfl) rfl (J_st (R_add rfl rfl (add_nat (by unfold maxLen; omega))) rfl (J_st (R_assign rfl) rfl (J_done ?_)))
    refine S_seq ?_
    refine S_reg [true, true, true, true, true, false] rfl rfl ?_
    refine J_st (R_move rfl) rfl (J_st (R_move rfl) rfl (J_st (R_move rfl) rfl (J_st (R_index sl57 rfl rfl (Own.rd (by decide) hxs) (by simp only [List.length_append, mkL_length, List.length_cons]; omega)) rfl (J_st (R_fieldAddr fl119_1 rfl) rfl ?_))))
    refine J_storeOwn (α := Cell) (i := i) (f := 1) (⟨((q : Nat) : Int), ((q + 1 : Nat) : Int), x.key, x.val⟩ : Cell) sc3 rfl rfl rfl rfl hxs (mkL_length _ _ _ _) (by decide) rfl (fun w3 m2 hxs' => ?_)
    have hq := hxs.blk
    replace hxs := hxs'
    replace E := E.mod m2 (fun g hg => by have := hq g hg; omega)
    have z3 := m2.size
    clear hq
    refine J_done ?_
    refine S_seq ?_
    refine S_reg [true, true, true] rfl rfl ?_
    refine J_st (R_move rfl) rfl (J_st (R_add rfl rfl (add_nat (by unfold maxLen; omega))) rfl (J_st (R_assign rfl) rfl (J_done ?_)))
    refine S_seq ?_
    refine S_reg [true, true, true, true, true, false] rfl rfl ?_
    refine J_st (R_move rfl) rfl (J_st (R_move rfl) rfl (J_st (R_move rfl) rfl (J_st (R_index sl57 rfl rfl (Own.rd (by decide) hxs) (by simp only [List.length_append, mkL_length, List.length_cons]; omega)) rfl (J_st (R_fieldAddr fl119_2 rfl) rfl ?_))))
    refine J_storeOwn (α := Cell) (i := i) (f := 2) (⟨((q : Nat) : Int), ((q + 1 : Nat) : Int), ((q + 1 + 1 : Nat) : Int), x.val⟩ : Cell) sc3 rfl rfl rfl rfl hxs (mkL_length _ _ _ _) (by decide) rfl (fun w4 m3 hxs' => ?_)
    have hq := hxs.blk
    replace hxs := hxs'
    replace E := E.mod m3 (fun g hg => by have := hq g hg; omega)
    have z4 := m3.size
    clear hq
    refine J_done ?_
    refine S_seq ?_
    refine S_reg [true, true, true] rfl rfl ?_
    refine J_st (R_move rfl) rfl (J_st (R_add rfl rfl (add_nat (by unfold maxLen; omega))) rfl (J_st (R_assign rfl) rfl (J_done ?_)))
    refine S_seq ?_
    refine S_reg [true, true, true, true, true, false] rfl rfl ?_
    refine J_st (R_move rfl) rfl (J_st (R_move rfl) rfl (J_st (R_move rfl) rfl (J_st (R_index sl57 rfl rfl (Own.rd (by decide) hxs) (by simp only [List.length_append, mkL_length, List.length_cons]; omega)) rfl (J_st (R_fieldAddr fl119_3 rfl) rfl ?_))))
    refine J_storeOwn (α := Cell) (i := i) (f := 3) (⟨((q : Nat) : Int), ((q + 1 : Nat) : Int), ((q + 1 + 1 : Nat) : Int), ((q + 1 + 1 + 1 : Nat) : Int)⟩ : Cell) sc3 rfl rfl rfl rfl hxs (mkL_length _ _ _ _) (by decide) rfl (fun w5 m4 hxs' => ?_)
    have hq := hxs.blk
    replace hxs := hxs'
    replace E := E.mod m4 (fun g hg => by have := hq g hg; omega)
    have z5 := m4.size
    clear hq
    refine J_done ?_
    refine S_reg [true, true, true] rfl rfl ?_
    refine J_st (R_move rfl) rfl (J_st (R_add rfl rfl (add_nat (by unfold maxLen; omega))) rfl (J_st (R_assign rfl) rfl (J_done ?_)))
    refine S_nil (E_inB ?_)
    refine S_reg [true, true, true] rfl rfl ?_
    refine J_st (R_move rfl) rfl (J_st (R_add rfl rfl (add_nat (by unfold maxLen; omega))) rfl (J_st (R_assign rfl) rfl (J_done ?_)))
    refine S_nil (E_again (i + 1, q + 1 + 1 + 1 + 1, bs) (by simp; omega) ⟨rfl, rfl, rfl, rfl, trivial⟩ ⟨E, (by omega), (by omega), (by omega), (by subst hq; rw [← mkL_succ]; exact hxs)⟩)
  · have hc1n : ¬ i < xs.length := by first | (have h := of_decide_eq_false hc1; omega) | (have h := hc1; simp at h; omega)
    refine S_exit (E_lp_exit (E_inB_exit ?_))
    refine S_seq ?_
    refine S_reg [true, true] rfl rfl ?_
    refine J_st (R_move rfl) rfl (J_st (R_assign rfl) rfl (J_done ?_))
    refine S_ret (E_done1 rfl rfl E ?_)
    exact ⟨by subst hq; rw [show i = xs.length from by omega], by obtain rfl : bs = [] := List.eq_nil_of_length_eq_zero (by omega); rw [show xs.length = i from by simp at hi; omega]; simpa using hxs⟩

set_option maxRecDepth 20000 in
theorem heldCellS (vxs : Value) (xs : List Cell) (k : Nat) (w : World) (hxs : RdS w vxs xs) (hm : xs = mkL 4 mkCell k xs.length) (hb : k + xs.length * 4 ≤ 1099511627776) : Ct Try.prog 76 [vxs, .int .i64 ((k : Nat) : Int)] w (fun v _ => v = .int .i64 ((k + 4 * xs.length : Nat) : Int)) := by
  refine ct_of Try.func76 rfl Try.ntmps76 rfl ?_
  refine S_sub [(0, vxs), (1, .int .i64 ((k : Nat) : Int))] ⟨rfl, rfl, trivial⟩ ?_
  have E : Ext w w := Ext.refl w
  refine S_seq ?_
  refine S_reg [true] rfl rfl ?_
  refine J_st (R_assign rfl) rfl (J_done ?_)
  refine S_seq ?_
  refine S_seq ?_
  refine S_reg [true] rfl rfl ?_
  refine J_st (R_assign rfl) rfl (J_done ?_)
  refine S_block ?_
  refine S_loop (fun (xq : Nat × Nat) => let ⟨i, q⟩ := xq; [(0, vxs), (1, .int .i64 ((q : Nat) : Int)), (4, .int .i64 0), (5, .int .i64 ((i : Nat) : Int))]) (fun (xq : Nat × Nat) w' => let ⟨i, q⟩ := xq; Ext w w' ∧ w.heap.size ≤ w'.heap.size ∧ i ≤ xs.length ∧ q = k + 4 * i) (fun (xq : Nat × Nat) => let ⟨i, q⟩ := xq; xs.length - i) (0, k) ⟨rfl, rfl, rfl, rfl, trivial⟩ ⟨E, Nat.le_refl _, Nat.zero_le _, (by simp)⟩ ?_
  clear E
  rintro ⟨i, q⟩ w1 ⟨E, z1, hi, hq⟩
  refine S_sub [(0, vxs), (1, .int .i64 ((q : Nat) : Int)), (4, .int .i64 0), (5, .int .i64 ((i : Nat) : Int))] ⟨rfl, rfl, rfl, rfl, trivial⟩ ?_
  refine S_seq ?_
  refine S_seq ?_
  refine S_reg [true, true, true, true] rfl rfl ?_
  refine J_st (R_move rfl) rfl (J_st (R_move rfl) rfl (J_st (R_len Try.underlying57 rfl (hxs.ext E).len) rfl (J_st (R_lss rfl rfl) rfl (J_done ?_))))
  refine S_cond rfl (fun hc1 => ?_) (fun hc1 => ?_)
  · have hc1n : i < xs.length := by first | (have h := of_decide_eq_true hc1; omega) | (have h := hc1; simp at h; omega)
    refine S_skip ?_
    refine S_seq ?_
    refine S_block ?_
    refine S_seq ?_
    refine S_seq ?_
    refine S_reg [true, true, true, true, true, true, true] rfl rfl ?_
    refine J_st (R_move rfl) rfl (J_st (R_move rfl) rfl ?_)
    have hi1 : i < xs.length := (by first | assumption | omega | (simp only [List.length_set]; first | assumption | omega) | (simp only [List.getElem_set_self, List.length_set]; first | assumption | omega) | (simp only [setW, setLk, List.length_set]; first | assumption | omega))
    refine J_st (R_index (i := i) sl57 rfl rfl (hxs.ext E) hi1) rfl (J_st (R_fieldAddr fl119_0 rfl) rfl (J_st (R_load sc3 rfl (((hxs.ext E).get hi1).one 0 rfl)) rfl (J_st (R_move rfl) rfl (J_st (R_neq rfl rfl) rfl (J_done ?_)))))
    refine S_condFe rfl (by subst hq; rw [mkL_at hm (by omega)]; simp [mkCell]) ?_
    refine S_skip ?_
    refine S_seq ?_
    refine S_reg [true, true, true] rfl rfl ?_
    refine J_st (R_move rfl) rfl (J_st (R_add rfl rfl (add_nat (by unfold maxLen; omega))) rfl (J_st (R_assign rfl) rfl (J_done ?_)))
    refine S_seq ?_
    refine S_seq ?_
    refine S_reg [true, true, true, true, true, true, true] rfl rfl ?_
    refine J_st (R_move rfl) rfl (J_st (R_move rfl) rfl (J_st (R_index (i := i) sl57 rfl rfl (hxs.ext E) hi1) rfl (J_st (R_fieldAddr fl119_1 rfl) rfl (J_st (R_load sc3 rfl (((hxs.ext E).get hi1).one 1 rfl)) rfl (J_st (R_move rfl) rfl (J_st (R_neq rfl rfl) rfl (J_done ?_)))))))
    refine S_condFe rfl (by subst hq; rw [mkL_at hm (by omega)]; simp [mkCell]) ?_
    refine S_skip ?_
    refine S_seq ?_
    refine S_reg [true, true, true] rfl rfl ?_
    refine J_st (R_move rfl) rfl (J_st (R_add rfl rfl (add_nat (by unfold maxLen; omega))) rfl (J_st (R_assign rfl) rfl (J_done ?_)))
    refine S_seq ?_
    refine S_seq ?_
    refine S_reg [true, true, true, true, true, true, true] rfl rfl ?_
    refine J_st (R_move rfl) rfl (J_st (R_move rfl) rfl (J_st (R_index (i := i) sl57 rfl rfl (hxs.ext E) hi1) rfl (J_st (R_fieldAddr fl119_2 rfl) rfl (J_st (R_load sc3 rfl (((hxs.ext E).get hi1).one 2 rfl)) rfl (J_st (R_move rfl) rfl (J_st (R_neq rfl rfl) rfl (J_done ?_)))))))
    refine S_condFe rfl (by subst hq; rw [mkL_at hm (by omega)]; simp [mkCell]) ?_
    refine S_skip ?_
    refine S_seq ?_
    refine S_reg [true, true, true] rfl rfl ?_
    refine J_st (R_move rfl) rfl (J_st (R_add rfl rfl (add_nat (by unfold maxLen; omega))) rfl (J_st (R_assign rfl) rfl (J_done ?_)))
    refine S_seq ?_
    refine S_seq ?_
    refine S_reg [true, true, true, true, true, true, true] rfl rfl ?_
    refine J_st (R_move rfl) rfl (J_st (R_move rfl) rfl (J_st (R_index (i := i) sl57 rfl rfl (hxs.ext E) hi1) rfl (J_st (R_fieldAddr fl119_3 rfl) rfl (J_st (R_load sc3 rfl (((hxs.ext E).get hi1).one 3 rfl)) rfl (J_st (R_move rfl) rfl (J_st (R_neq rfl rfl) rfl (J_done ?_)))))))
    refine S_condFe rfl (by subst hq; rw [mkL_at hm (by omega)]; simp [mkCell]) ?_
    refine S_skip ?_
    refine S_reg [true, true, true] rfl rfl ?_
    refine J_st (R_move rfl) rfl (J_st (R_add rfl rfl (add_nat (by unfold maxLen; omega))) rfl (J_st (R_assign rfl) rfl (J_done ?_)))
    refine S_nil (E_inB ?_)
    refine S_reg [true, true, true] rfl rfl ?_
    refine J_st (R_move rfl) rfl (J_st (R_add rfl rfl (add_nat (by unfold maxLen; omega))) rfl (J_st (R_assign rfl) rfl (J_done ?_)))
    refine S_nil (E_again (i + 1, q + 1 + 1 + 1 + 1) (by simp; omega) ⟨rfl, rfl, rfl, rfl, trivial⟩ ⟨E, (by omega), (by omega), (by omega)⟩)
  · have hc1n : ¬ i < xs.length := by first | (have h := of_decide_eq_false hc1; omega) | (have h := hc1; simp at h; omega)
    refine S_exit (E_lp_exit (E_inB_exit ?_))
    refine S_seq ?_
    refine S_reg [true, true] rfl rfl ?_
    refine J_st (R_move rfl) rfl (J_st (R_assign rfl) rfl (J_done ?_))
    refine S_ret (E_done1 rfl rfl E ?_)
    subst hq; rw [show i = xs.length from by omega]

set_option maxRecDepth 20000 in
theorem c_szIntS (vxs : Value) (xs : List Int) (n : Int) (w : World) (hxs : RdS w vxs xs) (h0 : 0 ≤ n ∧ n ≤ 1048576) : Ct Try.prog 80 [vxs, .int .i64 n] w (fun v _ => v = .int .i64 (szM xs.length n)) := by
  refine ct_of Try.func80 rfl Try.ntmps80 rfl ?_
  refine S_sub [(0, vxs), (1, .int .i64 n)] ⟨rfl, rfl, trivial⟩ ?_
  have E : Ext w w := Ext.refl w
  refine S_seq ?_
  refine S_reg [true] rfl rfl ?_
  refine J_st (R_assign rfl) rfl (J_done ?_)
  refine S_seq ?_
  refine S_reg [true, true, true, true, true] rfl rfl ?_
  refine J_st (R_move rfl) rfl (J_st (R_move rfl) rfl (J_st (R_len Try.underlying58 rfl (hxs.ext E).len) rfl (J_st (R_sub rfl rfl rfl) rfl (J_st (R_assign rfl) rfl (J_done ?_)))))
  refine S_seq ?_
  refine S_seq ?_
  refine S_reg [true, true] rfl rfl ?_
  refine J_st (R_move rfl) rfl (J_st (R_lss rfl rfl) rfl (J_done ?_))
  refine S_cond rfl (fun hc1 => ?_) (fun hc1 => ?_)
  · refine S_seq ?_
    refine S_reg [true] rfl rfl ?_
    refine J_st (R_assign rfl) rfl (J_done ?_)
    refine S_ret (E_done1 rfl rfl E ?_)
    exact sz_no h0.2 h0.1 hxs.1 hc1
  · refine S_skip ?_
    refine S_seq ?_
    refine S_reg [true, true] rfl rfl ?_
    refine J_st (R_move rfl) rfl (J_st (R_assign rfl) rfl (J_done ?_))
    refine S_ret (E_done1 rfl rfl E ?_)
    exact sz_yes h0.2 h0.1 hxs.1 hc1

set_option maxRecDepth 20000 in
theorem c_toIntS (vxs : Value) (xs : List Int) (w : World) (hxs : RdS w vxs xs) (hb : xs.length ≤ 1048576) : Ct Try.prog 81 [vxs] w (fun v w' => Own w' w.heap.size w'.heap.size 1 v (List.flatMap (Enc.enc (α := Int)) xs)) := by
  refine ct_of Try.func81 rfl Try.ntmps81 rfl ?_
  refine S_sub [(0, vxs)] ⟨rfl, trivial⟩ ?_
  have E : Ext w w := Ext.refl w
  refine S_seq ?_
  refine S_reg [true] rfl rfl ?_
  refine J_st (R_assign rfl) rfl (J_done ?_)
  refine S_seq ?_
  refine S_reg [true, true, false, true] rfl rfl ?_
  refine J_st (R_move rfl) rfl (J_st (R_len Try.underlying58 rfl (hxs.ext E).len) rfl ?_)
  refine J_make (m := xs.length) sl58 rfl rfl (by omega) (by decide) rfl (fun b1 w1 e1 s1 h1 => ?_)
  have g_b1 : w.heap.size ≤ b1 := by have := E.size; omega
  have y_b1 := h1.lt
  replace E := E.trans e1
  have z1 := e1.size
  refine J_st (R_assign rfl) rfl (J_done ?_)
  refine S_seq ?_
  refine S_seq ?_
  refine S_reg [true] rfl rfl ?_
  refine J_st (R_assign rfl) rfl (J_done ?_)
  refine S_block ?_
  refine S_loop (fun (k : Nat) => [(0, vxs), (2, .slice none 0 0), (3, .slice (some ⟨b1, 0, none⟩) xs.length xs.length), (4, .int .i64 ((k : Nat) : Int))]) (fun (k : Nat) w' => Ext w w' ∧ w1.heap.size ≤ w'.heap.size ∧ k ≤ xs.length ∧ Blk w' b1 (mk xs [.int .i64 0] k xs.length)) (fun (k : Nat) => xs.length - k) 0 ⟨rfl, rfl, rfl, rfl, trivial⟩ ⟨E, Nat.le_refl _, Nat.zero_le _, (mk_zero xs [.int .i64 0] xs.length) ▸ h1⟩ ?_
  clear E h1
  rintro k w2 ⟨E, z2, hk, h1⟩
  refine S_seq ?_
  refine S_seq ?_
  refine S_reg [true, true, true, true] rfl rfl ?_
  refine J_st (R_move rfl) rfl (J_st (R_move rfl) rfl (J_st (R_len Try.underlying58 rfl (hxs.ext E).len) rfl (J_st (R_lss rfl rfl) rfl (J_done ?_))))
  refine S_cond rfl (fun hc1 => ?_) (fun hc1 => ?_)
  · have hc1n : k < xs.length := by first | (have h := of_decide_eq_true hc1; omega) | (have h := hc1; simp at h; omega)
    refine S_skip ?_
    refine S_seq ?_
    refine S_block ?_
    refine S_reg [true, true, true, true, true, true, true, false] rfl rfl ?_
    refine J_st (R_move rfl) rfl (J_st (R_move rfl) rfl (J_st (R_move rfl) rfl (J_st (R_move rfl) rfl ?_)))
    have hi1 : k < xs.length := (by first | assumption | omega | (simp only [List.length_set]; first | assumption | omega) | (simp only [List.getElem_set_self, List.length_set]; first | assumption | omega) | (simp only [setW, setLk, List.length_set]; first | assumption | omega))
    refine J_st (R_index (i := k) sl58 rfl rfl (hxs.ext E) hi1) rfl (J_st (R_load sc3 rfl (((hxs.ext E).get hi1).one 0 rfl)) rfl (J_st (R_indexB sl58 rfl rfl (by first | assumption | omega | (simp only [List.length_set]; first | assumption | omega) | (simp only [List.getElem_set_self, List.length_set]; first | assumption | omega) | (simp only [setW, setLk, List.length_set]; first | assumption | omega))) rfl ?_))
    refine J_store' (cs' := mk xs [.int .i64 0] (k + 1) xs.length) sc3 rfl rfl rfl h1 (mk_room xs [.int .i64 0] rfl hc1n hc1n (by rfl)) (mk_step xs [.int .i64 0] rfl hc1n hc1n) (fun w3 m1 h1' => ?_)
    replace h1 := h1'
    replace E := E.step m1 (fun g hg => by cases hg; omega)
    have z3 := m1.size
    refine J_done ?_
    refine S_nil (E_inB ?_)
    refine S_reg [true, true, true] rfl rfl ?_
    refine J_st (R_move rfl) rfl (J_st (R_add rfl rfl (add_one hc1n hxs.1)) rfl (J_st (R_assign rfl) rfl (J_done ?_)))
    refine S_nil (E_again (k + 1) (by omega) ⟨rfl, rfl, rfl, rfl, trivial⟩ ⟨E, (by omega), (by omega), h1⟩)
  · have hc1n : ¬ k < xs.length := by first | (have h := of_decide_eq_false hc1; omega) | (have h := hc1; simp at h; omega)
    refine S_exit (E_lp_exit (E_inB_exit ?_))
    refine S_seq ?_
    refine S_reg [true, true] rfl rfl ?_
    refine J_st (R_move rfl) rfl (J_st (R_assign rfl) rfl (J_done ?_))
    refine S_ret (E_done1 rfl rfl E ?_)
    obtain rfl : k = xs.length := by omega
    rw [mk_all] at h1
    exact Own.ofBlk h1 (by omega) (by have := h1.lt; omega) (sum_flat xs) hxs.1

set_option maxRecDepth 20000 in
theorem c_eqIntS (vxs : Value) (xs : List Int) (vys : Value) (ys : List Int) (w : World) (hxs : RdS w vxs xs) (hys : RdS w vys ys) : Ct Try.prog 83 [vxs, vys] w (fun v _ => v = .bool (decide (xs = ys))) := by
  refine ct_of Try.func83 rfl Try.ntmps83 rfl ?_
  refine S_sub [(0, vxs), (1, vys)] ⟨rfl, rfl, trivial⟩ ?_
  have E : Ext w w := Ext.refl w
  refine S_seq ?_
  refine S_reg [true] rfl rfl ?_
  refine J_st (R_assign rfl) rfl (J_done ?_)
  refine S_seq ?_
  refine S_seq ?_
  refine S_reg [true, true, true, true, true] rfl rfl ?_
  refine J_st (R_move rfl) rfl (J_st (R_len Try.underlying58 rfl (hxs.ext E).len) rfl (J_st (R_move rfl) rfl (J_st (R_len Try.underlying58 rfl (hys.ext E).len) rfl (J_st (R_neq rfl rfl) rfl (J_done ?_)))))
  refine S_cond rfl (fun hc1 => ?_) (fun hc1 => ?_)
  · have hc1n : ¬ xs.length = ys.length := by first | (have h := of_decide_eq_true hc1; omega) | (have h := hc1; simp at h; omega)
    refine S_seq ?_
    refine S_reg [true] rfl rfl ?_
    refine J_st (R_assign rfl) rfl (J_done ?_)
    refine S_ret (E_done1 rfl rfl E ?_)
    simp [eq_len hc1n]
  · have hc1n : xs.length = ys.length := by first | (have h := of_decide_eq_false hc1; omega) | (have h := hc1; simp at h; omega)
    refine S_skip ?_
    refine S_seq ?_
    refine S_seq ?_
    refine S_reg [true] rfl rfl ?_
    refine J_st (R_assign rfl) rfl (J_done ?_)
    refine S_block ?_
    refine S_loop (fun (k : Nat) => [(0, vxs), (1, vys), (4, .bool false), (5, .int .i64 ((k : Nat) : Int))]) (fun (k : Nat) w' => Ext w w' ∧ w.heap.size ≤ w'.heap.size ∧ k ≤ xs.length ∧ xs.take k = ys.take k) (fun (k : Nat) => xs.length - k) 0 ⟨rfl, rfl, rfl, rfl, trivial⟩ ⟨E, Nat.le_refl _, Nat.zero_le _, rfl⟩ ?_
    clear E
    rintro k w1 ⟨E, z1, hk, hp⟩
    refine S_seq ?_
    refine S_seq ?_
    refine S_reg [true, true, true, true] rfl rfl ?_
    refine J_st (R_move rfl) rfl (J_st (R_move rfl) rfl (J_st (R_len Try.underlying58 rfl (hxs.ext E).len) rfl (J_st (R_lss rfl rfl) rfl (J_done ?_))))
    refine S_cond rfl (fun hc2 => ?_) (fun hc2 => ?_)
    · have hc2n : k < xs.length := by first | (have h := of_decide_eq_true hc2; omega) | (have h := hc2; simp at h; omega)
      refine S_skip ?_
      refine S_seq ?_
      refine S_block ?_
      refine S_seq ?_
      refine S_regD mixed [(0, true), (1, true), (2, true), (3, true), (4, true), (5, true), (6, true), (7, true), (8, true)] (by decide +kernel) rfl (fun w2 e1 => ?_)
      replace E := E.trans e1
      have z2 := e1.size
      refine J_st (R_move rfl) rfl (J_st (R_move rfl) rfl ?_)
      have hi1 : k < xs.length := (by first | assumption | omega | (simp only [List.length_set]; first | assumption | omega) | (simp only [List.getElem_set_self, List.length_set]; first | assumption | omega) | (simp only [setW, setLk, List.length_set]; first | assumption | omega))
      refine J_st (R_index (i := k) sl58 rfl rfl (hxs.ext E) hi1) rfl (J_st (R_load sc3 rfl (((hxs.ext E).get hi1).one 0 rfl)) rfl (J_st (R_move rfl) rfl (J_st (R_move rfl) rfl ?_)))
      have hi2 : k < ys.length := (by first | assumption | omega | (simp only [List.length_set]; first | assumption | omega) | (simp only [List.getElem_set_self, List.length_set]; first | assumption | omega) | (simp only [setW, setLk, List.length_set]; first | assumption | omega))
      refine J_st (R_index (i := k) sl58 rfl rfl (hys.ext E) hi2) rfl (J_st (R_load sc3 rfl (((hys.ext E).get hi2).one 0 rfl)) rfl (J_st (R_neq rfl rfl) rfl (J_done ?_)))
      refine S_cond rfl (fun hc3 => ?_) (fun hc3 => ?_)
      · refine S_seq ?_
        refine S_reg [true] rfl rfl ?_
        refine J_st (R_assign rfl) rfl (J_done ?_)
        refine S_ret (E_inB_ret (E_lp_ret (E_inB_ret (E_done1 rfl rfl E ?_))))
        exact eqS_no (by omega) (by omega) (by simpa using hc3)
      · refine S_skip ?_
        refine S_nil (E_inB ?_)
        refine S_reg [true, true, true] rfl rfl ?_
        refine J_st (R_move rfl) rfl (J_st (R_add rfl rfl (add_one hc2n hxs.1)) rfl (J_st (R_assign rfl) rfl (J_done ?_)))
        refine S_nil (E_again (k + 1) (by omega) ⟨rfl, rfl, rfl, rfl, trivial⟩ ⟨E, (by omega), (by omega), eqS_step hp (by assumption) (by omega) (by simpa using hc3)⟩)
    · have hc2n : ¬ k < xs.length := by first | (have h := of_decide_eq_false hc2; omega) | (have h := hc2; simp at h; omega)
      refine S_exit (E_lp_exit (E_inB_exit ?_))
      refine S_seq ?_
      refine S_reg [true] rfl rfl ?_
      refine J_st (R_assign rfl) rfl (J_done ?_)
      refine S_ret (E_done1 rfl rfl E ?_)
      exact eqS_yes hp hc1n (by omega)

set_option maxRecDepth 20000 in
theorem c_szNode (cx : List Value) (x : Node) (n : Int) (w : World) (hx : Dat.R w 0 w.heap.size cx x) (h0 : 0 ≤ n ∧ n ≤ 1048576) : Ct Try.prog 49 [.agg cx.toArray, .int .i64 n] w (fun v _ => v = .int .i64 (szM (cntNode x) n)) := by
  refine ct_of Try.func49 rfl Try.ntmps49 rfl ?_
  obtain ⟨o1, rfl, hd1⟩ := Node.op hx
  refine S_sub [(0, .agg [.int .i64 x.kind, .int .i64 x.a, .int .i64 x.b, o1].toArray), (1, .int .i64 n)] ⟨rfl, rfl, trivial⟩ ?_
  have E : Ext w w := Ext.refl w
  refine S_seq ?_
  refine S_reg [false, true] rfl rfl ?_
  refine J_box rfl rfl (fun b1 w1 e1 s1 h1 => ?_)
  have g_b1 : w.heap.size ≤ b1 := by have := E.size; omega
  have y_b1 := h1.lt
  replace E := E.trans e1
  have z1 := e1.size
  refine J_st (R_assign rfl) rfl (J_done ?_)
  refine S_seq ?_
  refine S_reg [true, true, true, false, true] rfl rfl ?_
  refine J_st (R_fieldAddr0 fl88_3 rfl) rfl (J_st (R_load sc58 rfl (h1.one 3 rfl)) rfl (J_st (R_move rfl) rfl ?_))
  refine J_call Try.call80 rfl (c_szIntS o1 x.outs n _ (hd1.rd.ext E) (by first | omega | (simp only [mkL_length]; omega) | (rw [mkL_length]; done) | (simp only [mkL_length]; done))) rfl (fun _ w2 e2 hv => ?_)
  subst hv
  replace E := E.trans e2; replace h1 := h1.ext e2
  have z2 := e2.size
  refine J_st (R_assign rfl) rfl (J_done ?_)
  refine S_seq ?_
  refine S_seq ?_
  refine S_reg [true, true] rfl rfl ?_
  refine J_st (R_move rfl) rfl (J_st (R_lss rfl rfl) rfl (J_done ?_))
  refine S_cond rfl (fun hc1 => ?_) (fun hc1 => ?_)
  · have q1 := szM_no hc1 (by omega)
    refine S_seq ?_
    refine S_reg [true] rfl rfl ?_
    refine J_st (R_assign rfl) rfl (J_done ?_)
    refine S_ret (E_done1 rfl rfl E ?_)
    first | exact sz_neg (by unfold cntNode; omega) | exact sz_fin (by unfold cntNode; omega) (by unfold cntNode; omega)
  · have q2 := szM_ok hc1 (by omega)
    refine S_skip ?_
    refine S_seq ?_
    refine S_reg [true, true] rfl rfl ?_
    refine J_st (R_move rfl) rfl (J_st (R_assign rfl) rfl (J_done ?_))
    refine S_ret (E_done1 rfl rfl E ?_)
    first | exact sz_neg (by unfold cntNode; omega) | exact sz_fin (by unfold cntNode; omega) (by unfold cntNode; omega)

set_option maxRecDepth 20000 in
theorem c_toNode (cx : List Value) (x : Node) (w : World) (hx : Dat.R w 0 w.heap.size cx x) (hb : cntNode x ≤ 1048576) : Ct Try.prog 55 [.agg cx.toArray] w (fun v w' => ∃ cs, v = .agg cs.toArray ∧ Own1.O w' w.heap.size w'.heap.size cs x) := by
  unfold cntNode at hb
  refine ct_of Try.func55 rfl Try.ntmps55 rfl ?_
  obtain ⟨o1, rfl, hd1⟩ := Node.op hx
  refine S_sub [(0, .agg [.int .i64 x.kind, .int .i64 x.a, .int .i64 x.b, o1].toArray)] ⟨rfl, trivial⟩ ?_
  have E : Ext w w := Ext.refl w
  refine S_seq ?_
  refine S_reg [false, false] rfl rfl ?_
  refine J_box rfl rfl (fun b1 w1 e1 s1 h1 => ?_)
  have g_b1 : w.heap.size ≤ b1 := by have := E.size; omega
  have y_b1 := h1.lt
  replace E := E.trans e1
  have z1 := e1.size
  refine J_alloc st90 rfl (fun b2 w2 e2 s2 h2 => ?_)
  have g_b2 : w.heap.size ≤ b2 := by have := E.size; omega
  have y_b2 := h2.lt
  replace E := E.trans e2; replace h1 := h1.ext e2
  have z2 := e2.size
  refine J_done ?_
  refine S_seq ?_
  refine S_reg [false] rfl rfl ?_
  refine J_alloc st90 rfl (fun b3 w3 e3 s3 h3 => ?_)
  have g_b3 : w.heap.size ≤ b3 := by have := E.size; omega
  have y_b3 := h3.lt
  replace E := E.trans e3; replace h1 := h1.ext e3; replace h2 := h2.ext e3
  have z3 := e3.size
  refine J_done ?_
  refine S_seq ?_
  refine S_reg [true, true, true, false] rfl rfl ?_
  refine J_st (R_fieldAddr0 fl88_0 rfl) rfl (J_st (R_load sc3 rfl (h1.one 0 rfl)) rfl (J_st (R_fieldAddr0 fl90_0 rfl) rfl ?_))
  refine J_store' (cs' := [.int .i64 x.kind, .int .i64 0, .int .i64 0, .slice none 0 0]) sc3 rfl rfl rfl h3 (Nat.le_of_ble_eq_true rfl) rfl (fun w4 m1 h3' => ?_)
  replace h3 := h3'
  replace E := E.step m1 (fun g hg => by cases hg; omega); replace h1 := h1.mod m1 (fun g hg => by cases hg; omega); replace h2 := h2.mod m1 (fun g hg => by cases hg; omega)
  have z4 := m1.size
  refine J_done ?_
  refine S_seq ?_
  refine S_reg [true, true, true, false] rfl rfl ?_
  refine J_st (R_fieldAddr0 fl88_1 rfl) rfl (J_st (R_load sc3 rfl (h1.one 1 rfl)) rfl (J_st (R_fieldAddr0 fl90_1 rfl) rfl ?_))
  refine J_store' (cs' := [.int .i64 x.kind, .int .i64 x.a, .int .i64 0, .slice none 0 0]) sc3 rfl rfl rfl h3 (Nat.le_of_ble_eq_true rfl) rfl (fun w5 m2 h3' => ?_)
  replace h3 := h3'
  replace E := E.step m2 (fun g hg => by cases hg; omega); replace h1 := h1.mod m2 (fun g hg => by cases hg; omega); replace h2 := h2.mod m2 (fun g hg => by cases hg; omega)
  have z5 := m2.size
  refine J_done ?_
  refine S_seq ?_
  refine S_reg [true, true, true, false] rfl rfl ?_
  refine J_st (R_fieldAddr0 fl88_2 rfl) rfl (J_st (R_load sc3 rfl (h1.one 2 rfl)) rfl (J_st (R_fieldAddr0 fl90_2 rfl) rfl ?_))
  refine J_store' (cs' := [.int .i64 x.kind, .int .i64 x.a, .int .i64 x.b, .slice none 0 0]) sc3 rfl rfl rfl h3 (Nat.le_of_ble_eq_true rfl) rfl (fun w6 m3 h3' => ?_)
  replace h3 := h3'
  replace E := E.step m3 (fun g hg => by cases hg; omega); replace h1 := h1.mod m3 (fun g hg => by cases hg; omega); replace h2 := h2.mod m3 (fun g hg => by cases hg; omega)
  have z6 := m3.size
  refine J_done ?_
  refine S_seq ?_
  refine S_reg [true, true, false, true, false] rfl rfl ?_
  refine J_st (R_fieldAddr0 fl88_3 rfl) rfl (J_st (R_load sc58 rfl (h1.one 3 rfl)) rfl ?_)
  refine J_call Try.call81 rfl (c_toIntS o1 x.outs _ (hd1.rd.ext E) (by first | omega | (simp only [mkL_length]; omega) | (rw [mkL_length]; done) | (simp only [mkL_length]; done))) rfl (fun v1 w7 e4 ho1 => ?_)
  have g_ho1 : w.heap.size ≤ w6.heap.size := E.size
  replace E := E.trans e4; replace h1 := h1.ext e4; replace h2 := h2.ext e4; replace h3 := h3.ext e4
  have z7 := e4.size
  refine J_st (R_fieldAddr0 fl90_3 rfl) rfl ?_
  refine J_store' (cs' := [.int .i64 x.kind, .int .i64 x.a, .int .i64 x.b, v1]) sc58 rfl rfl ho1.one h3 (Nat.le_of_ble_eq_true rfl) rfl (fun w8 m4 h3' => ?_)
  replace h3 := h3'
  replace E := E.step m4 (fun g hg => by cases hg; omega); replace h1 := h1.mod m4 (fun g hg => by cases hg; omega); replace h2 := h2.mod m4 (fun g hg => by cases hg; omega); replace ho1 := ho1.mod m4 (fun g hg => by cases hg; omega)
  have z8 := m4.size
  refine J_done ?_
  refine S_seq ?_
  refine S_reg [true, false] rfl rfl ?_
  refine J_st (R_loadS st90 rfl h3.at rfl) rfl ?_
  refine J_storeS' (cs' := [.int .i64 x.kind, .int .i64 x.a, .int .i64 x.b, v1]) st90 rfl rfl rfl (all_cons rfl (all_cons rfl (all_cons rfl (all_cons ho1.one rfl)))) h2 (Nat.le_of_ble_eq_true rfl) rfl (fun w9 m5 h2' => ?_)
  replace h2 := h2'
  replace E := E.step m5 (fun g hg => by cases hg; omega); replace h1 := h1.mod m5 (fun g hg => by cases hg; omega); replace h3 := h3.mod m5 (fun g hg => by cases hg; omega); replace ho1 := ho1.mod m5 (fun g hg => by cases hg; omega)
  have z9 := m5.size
  refine J_done ?_
  refine S_ret (E_doneC rfl rfl (run_loadVar_st st90 h2.at rfl) E ?_)
  exact ⟨_, rfl, Node.mkO x ⟨trivial, trivial⟩ (Own.widen ho1 (by omega) (by omega))⟩

set_option maxRecDepth 20000 in
theorem c_eqNode (cx : List Value) (x : Node) (cy : List Value) (y : Node) (w : World) (hx : Dat.R w 0 w.heap.size cx x) (hy : Dat.R w 0 w.heap.size cy y) : Ct Try.prog 68 [.agg cx.toArray, .agg cy.toArray] w (fun v _ => v = .bool (decide (x = y))) := by
  refine ct_of Try.func68 rfl Try.ntmps68 rfl ?_
  obtain ⟨o1, rfl, hd1⟩ := Node.op hx
  obtain ⟨o2, rfl, hd2⟩ := Node.op hy
  refine S_sub [(0, .agg [.int .i64 x.kind, .int .i64 x.a, .int .i64 x.b, o1].toArray), (1, .agg [.int .i64 y.kind, .int .i64 y.a, .int .i64 y.b, o2].toArray)] ⟨rfl, rfl, trivial⟩ ?_
  have E : Ext w w := Ext.refl w
  refine S_seq ?_
  refine S_reg [false, false, true] rfl rfl ?_
  refine J_box rfl rfl (fun b1 w1 e1 s1 h1 => ?_)
  have g_b1 : w.heap.size ≤ b1 := by have := E.size; omega
  have y_b1 := h1.lt
  replace E := E.trans e1
  have z1 := e1.size
  refine J_box rfl rfl (fun b2 w2 e2 s2 h2 => ?_)
  have g_b2 : w.heap.size ≤ b2 := by have := E.size; omega
  have y_b2 := h2.lt
  replace E := E.trans e2; replace h1 := h1.ext e2
  have z2 := e2.size
  refine J_st (R_assign rfl) rfl (J_done ?_)
  refine S_seq ?_
  refine S_seq ?_
  refine S_reg [true, true, true, true, true] rfl rfl ?_
  refine J_st (R_fieldAddr0 fl90_0 rfl) rfl (J_st (R_load sc3 rfl (h1.one 0 rfl)) rfl (J_st (R_fieldAddr0 fl90_0 rfl) rfl (J_st (R_load sc3 rfl (h2.one 0 rfl)) rfl (J_st (R_neq rfl rfl) rfl (J_done ?_)))))
  refine S_cond rfl (fun hc1 => ?_) (fun hc1 => ?_)
  · refine S_seq ?_
    refine S_reg [true] rfl rfl ?_
    refine J_st (R_assign rfl) rfl (J_done ?_)
    refine S_ret (E_done1 rfl rfl E ?_)
    cases x; cases y; simp_all
  · refine S_skip ?_
    refine S_seq ?_
    refine S_seq ?_
    refine S_reg [true, true, true, true, true] rfl rfl ?_
    refine J_st (R_fieldAddr0 fl90_1 rfl) rfl (J_st (R_load sc3 rfl (h1.one 1 rfl)) rfl (J_st (R_fieldAddr0 fl90_1 rfl) rfl (J_st (R_load sc3 rfl (h2.one 1 rfl)) rfl (J_st (R_neq rfl rfl) rfl (J_done ?_)))))
    refine S_cond rfl (fun hc2 => ?_) (fun hc2 => ?_)
    · refine S_seq ?_
      refine S_reg [true] rfl rfl ?_
      refine J_st (R_assign rfl) rfl (J_done ?_)
      refine S_ret (E_done1 rfl rfl E ?_)
      cases x; cases y; simp_all
    · refine S_skip ?_
      refine S_seq ?_
      refine S_seq ?_
      refine S_reg [true, true, true, true, true] rfl rfl ?_
      refine J_st (R_fieldAddr0 fl90_2 rfl) rfl (J_st (R_load sc3 rfl (h1.one 2 rfl)) rfl (J_st (R_fieldAddr0 fl90_2 rfl) rfl (J_st (R_load sc3 rfl (h2.one 2 rfl)) rfl (J_st (R_neq rfl rfl) rfl (J_done ?_)))))
      refine S_cond rfl (fun hc3 => ?_) (fun hc3 => ?_)
      · refine S_seq ?_
        refine S_reg [true] rfl rfl ?_
        refine J_st (R_assign rfl) rfl (J_done ?_)
        refine S_ret (E_done1 rfl rfl E ?_)
        cases x; cases y; simp_all
      · refine S_skip ?_
        refine S_seq ?_
        refine S_seq ?_
        refine S_reg [true, true, true, true, false, true] rfl rfl ?_
        refine J_st (R_fieldAddr0 fl90_3 rfl) rfl (J_st (R_load sc58 rfl (h1.one 3 rfl)) rfl (J_st (R_fieldAddr0 fl90_3 rfl) rfl (J_st (R_load sc58 rfl (h2.one 3 rfl)) rfl ?_)))
        refine J_call Try.call83 rfl (c_eqIntS o1 x.outs o2 y.outs _ (hd1.rd.ext E) (hd2.rd.ext E)) rfl (fun _ w3 e3 hv => ?_)
        subst hv
        replace E := E.trans e3; replace h1 := h1.ext e3; replace h2 := h2.ext e3
        have z3 := e3.size
        refine J_st (R_not rfl) rfl (J_done ?_)
        refine S_cond rfl (fun hc4 => ?_) (fun hc4 => ?_)
        · refine S_seq ?_
          refine S_reg [true] rfl rfl ?_
          refine J_st (R_assign rfl) rfl (J_done ?_)
          refine S_ret (E_done1 rfl rfl E ?_)
          cases x; cases y; simp_all
        · refine S_skip ?_
          refine S_seq ?_
          refine S_reg [true] rfl rfl ?_
          refine J_st (R_assign rfl) rfl (J_done ?_)
          refine S_ret (E_done1 rfl rfl E ?_)
          cases x; cases y; simp_all

set_option maxRecDepth 20000 in
theorem c_szNodeS (vxs : Value) (xs : List Node) (n : Int) (w : World) (hxs : RdD w 0 w.heap.size vxs xs) (h0 : 0 ≤ n ∧ n ≤ 1048576) : Ct Try.prog 17 [vxs, .int .i64 n] w (fun v _ => v = .int .i64 (szM (cntL cntNode xs) n)) := by
  have hlm := hxs.1.1
  unfold maxLen at hlm
  refine ct_of Try.func17 rfl Try.ntmps17 rfl ?_
  refine S_sub [(0, vxs), (1, .int .i64 n)] ⟨rfl, rfl, trivial⟩ ?_
  have E : Ext w w := Ext.refl w
  refine S_seq ?_
  refine S_reg [true] rfl rfl ?_
  refine J_st (R_assign rfl) rfl (J_done ?_)
  refine S_seq ?_
  refine S_reg [true, true, true, true, true] rfl rfl ?_
  refine J_st (R_move rfl) rfl (J_st (R_move rfl) rfl (J_st (R_len Try.underlying22 rfl (hxs.ext E).len) rfl (J_st (R_sub rfl rfl (wrap_in (by omega) (by omega))) rfl (J_st (R_assign rfl) rfl (J_done ?_)))))
  refine S_seq ?_
  refine S_seq ?_
  refine S_reg [true, true] rfl rfl ?_
  refine J_st (R_move rfl) rfl (J_st (R_lss rfl rfl) rfl (J_done ?_))
  refine S_cond rfl (fun hc1 => ?_) (fun hc1 => ?_)
  · refine S_seq ?_
    refine S_reg [true] rfl rfl ?_
    refine J_st (R_assign rfl) rfl (J_done ?_)
    refine S_ret (E_done1 rfl rfl E ?_)
    exact sz_neg (by have := of_decide_eq_true hc1; unfold cntL; omega)
  · refine S_skip ?_
    refine S_seq ?_
    refine S_seq ?_
    refine S_reg [true] rfl rfl ?_
    refine J_st (R_assign rfl) rfl (J_done ?_)
    refine S_block ?_
    refine S_loop (fun (xq : Nat × Int) => let ⟨k, l⟩ := xq; [(0, vxs), (1, .int .i64 l), (4, .int .i64 0), (5, .int .i64 ((k : Nat) : Int))]) (fun (xq : Nat × Int) w' => let ⟨k, l⟩ := xq; Ext w w' ∧ w.heap.size ≤ w'.heap.size ∧ k ≤ xs.length ∧ 0 ≤ l ∧ l ≤ 1048576 ∧ l = n - ((xs.length : Nat) : Int) - ((((xs.take k).map cntNode).sum : Nat) : Int)) (fun (xq : Nat × Int) => let ⟨k, l⟩ := xq; xs.length - k) (0, n - ((xs.length : Nat) : Int)) ⟨rfl, rfl, rfl, rfl, trivial⟩ ⟨E, Nat.le_refl _, Nat.zero_le _, (by have := of_decide_eq_false hc1; simp; omega)⟩ ?_
    clear E
    rintro ⟨k, l⟩ w1 ⟨E, z1, hk, hl⟩
    refine S_sub [(0, vxs), (1, .int .i64 l), (4, .int .i64 0), (5, .int .i64 ((k : Nat) : Int))] ⟨rfl, rfl, rfl, rfl, trivial⟩ ?_
    refine S_seq ?_
    refine S_seq ?_
    refine S_reg [true, true, true, true] rfl rfl ?_
    refine J_st (R_move rfl) rfl (J_st (R_move rfl) rfl (J_st (R_len Try.underlying22 rfl (hxs.ext E).len) rfl (J_st (R_lss rfl rfl) rfl (J_done ?_))))
    refine S_cond rfl (fun hc2 => ?_) (fun hc2 => ?_)
    · have hc2n : k < xs.length := by first | (have h := of_decide_eq_true hc2; omega) | (have h := hc2; simp at h; omega)
      refine S_skip ?_
      refine S_seq ?_
      refine S_block ?_
      refine S_seq ?_
      refine S_reg [true, true, true, true, true, false, true] rfl rfl ?_
      refine J_st (R_move rfl) rfl (J_st (R_move rfl) rfl ?_)
      have hi1 : k < xs.length := (by first | assumption | omega | (simp only [List.length_set]; first | assumption | omega) | (simp only [List.getElem_set_self, List.length_set]; first | assumption | omega) | (simp only [setW, setLk, List.length_set]; first | assumption | omega))
      obtain ⟨_, hr1, ha1⟩ := RdD.get hxs hi1
      obtain ⟨o1, rfl, hd1⟩ := Node.op hr1
      replace ha1 : At w (sblk vxs) (soff vxs + k * 4) [.int .i64 ((xs[k]'hi1).kind), .int .i64 ((xs[k]'hi1).a), .int .i64 ((xs[k]'hi1).b), o1] := ha1
      refine J_st (R_index (i := k) sl22 rfl rfl (hxs.ext E).1 hi1) rfl (J_st (R_loadS st88 rfl (ha1.ext E) rfl) rfl (J_st (R_move rfl) rfl ?_))
      refine J_call Try.call49 rfl (c_szNode [.int .i64 ((xs[k]'hi1).kind), .int .i64 ((xs[k]'hi1).a), .int .i64 ((xs[k]'hi1).b), o1] (xs[k]'hi1) l _ (Node.mkR (xs[k]'hi1) (RdD.any (hd1.ext E))) (by first | omega | (simp only [mkL_length]; omega) | (rw [mkL_length]; done) | (simp only [mkL_length]; done))) rfl (fun _ w2 e1 hv => ?_)
      subst hv
      replace E := E.trans e1
      have z2 := e1.size
      refine J_st (R_assign rfl) rfl (J_done ?_)
      refine S_seq ?_
      refine S_reg [true, true] rfl rfl ?_
      refine J_st (R_move rfl) rfl (J_st (R_lss rfl rfl) rfl (J_done ?_))
      refine S_cond rfl (fun hc3 => ?_) (fun hc3 => ?_)
      · have q1 := szM_no hc3 (by omega)
        refine S_seq ?_
        refine S_reg [true] rfl rfl ?_
        refine J_st (R_assign rfl) rfl (J_done ?_)
        refine S_ret (E_inB_ret (E_lp_ret (E_inB_ret (E_done1 rfl rfl E ?_))))
        exact sz_neg (by have := sum_le (f := cntNode) (show k < xs.length by omega); unfold cntL; omega)
      · have q2 := szM_ok hc3 (by omega)
        refine S_skip ?_
        refine S_nil (E_inB ?_)
        refine S_reg [true, true, true] rfl rfl ?_
        refine J_st (R_move rfl) rfl (J_st (R_add rfl rfl (add_one hc2n (hxs.ext E).1.1)) rfl (J_st (R_assign rfl) rfl (J_done ?_)))
        refine S_nil (E_again (k + 1, szM (cntNode (xs[k]'hi1)) l) (by simp; omega) ⟨rfl, rfl, rfl, rfl, trivial⟩ ⟨E, (by omega), (by omega), (by have := sum_step (f := cntNode) (show k < xs.length by omega); omega)⟩)
    · have hc2n : ¬ k < xs.length := by first | (have h := of_decide_eq_false hc2; omega) | (have h := hc2; simp at h; omega)
      refine S_exit (E_lp_exit (E_inB_exit ?_))
      refine S_seq ?_
      refine S_reg [true, true] rfl rfl ?_
      refine J_st (R_move rfl) rfl (J_st (R_assign rfl) rfl (J_done ?_))
      refine S_ret (E_done1 rfl rfl E ?_)
      have := sum_all (f := cntNode) (show xs.length ≤ k by omega); exact sz_fin (by unfold cntL; omega) (by unfold cntL; omega)

set_option maxRecDepth 20000 in
theorem c_toNodeS (vxs : Value) (xs : List Node) (w : World) (hxs : RdD w 0 w.heap.size vxs xs) (hb : cntL cntNode xs ≤ 1048576) : Ct Try.prog 24 [vxs] w (fun v w' => OwS (α := Node) w' w.heap.size w'.heap.size v xs) := by
  unfold cntL at hb
  refine ct_of Try.func24 rfl Try.ntmps24 rfl ?_
  refine S_sub [(0, vxs)] ⟨rfl, trivial⟩ ?_
  have E : Ext w w := Ext.refl w
  refine S_seq ?_
  refine S_reg [true] rfl rfl ?_
  refine J_st (R_assign rfl) rfl (J_done ?_)
  refine S_seq ?_
  refine S_reg [true, true, false, true] rfl rfl ?_
  refine J_st (R_move rfl) rfl (J_st (R_len Try.underlying22 rfl (hxs.ext E).len) rfl ?_)
  refine J_make (m := xs.length) sl28 rfl rfl (by omega) (by decide) rfl (fun b1 w1 e1 s1 h1 => ?_)
  have g_b1 : w.heap.size ≤ b1 := by have := E.size; omega
  have y_b1 := h1.lt
  replace E := E.trans e1
  have z1 := e1.size
  refine J_st (R_assign rfl) rfl (J_done ?_)
  refine S_seq ?_
  refine S_seq ?_
  refine S_reg [true] rfl rfl ?_
  refine J_st (R_assign rfl) rfl (J_done ?_)
  refine S_block ?_
  refine S_loop (fun (xq : Nat × List (List Value)) => let ⟨k, css⟩ := xq; [(0, vxs), (2, .slice none 0 0), (3, .slice (some ⟨b1, 0, none⟩) xs.length xs.length), (4, .int .i64 ((k : Nat) : Int))]) (fun (xq : Nat × List (List Value)) w' => let ⟨k, css⟩ := xq; Ext w w' ∧ w1.heap.size ≤ w'.heap.size ∧ k ≤ xs.length ∧ css.length = k ∧ Blk w' b1 (mkc css [.int .i64 0, .int .i64 0, .int .i64 0, .slice none 0 0] (xs.length - k)) ∧ AllO w' w1.heap.size w'.heap.size css (xs.take k)) (fun (xq : Nat × List (List Value)) => let ⟨k, css⟩ := xq; xs.length - k) (0, []) ⟨rfl, rfl, rfl, rfl, trivial⟩ ⟨E, Nat.le_refl _, Nat.zero_le _, rfl, (by simpa [mkc] using h1), (by simp [AllO, All2])⟩ ?_
  clear E h1
  rintro ⟨k, css⟩ w2 ⟨E, z2, hk, hlk, h1, hA⟩
  refine S_sub [(0, vxs), (2, .slice none 0 0), (3, .slice (some ⟨b1, 0, none⟩) xs.length xs.length), (4, .int .i64 ((k : Nat) : Int))] ⟨rfl, rfl, rfl, rfl, trivial⟩ ?_
  refine S_seq ?_
  refine S_seq ?_
  refine S_reg [true, true, true, true] rfl rfl ?_
  refine J_st (R_move rfl) rfl (J_st (R_move rfl) rfl (J_st (R_len Try.underlying22 rfl (hxs.ext E).len) rfl (J_st (R_lss rfl rfl) rfl (J_done ?_))))
  refine S_cond rfl (fun hc1 => ?_) (fun hc1 => ?_)
  · have hc1n : k < xs.length := by first | (have h := of_decide_eq_true hc1; omega) | (have h := hc1; simp at h; omega)
    refine S_skip ?_
    refine S_seq ?_
    refine S_block ?_
    refine S_reg [true, true, true, true, true, true, false, true, false] rfl rfl ?_
    refine J_st (R_move rfl) rfl (J_st (R_move rfl) rfl (J_st (R_move rfl) rfl (J_st (R_move rfl) rfl ?_)))
    have hi1 : k < xs.length := (by first | assumption | omega | (simp only [List.length_set]; first | assumption | omega) | (simp only [List.getElem_set_self, List.length_set]; first | assumption | omega) | (simp only [setW, setLk, List.length_set]; first | assumption | omega))
    obtain ⟨_, hr1, ha1⟩ := RdD.get hxs hi1
    obtain ⟨o1, rfl, hd1⟩ := Node.op hr1
    replace ha1 : At w (sblk vxs) (soff vxs + k * 4) [.int .i64 ((xs[k]'hi1).kind), .int .i64 ((xs[k]'hi1).a), .int .i64 ((xs[k]'hi1).b), o1] := ha1
    refine J_st (R_index (i := k) sl22 rfl rfl (hxs.ext E).1 hi1) rfl (J_st (R_loadS st88 rfl (ha1.ext E) rfl) rfl ?_)
    refine J_call Try.call55 rfl (c_toNode [.int .i64 ((xs[k]'hi1).kind), .int .i64 ((xs[k]'hi1).a), .int .i64 ((xs[k]'hi1).b), o1] (xs[k]'hi1) _ (Node.mkR (xs[k]'hi1) (RdD.any (hd1.ext E))) (by have := sum_le (f := cntNode) (show k < xs.length by omega); omega)) rfl (fun _ w3 e2 ho1 => ?_)
    obtain ⟨_, rfl, ho1⟩ := ho1
    have g_ho1 : w.heap.size ≤ w2.heap.size := E.size
    replace E := E.trans e2; replace h1 := h1.ext e2; replace hA := hA.ext e2
    have z3 := e2.size
    obtain ⟨o2, rfl, sp1, hw1⟩ := Node.opO ho1
    refine J_st (R_indexB sl28 rfl rfl (by first | assumption | omega | (simp only [List.length_set]; first | assumption | omega) | (simp only [List.getElem_set_self, List.length_set]; first | assumption | omega) | (simp only [setW, setLk, List.length_set]; first | assumption | omega))) rfl ?_
    refine J_storeS' (cs' := mkc (css ++ [[.int .i64 ((xs[k]'hi1).kind), .int .i64 ((xs[k]'hi1).a), .int .i64 ((xs[k]'hi1).b), o2]]) [.int .i64 0, .int .i64 0, .int .i64 0, .slice none 0 0] (xs.length - (k + 1))) st90 rfl rfl rfl (all_cons rfl (all_cons rfl (all_cons rfl (all_cons hw1.one rfl)))) h1 (mkc_room hA.d hlk rfl hc1n (by rfl)) (mkc_step hA.d hlk rfl hc1n rfl) (fun w4 m1 h1' => ?_)
    replace h1 := h1'
    replace E := E.step m1 (fun g hg => by cases hg; omega); replace hA := hA.mod m1 (fun g hg => by cases hg; omega); replace hw1 := hw1.mod m1 (fun g hg => by cases hg; omega)
    have z4 := m1.size
    refine J_done ?_
    refine S_nil (E_inB ?_)
    refine S_reg [true, true, true] rfl rfl ?_
    refine J_st (R_move rfl) rfl (J_st (R_add rfl rfl (add_one hc1n (hxs.ext E).1.1)) rfl (J_st (R_assign rfl) rfl (J_done ?_)))
    refine S_nil (E_again (k + 1, css ++ [[.int .i64 ((xs[k]'hi1).kind), .int .i64 ((xs[k]'hi1).a), .int .i64 ((xs[k]'hi1).b), o2]]) (by simp; omega) ⟨rfl, rfl, rfl, rfl, trivial⟩ ⟨E, (by omega), (by omega), (by simp [hlk]), h1, (AllO.widen (AllO.step hA hc1n (Node.mkO (xs[k]'hi1) sp1 (Own.widen hw1 (by omega) (by omega))) (Nat.le_refl _) (Nat.le_refl _) (by omega) (by omega)) (Nat.le_refl _) (by omega))⟩)
  · have hc1n : ¬ k < xs.length := by first | (have h := of_decide_eq_false hc1; omega) | (have h := hc1; simp at h; omega)
    refine S_exit (E_lp_exit (E_inB_exit ?_))
    refine S_seq ?_
    refine S_reg [true, true] rfl rfl ?_
    refine J_st (R_move rfl) rfl (J_st (R_assign rfl) rfl (J_done ?_))
    refine S_ret (E_done1 rfl rfl E ?_)
    obtain rfl : k = xs.length := by omega
    rw [Nat.sub_self, mkc_all] at h1
    rw [List.take_length] at hA
    exact OwS.ofBlk h1 hA (by have := E.size; omega) (by omega) (by have := E.size; omega) (by omega) (by omega) rfl (by unfold maxLen; omega)

set_option maxRecDepth 20000 in
theorem c_eqNodeS (vxs : Value) (xs : List Node) (vys : Value) (ys : List Node) (w : World) (hxs : RdD w 0 w.heap.size vxs xs) (hys : RdD w 0 w.heap.size vys ys) : Ct Try.prog 37 [vxs, vys] w (fun v _ => v = .bool (decide (xs = ys))) := by
  refine ct_of Try.func37 rfl Try.ntmps37 rfl ?_
  refine S_sub [(0, vxs), (1, vys)] ⟨rfl, rfl, trivial⟩ ?_
  have E : Ext w w := Ext.refl w
  refine S_seq ?_
  refine S_reg [true] rfl rfl ?_
  refine J_st (R_assign rfl) rfl (J_done ?_)
  refine S_seq ?_
  refine S_seq ?_
  refine S_reg [true, true, true, true, true] rfl rfl ?_
  refine J_st (R_move rfl) rfl (J_st (R_len Try.underlying28 rfl (hxs.ext E).len) rfl (J_st (R_move rfl) rfl (J_st (R_len Try.underlying28 rfl (hys.ext E).len) rfl (J_st (R_neq rfl rfl) rfl (J_done ?_)))))
  refine S_cond rfl (fun hc1 => ?_) (fun hc1 => ?_)
  · have hc1n : ¬ xs.length = ys.length := by first | (have h := of_decide_eq_true hc1; omega) | (have h := hc1; simp at h; omega)
    refine S_seq ?_
    refine S_reg [true] rfl rfl ?_
    refine J_st (R_assign rfl) rfl (J_done ?_)
    refine S_ret (E_done1 rfl rfl E ?_)
    simp [eq_len hc1n]
  · have hc1n : xs.length = ys.length := by first | (have h := of_decide_eq_false hc1; omega) | (have h := hc1; simp at h; omega)
    refine S_skip ?_
    refine S_seq ?_
    refine S_seq ?_
    refine S_reg [true] rfl rfl ?_
    refine J_st (R_assign rfl) rfl (J_done ?_)
    refine S_block ?_
    refine S_loop (fun (k : Nat) => [(0, vxs), (1, vys), (4, .bool false), (5, .int .i64 ((k : Nat) : Int))]) (fun (k : Nat) w' => Ext w w' ∧ w.heap.size ≤ w'.heap.size ∧ k ≤ xs.length ∧ xs.take k = ys.take k) (fun (k : Nat) => xs.length - k) 0 ⟨rfl, rfl, rfl, rfl, trivial⟩ ⟨E, Nat.le_refl _, Nat.zero_le _, rfl⟩ ?_
    clear E
    rintro k w1 ⟨E, z1, hk, hp⟩
    refine S_seq ?_
    refine S_seq ?_
    refine S_reg [true, true, true, true] rfl rfl ?_
    refine J_st (R_move rfl) rfl (J_st (R_move rfl) rfl (J_st (R_len Try.underlying28 rfl (hxs.ext E).len) rfl (J_st (R_lss rfl rfl) rfl (J_done ?_))))
    refine S_cond rfl (fun hc2 => ?_) (fun hc2 => ?_)
    · have hc2n : k < xs.length := by first | (have h := of_decide_eq_true hc2; omega) | (have h := hc2; simp at h; omega)
      refine S_skip ?_
      refine S_seq ?_
      refine S_block ?_
      refine S_seq ?_
      refine S_regD mixed [(0, true), (1, true), (2, true), (3, true), (4, true), (5, true), (6, true), (7, true), (8, false), (9, true)] (by decide +kernel) rfl (fun w2 e1 => ?_)
      replace E := E.trans e1
      have z2 := e1.size
      refine J_st (R_move rfl) rfl (J_st (R_move rfl) rfl ?_)
      have hi1 : k < xs.length := (by first | assumption | omega | (simp only [List.length_set]; first | assumption | omega) | (simp only [List.getElem_set_self, List.length_set]; first | assumption | omega) | (simp only [setW, setLk, List.length_set]; first | assumption | omega))
      obtain ⟨_, hr1, ha1⟩ := RdD.get hxs hi1
      obtain ⟨o1, rfl, hd1⟩ := Node.op hr1
      replace ha1 : At w (sblk vxs) (soff vxs + k * 4) [.int .i64 ((xs[k]'hi1).kind), .int .i64 ((xs[k]'hi1).a), .int .i64 ((xs[k]'hi1).b), o1] := ha1
      refine J_st (R_index (i := k) sl28 rfl rfl (hxs.ext E).1 hi1) rfl (J_st (R_loadS st90 rfl (ha1.ext E) rfl) rfl (J_st (R_move rfl) rfl (J_st (R_move rfl) rfl ?_)))
      have hi2 : k < ys.length := (by first | assumption | omega | (simp only [List.length_set]; first | assumption | omega) | (simp only [List.getElem_set_self, List.length_set]; first | assumption | omega) | (simp only [setW, setLk, List.length_set]; first | assumption | omega))
      obtain ⟨_, hr2, ha2⟩ := RdD.get hys hi2
      obtain ⟨o2, rfl, hd2⟩ := Node.op hr2
      replace ha2 : At w (sblk vys) (soff vys + k * 4) [.int .i64 ((ys[k]'hi2).kind), .int .i64 ((ys[k]'hi2).a), .int .i64 ((ys[k]'hi2).b), o2] := ha2
      refine J_st (R_index (i := k) sl28 rfl rfl (hys.ext E).1 hi2) rfl (J_st (R_loadS st90 rfl (ha2.ext E) rfl) rfl ?_)
      refine J_call Try.call68 rfl (c_eqNode [.int .i64 ((xs[k]'hi1).kind), .int .i64 ((xs[k]'hi1).a), .int .i64 ((xs[k]'hi1).b), o1] (xs[k]'hi1) [.int .i64 ((ys[k]'hi2).kind), .int .i64 ((ys[k]'hi2).a), .int .i64 ((ys[k]'hi2).b), o2] (ys[k]'hi2) _ (Node.mkR (xs[k]'hi1) (RdD.any (hd1.ext E))) (Node.mkR (ys[k]'hi2) (RdD.any (hd2.ext E)))) rfl (fun _ w3 e2 hv => ?_)
      subst hv
      replace E := E.trans e2
      have z3 := e2.size
      refine J_st (R_not rfl) rfl (J_done ?_)
      refine S_cond rfl (fun hc3 => ?_) (fun hc3 => ?_)
      · refine S_seq ?_
        refine S_reg [true] rfl rfl ?_
        refine J_st (R_assign rfl) rfl (J_done ?_)
        refine S_ret (E_inB_ret (E_lp_ret (E_inB_ret (E_done1 rfl rfl E ?_))))
        exact eqS_no (by omega) (by omega) (by simpa using hc3)
      · refine S_skip ?_
        refine S_nil (E_inB ?_)
        refine S_reg [true, true, true] rfl rfl ?_
        refine J_st (R_move rfl) rfl (J_st (R_add rfl rfl (add_one hc2n (hxs.ext E).1.1)) rfl (J_st (R_assign rfl) rfl (J_done ?_)))
        refine S_nil (E_again (k + 1) (by omega) ⟨rfl, rfl, rfl, rfl, trivial⟩ ⟨E, (by omega), (by omega), eqS_step hp (by assumption) (by omega) (by simpa using hc3)⟩)
    · have hc2n : ¬ k < xs.length := by first | (have h := of_decide_eq_false hc2; omega) | (have h := hc2; simp at h; omega)
      refine S_exit (E_lp_exit (E_inB_exit ?_))
      refine S_seq ?_
      refine S_reg [true] rfl rfl ?_
      refine J_st (R_assign rfl) rfl (J_done ?_)
      refine S_ret (E_done1 rfl rfl E ?_)
      exact eqS_yes hp hc1n (by omega)

set_option maxRecDepth 20000 in
theorem c_szGraph (cx : List Value) (x : Graph) (n : Int) (w : World) (hx : Dat.R w 0 w.heap.size cx x) (h0 : 0 ≤ n ∧ n ≤ 1048576) : Ct Try.prog 4 [.agg cx.toArray, .int .i64 n] w (fun v _ => v = .int .i64 (szM (cntGraph x) n)) := by
  refine ct_of Try.func4 rfl Try.ntmps4 rfl ?_
  obtain ⟨o1, rfl, hd1⟩ := Graph.op hx
  refine S_sub [(0, .agg [o1, .int .i64 x.workers, .int .i64 x.cap].toArray), (1, .int .i64 n)] ⟨rfl, rfl, trivial⟩ ?_
  have E : Ext w w := Ext.refl w
  refine S_seq ?_
  refine S_reg [false, true] rfl rfl ?_
  refine J_box rfl rfl (fun b1 w1 e1 s1 h1 => ?_)
  have g_b1 : w.heap.size ≤ b1 := by have := E.size; omega
  have y_b1 := h1.lt
  replace E := E.trans e1
  have z1 := e1.size
  refine J_st (R_assign rfl) rfl (J_done ?_)
  refine S_seq ?_
  refine S_reg [true, true, true, false, true] rfl rfl ?_
  refine J_st (R_fieldAddr0 fl24_0 rfl) rfl (J_st (R_load sc22 rfl (h1.one 0 rfl)) rfl (J_st (R_move rfl) rfl ?_))
  refine J_call Try.call17 rfl (c_szNodeS o1 x.nodes n _ (RdD.any (hd1.ext E)) (by first | omega | (simp only [mkL_length]; omega) | (rw [mkL_length]; done) | (simp only [mkL_length]; done))) rfl (fun _ w2 e2 hv => ?_)
  subst hv
  replace E := E.trans e2; replace h1 := h1.ext e2
  have z2 := e2.size
  refine J_st (R_assign rfl) rfl (J_done ?_)
  refine S_seq ?_
  refine S_seq ?_
  refine S_reg [true, true] rfl rfl ?_
  refine J_st (R_move rfl) rfl (J_st (R_lss rfl rfl) rfl (J_done ?_))
  refine S_cond rfl (fun hc1 => ?_) (fun hc1 => ?_)
  · have q1 := szM_no hc1 (by omega)
    refine S_seq ?_
    refine S_reg [true] rfl rfl ?_
    refine J_st (R_assign rfl) rfl (J_done ?_)
    refine S_ret (E_done1 rfl rfl E ?_)
    first | exact sz_neg (by unfold cntGraph; omega) | exact sz_fin (by unfold cntGraph; omega) (by unfold cntGraph; omega)
  · have q2 := szM_ok hc1 (by omega)
    refine S_skip ?_
    refine S_seq ?_
    refine S_reg [true, true] rfl rfl ?_
    refine J_st (R_move rfl) rfl (J_st (R_assign rfl) rfl (J_done ?_))
    refine S_ret (E_done1 rfl rfl E ?_)
    first | exact sz_neg (by unfold cntGraph; omega) | exact sz_fin (by unfold cntGraph; omega) (by unfold cntGraph; omega)

set_option maxRecDepth 20000 in
theorem c_eqGraph (cx : List Value) (x : Graph) (cy : List Value) (y : Graph) (w : World) (hx : Dat.R w 0 w.heap.size cx x) (hy : Dat.R w 0 w.heap.size cy y) : Ct Try.prog 11 [.agg cx.toArray, .agg cy.toArray] w (fun v _ => v = .bool (decide (x = y))) := by
  refine ct_of Try.func11 rfl Try.ntmps11 rfl ?_
  obtain ⟨o1, rfl, hd1⟩ := Graph.op hx
  obtain ⟨o2, rfl, hd2⟩ := Graph.op hy
  refine S_sub [(0, .agg [o1, .int .i64 x.workers, .int .i64 x.cap].toArray), (1, .agg [o2, .int .i64 y.workers, .int .i64 y.cap].toArray)] ⟨rfl, rfl, trivial⟩ ?_
  have E : Ext w w := Ext.refl w
  refine S_seq ?_
  refine S_reg [false, false, true] rfl rfl ?_
  refine J_box rfl rfl (fun b1 w1 e1 s1 h1 => ?_)
  have g_b1 : w.heap.size ≤ b1 := by have := E.size; omega
  have y_b1 := h1.lt
  replace E := E.trans e1
  have z1 := e1.size
  refine J_box rfl rfl (fun b2 w2 e2 s2 h2 => ?_)
  have g_b2 : w.heap.size ≤ b2 := by have := E.size; omega
  have y_b2 := h2.lt
  replace E := E.trans e2; replace h1 := h1.ext e2
  have z2 := e2.size
  refine J_st (R_assign rfl) rfl (J_done ?_)
  refine S_seq ?_
  refine S_seq ?_
  refine S_reg [true, true, true, true, false, true] rfl rfl ?_
  refine J_st (R_fieldAddr0 fl30_0 rfl) rfl (J_st (R_load sc28 rfl (h1.one 0 rfl)) rfl (J_st (R_fieldAddr0 fl30_0 rfl) rfl (J_st (R_load sc28 rfl (h2.one 0 rfl)) rfl ?_)))
  refine J_call Try.call37 rfl (c_eqNodeS o1 x.nodes o2 y.nodes _ (RdD.any (hd1.ext E)) (RdD.any (hd2.ext E))) rfl (fun _ w3 e3 hv => ?_)
  subst hv
  replace E := E.trans e3; replace h1 := h1.ext e3; replace h2 := h2.ext e3
  have z3 := e3.size
  refine J_st (R_not rfl) rfl (J_done ?_)
  refine S_cond rfl (fun hc1 => ?_) (fun hc1 => ?_)
  · refine S_seq ?_
    refine S_reg [true] rfl rfl ?_
    refine J_st (R_assign rfl) rfl (J_done ?_)
    refine S_ret (E_done1 rfl rfl E ?_)
    cases x; cases y; simp_all
  · refine S_skip ?_
    refine S_seq ?_
    refine S_seq ?_
    refine S_reg [true, true, true, true, true] rfl rfl ?_
    refine J_st (R_fieldAddr0 fl30_1 rfl) rfl (J_st (R_load sc3 rfl (h1.one 1 rfl)) rfl (J_st (R_fieldAddr0 fl30_1 rfl) rfl (J_st (R_load sc3 rfl (h2.one 1 rfl)) rfl (J_st (R_neq rfl rfl) rfl (J_done ?_)))))
    refine S_cond rfl (fun hc2 => ?_) (fun hc2 => ?_)
    · refine S_seq ?_
      refine S_reg [true] rfl rfl ?_
      refine J_st (R_assign rfl) rfl (J_done ?_)
      refine S_ret (E_done1 rfl rfl E ?_)
      cases x; cases y; simp_all
    · refine S_skip ?_
      refine S_seq ?_
      refine S_seq ?_
      refine S_reg [true, true, true, true, true] rfl rfl ?_
      refine J_st (R_fieldAddr0 fl30_2 rfl) rfl (J_st (R_load sc3 rfl (h1.one 2 rfl)) rfl (J_st (R_fieldAddr0 fl30_2 rfl) rfl (J_st (R_load sc3 rfl (h2.one 2 rfl)) rfl (J_st (R_neq rfl rfl) rfl (J_done ?_)))))
      refine S_cond rfl (fun hc3 => ?_) (fun hc3 => ?_)
      · refine S_seq ?_
        refine S_reg [true] rfl rfl ?_
        refine J_st (R_assign rfl) rfl (J_done ?_)
        refine S_ret (E_done1 rfl rfl E ?_)
        cases x; cases y; simp_all
      · refine S_skip ?_
        refine S_seq ?_
        refine S_reg [true] rfl rfl ?_
        refine J_st (R_assign rfl) rfl (J_done ?_)
        refine S_ret (E_done1 rfl rfl E ?_)
        cases x; cases y; simp_all

set_option maxRecDepth 20000 in
theorem c_toGraph (cx : List Value) (x : Graph) (w : World) (hx : Dat.R w 0 w.heap.size cx x) (hb : cntGraph x ≤ 1048576) : Ct Try.prog 7 [.agg cx.toArray] w (fun v w' => ∃ o, v = .agg [o, .int .i64 x.workers, .int .i64 x.cap].toArray ∧ OwS w' w.heap.size w'.heap.size o x.nodes) := by
  unfold cntGraph at hb
  refine ct_of Try.func7 rfl Try.ntmps7 rfl ?_
  obtain ⟨o1, rfl, hd1⟩ := Graph.op hx
  refine S_sub [(0, .agg [o1, .int .i64 x.workers, .int .i64 x.cap].toArray)] ⟨rfl, trivial⟩ ?_
  have E : Ext w w := Ext.refl w
  refine S_seq ?_
  refine S_reg [false, false] rfl rfl ?_
  refine J_box rfl rfl (fun b1 w1 e1 s1 h1 => ?_)
  have g_b1 : w.heap.size ≤ b1 := by have := E.size; omega
  have y_b1 := h1.lt
  replace E := E.trans e1
  have z1 := e1.size
  refine J_alloc st30 rfl (fun b2 w2 e2 s2 h2 => ?_)
  have g_b2 : w.heap.size ≤ b2 := by have := E.size; omega
  have y_b2 := h2.lt
  replace E := E.trans e2; replace h1 := h1.ext e2
  have z2 := e2.size
  refine J_done ?_
  refine S_seq ?_
  refine S_reg [false] rfl rfl ?_
  refine J_alloc st30 rfl (fun b3 w3 e3 s3 h3 => ?_)
  have g_b3 : w.heap.size ≤ b3 := by have := E.size; omega
  have y_b3 := h3.lt
  replace E := E.trans e3; replace h1 := h1.ext e3; replace h2 := h2.ext e3
  have z3 := e3.size
  refine J_done ?_
  refine S_seq ?_
  refine S_reg [true, true, false, true, false] rfl rfl ?_
  refine J_st (R_fieldAddr0 fl24_0 rfl) rfl (J_st (R_load sc22 rfl (h1.one 0 rfl)) rfl ?_)
  refine J_call Try.call24 rfl (c_toNodeS o1 x.nodes _ (RdD.any (hd1.ext E)) (by first | omega | (simp only [mkL_length]; omega) | (rw [mkL_length]; done) | (simp only [mkL_length]; done))) rfl (fun v1 w4 e4 ho1 => ?_)
  have g_ho1 : w.heap.size ≤ w3.heap.size := E.size
  replace E := E.trans e4; replace h1 := h1.ext e4; replace h2 := h2.ext e4; replace h3 := h3.ext e4
  have z4 := e4.size
  refine J_st (R_fieldAddr0 fl30_0 rfl) rfl ?_
  refine J_store' (cs' := [v1, .int .i64 0, .int .i64 0]) sc28 rfl rfl (RdD.one (OwS.rd ho1)) h3 (Nat.le_of_ble_eq_true rfl) rfl (fun w5 m1 h3' => ?_)
  replace h3 := h3'
  replace E := E.step m1 (fun g hg => by cases hg; omega); replace h1 := h1.mod m1 (fun g hg => by cases hg; omega); replace h2 := h2.mod m1 (fun g hg => by cases hg; omega); replace ho1 := ho1.mod m1 (fun g hg => by cases hg; omega)
  have z5 := m1.size
  refine J_done ?_
  refine S_seq ?_
  refine S_reg [true, true, true, false] rfl rfl ?_
  refine J_st (R_fieldAddr0 fl24_1 rfl) rfl (J_st (R_load sc3 rfl (h1.one 1 rfl)) rfl (J_st (R_fieldAddr0 fl30_1 rfl) rfl ?_))
  refine J_store' (cs' := [v1, .int .i64 x.workers, .int .i64 0]) sc3 rfl rfl rfl h3 (Nat.le_of_ble_eq_true rfl) rfl (fun w6 m2 h3' => ?_)
  replace h3 := h3'
  replace E := E.step m2 (fun g hg => by cases hg; omega); replace h1 := h1.mod m2 (fun g hg => by cases hg; omega); replace h2 := h2.mod m2 (fun g hg => by cases hg; omega); replace ho1 := ho1.mod m2 (fun g hg => by cases hg; omega)
  have z6 := m2.size
  refine J_done ?_
  refine S_seq ?_
  refine S_reg [true, true, true, false] rfl rfl ?_
  refine J_st (R_fieldAddr0 fl24_2 rfl) rfl (J_st (R_load sc3 rfl (h1.one 2 rfl)) rfl (J_st (R_fieldAddr0 fl30_2 rfl) rfl ?_))
  refine J_store' (cs' := [v1, .int .i64 x.workers, .int .i64 x.cap]) sc3 rfl rfl rfl h3 (Nat.le_of_ble_eq_true rfl) rfl (fun w7 m3 h3' => ?_)
  replace h3 := h3'
  replace E := E.step m3 (fun g hg => by cases hg; omega); replace h1 := h1.mod m3 (fun g hg => by cases hg; omega); replace h2 := h2.mod m3 (fun g hg => by cases hg; omega); replace ho1 := ho1.mod m3 (fun g hg => by cases hg; omega)
  have z7 := m3.size
  refine J_done ?_
  refine S_seq ?_
  refine S_reg [true, false] rfl rfl ?_
  refine J_st (R_loadS st30 rfl h3.at rfl) rfl ?_
  refine J_storeS' (cs' := [v1, .int .i64 x.workers, .int .i64 x.cap]) st30 rfl rfl rfl (all_cons (RdD.one (OwS.rd ho1)) (all_cons rfl (all_cons rfl rfl))) h2 (Nat.le_of_ble_eq_true rfl) rfl (fun w8 m4 h2' => ?_)
  replace h2 := h2'
  replace E := E.step m4 (fun g hg => by cases hg; omega); replace h1 := h1.mod m4 (fun g hg => by cases hg; omega); replace h3 := h3.mod m4 (fun g hg => by cases hg; omega); replace ho1 := ho1.mod m4 (fun g hg => by cases hg; omega)
  have z8 := m4.size
  refine J_done ?_
  refine S_ret (E_doneC rfl rfl (run_loadVar_st st30 h2.at rfl) E ?_)
  exact ⟨_, rfl, OwS.widen ho1 (by have := E.size; omega) (by omega)⟩

set_option maxRecDepth 20000 in
theorem s_l01In (x : Int) (lo : Int) (hi : Int) (w : World)  : Ct Try.prog 50 [.int .i64 x, .int .i64 lo, .int .i64 hi] w (fun v _ => v = .bool (win x lo hi)) := by
  refine ct_of Try.func50 rfl Try.ntmps50 rfl ?_
  refine S_sub [(0, .int .i64 x), (1, .int .i64 lo), (2, .int .i64 hi)] ⟨rfl, rfl, rfl, trivial⟩ ?_
  have E : Ext w w := Ext.refl w
  refine S_seq ?_
  refine S_reg [true] rfl rfl ?_
  refine J_st (R_assign rfl) rfl (J_done ?_)
  refine S_seq ?_
  refine S_reg [true, true, true, true, true, true, true, true, true] rfl rfl ?_
  refine J_st (R_move rfl) rfl (J_st (R_move rfl) rfl (J_st (R_geq rfl rfl) rfl (J_st (R_move rfl) rfl ?_)))
  refine J_cut 4 [(0, .int .i64 x), (1, .int .i64 lo), (2, .int .i64 hi), (6, .bool false), (14, .bool ((decide (lo ≤ x)) && (decide (x ≤ hi))))] (fun w' => w = w') ?_ ?_
  · refine J_if (gd := 10) rfl rfl (fun hg1 => ?_) (fun hg1 => ?_)
    · refine J_gd rfl rfl (R_move rfl) rfl (J_gd rfl rfl (R_move rfl) rfl (J_gd rfl rfl (R_leq rfl rfl) rfl (J_st (R_pickT rfl rfl) rfl (J_cutEnd ⟨rfl, rfl, rfl, rfl, congrArg (fun b => some (Value.bool b)) (show (decide (x ≤ hi)) = ((decide (lo ≤ x)) && (decide (x ≤ hi))) by first | (rw [hg1] <;> rfl) | (simp [hg1]; done) | (simp only [nat_nlt] <;> simp)), trivial⟩ rfl))))
    · refine J_gdno rfl rfl rfl rfl (J_gdno rfl rfl rfl rfl (J_gdno rfl rfl rfl rfl (J_st (R_pickF rfl rfl) rfl (J_cutEnd ⟨rfl, rfl, rfl, rfl, congrArg (fun b => some (Value.bool b)) (show false = ((decide (lo ≤ x)) && (decide (x ≤ hi))) by first | (rw [hg1] <;> rfl) | (simp [hg1]; done) | (simp only [nat_nlt] <;> simp)), trivial⟩ rfl))))
  rintro _ rfl
  refine J_st (R_assign rfl) rfl (J_done ?_)
  refine S_ret (E_done1 rfl rfl E ?_)
  rfl

set_option maxRecDepth 20000 in
theorem c_within (x : Int) (lo : Int) (hi : Int) (w : World)  : Ct Try.prog 57 [.int .i64 x, .int .i64 lo, .int .i64 hi] w (fun v _ => v = .bool (win x lo hi)) := by
  refine ct_of Try.func57 rfl Try.ntmps57 rfl ?_
  refine S_sub [(0, .int .i64 x), (1, .int .i64 lo), (2, .int .i64 hi)] ⟨rfl, rfl, rfl, trivial⟩ ?_
  have E : Ext w w := Ext.refl w
  refine S_seq ?_
  refine S_reg [true] rfl rfl ?_
  refine J_st (R_assign rfl) rfl (J_done ?_)
  refine S_seq ?_
  refine S_reg [true, true, true, true, true, true, true, true, true] rfl rfl ?_
  refine J_st (R_move rfl) rfl (J_st (R_move rfl) rfl (J_st (R_geq rfl rfl) rfl (J_st (R_move rfl) rfl ?_)))
  refine J_cut 4 [(0, .int .i64 x), (1, .int .i64 lo), (2, .int .i64 hi), (6, .bool false), (14, .bool ((decide (lo ≤ x)) && (decide (x ≤ hi))))] (fun w' => w = w') ?_ ?_
  · refine J_if (gd := 10) rfl rfl (fun hg1 => ?_) (fun hg1 => ?_)
    · refine J_gd rfl rfl (R_move rfl) rfl (J_gd rfl rfl (R_move rfl) rfl (J_gd rfl rfl (R_leq rfl rfl) rfl (J_st (R_pickT rfl rfl) rfl (J_cutEnd ⟨rfl, rfl, rfl, rfl, congrArg (fun b => some (Value.bool b)) (show (decide (x ≤ hi)) = ((decide (lo ≤ x)) && (decide (x ≤ hi))) by first | (rw [hg1] <;> rfl) | (simp [hg1]; done) | (simp only [nat_nlt] <;> simp)), trivial⟩ rfl))))
    · refine J_gdno rfl rfl rfl rfl (J_gdno rfl rfl rfl rfl (J_gdno rfl rfl rfl rfl (J_st (R_pickF rfl rfl) rfl (J_cutEnd ⟨rfl, rfl, rfl, rfl, congrArg (fun b => some (Value.bool b)) (show false = ((decide (lo ≤ x)) && (decide (x ≤ hi))) by first | (rw [hg1] <;> rfl) | (simp [hg1]; done) | (simp only [nat_nlt] <;> simp)), trivial⟩ rfl))))
  rintro _ rfl
  refine J_st (R_assign rfl) rfl (J_done ?_)
  refine S_ret (E_done1 rfl rfl E ?_)
  rfl

set_option maxHeartbeats 4000000 in
set_option maxRecDepth 20000 in
theorem c_NodeOk (cx : List Value) (x : Node) (w : World) (hx : Dat.R w 0 w.heap.size cx x) : Ct Try.prog 58 [.agg cx.toArray] w (fun v _ => v = .bool (nodeOk x)) := by
  refine ct_of Try.func58 rfl Try.ntmps58 rfl ?_
  obtain ⟨o1, rfl, hd1⟩ := Node.op hx
  refine S_sub [(0, .agg [.int .i64 x.kind, .int .i64 x.a, .int .i64 x.b, o1].toArray)] ⟨rfl, trivial⟩ ?_
  have E : Ext w w := Ext.refl w
  refine S_seq ?_
  refine S_reg [false, true] rfl rfl ?_
  refine J_box rfl rfl (fun b1 w1 e1 s1 h1 => ?_)
  have g_b1 : w.heap.size ≤ b1 := by have := E.size; omega
  have y_b1 := h1.lt
  replace E := E.trans e1
  have z1 := e1.size
  refine J_st (R_assign rfl) rfl (J_done ?_)
  refine S_seq ?_
  refine S_seq ?_
  refine S_reg [true, true] rfl rfl ?_
  refine J_st (R_fieldAddr0 fl90_0 rfl) rfl (J_st (R_load sc3 rfl (h1.one 0 rfl)) rfl (J_done ?_))
  refine S_cutG (fun (_ : Unit) => [(1, .pointer (some ⟨b1, 0, none⟩)), (2, .bool false)]) (fun (_ : Unit) w' => Ext w w' ∧ w1.heap.size ≤ w'.heap.size ∧ Blk w' b1 ([.int .i64 x.kind, .int .i64 x.a, .int .i64 x.b, o1]) ∧ kindOk x = true) ?_ ?_
  · refine S_block ?_
    refine S_seq ?_
    refine S_reg [true, true] rfl rfl ?_
    refine J_st (R_eql rfl rfl) rfl (J_st (R_assign rfl) rfl (J_done ?_))
    refine S_cond rfl (fun hc1 => ?_) (fun hc1 => ?_)
    · refine S_seq ?_
      refine S_reg [true, true, false, true, true, true, true, true, true] rfl rfl ?_
      refine J_st (R_fieldAddr0 fl90_1 rfl) rfl (J_st (R_load sc3 rfl (h1.one 1 rfl)) rfl ?_)
      refine J_call Try.call57 rfl (c_within x.a 0 999 _ ) rfl (fun _ w2 e2 hv => ?_)
      subst hv
      replace E := E.trans e2; replace h1 := h1.ext e2
      have z3 := e2.size
      refine J_st (R_not rfl) rfl (J_st (R_move rfl) rfl ?_)
      refine J_cut 4 [(0, .agg [.int .i64 x.kind, .int .i64 x.a, .int .i64 x.b, o1].toArray), (1, .pointer (some ⟨b1, 0, none⟩)), (2, .bool false), (5, .pointer (some ⟨b1, 0, none⟩)), (6, .int .i64 x.kind), (7, .bool (x.kind == 2)), (8, .bool (x.kind == 2)), (17, .bool ((!(win x.a 0 999)) || (x.b != 0)))] (fun w' => w2 = w') ?_ ?_
      · refine J_if (gd := 13) rfl rfl (fun hg1 => ?_) (fun hg1 => ?_)
        · refine J_gdno rfl rfl rfl rfl (J_gdno rfl rfl rfl rfl (J_gdno rfl rfl rfl rfl (J_st (R_pickT rfl rfl) rfl (J_cutEnd ⟨rfl, rfl, rfl, rfl, rfl, rfl, rfl, congrArg (fun b => some (Value.bool b)) (show true = ((!(win x.a 0 999)) || (x.b != 0)) by first | (rw [hg1] <;> rfl) | (simp [hg1]; done) | (simp only [nat_nlt] <;> simp)), trivial⟩ rfl))))
        · refine J_gd rfl rfl (R_fieldAddr0 fl90_2 rfl) rfl (J_gd rfl rfl (R_load sc3 rfl (h1.one 2 rfl)) rfl (J_gd rfl rfl (R_neq rfl rfl) rfl (J_st (R_pickF rfl rfl) rfl (J_cutEnd ⟨rfl, rfl, rfl, rfl, rfl, rfl, rfl, congrArg (fun b => some (Value.bool b)) (show (x.b != 0) = ((!(win x.a 0 999)) || (x.b != 0)) by first | (rw [hg1] <;> rfl) | (simp [hg1]; done) | (simp only [nat_nlt] <;> simp)), trivial⟩ rfl))))
      rintro _ rfl
      refine J_done ?_
      refine S_cond rfl (fun hc2 => ?_) (fun hc2 => ?_)
      · refine S_seq ?_
        refine S_reg [true] rfl rfl ?_
        refine J_st (R_assign rfl) rfl (J_done ?_)
        refine S_ret (E_inB_ret (E_cut_ret (E_done1 rfl rfl E ?_)))
        exact node_k (by rw [node_2 (by assumption)]; exact kx (by assumption))
      · refine S_skip ?_
        refine S_nil (E_inB ?_)
        refine S_nil (E_cutG () ⟨rfl, rfl, trivial⟩ ⟨E, (by omega), h1, (by rw [node_2 (by assumption)]; exact ky (by assumption))⟩)
    · refine S_seq ?_
      refine S_reg [true, true] rfl rfl ?_
      refine J_st (R_eql rfl rfl) rfl (J_st (R_assign rfl) rfl (J_done ?_))
      refine S_cond rfl (fun hc3 => ?_) (fun hc3 => ?_)
      · refine S_seq ?_
        refine S_reg [true, true, false, true, true, true, true, true, true, true, false, true, true] rfl rfl ?_
        refine J_st (R_fieldAddr0 fl90_1 rfl) rfl (J_st (R_load sc3 rfl (h1.one 1 rfl)) rfl ?_)
        refine J_call Try.call57 rfl (c_within x.a 1 10 _ ) rfl (fun _ w4 e3 hv => ?_)
        subst hv
        replace E := E.trans e3; replace h1 := h1.ext e3
        have z4 := e3.size
        refine J_st (R_not rfl) rfl (J_st (R_move rfl) rfl ?_)
        refine J_cut 8 [(0, .agg [.int .i64 x.kind, .int .i64 x.a, .int .i64 x.b, o1].toArray), (1, .pointer (some ⟨b1, 0, none⟩)), (2, .bool false), (5, .pointer (some ⟨b1, 0, none⟩)), (6, .int .i64 x.kind), (7, .bool (x.kind == 2)), (8, .bool (x.kind == 2)), (18, .bool (x.kind == 3)), (19, .bool (x.kind == 3)), (32, .bool ((!(win x.a 1 10)) || (!(win x.b 0 (IntKind.i64.wrap (x.a - 1))))))] (fun w' => Ext w w' ∧ w4.heap.size ≤ w'.heap.size ∧ Blk w' b1 ([.int .i64 x.kind, .int .i64 x.a, .int .i64 x.b, o1])) ?_ ?_
        · refine J_if (gd := 24) rfl rfl (fun hg2 => ?_) (fun hg2 => ?_)
          · refine J_gdno rfl rfl rfl rfl (J_gdno rfl rfl rfl rfl (J_gdno rfl rfl rfl rfl (J_gdno rfl rfl rfl rfl (J_gdno rfl rfl rfl rfl ?_))))
            refine J_ungno rfl rfl rfl rfl ?_
            refine J_gdno rfl rfl rfl rfl (J_st (R_pickT rfl rfl) rfl (J_cutEnd ⟨rfl, rfl, rfl, rfl, rfl, rfl, rfl, rfl, rfl, congrArg (fun b => some (Value.bool b)) (show true = ((!(win x.a 1 10)) || (!(win x.b 0 (IntKind.i64.wrap (x.a - 1))))) by first | (rw [hg2] <;> rfl) | (simp [hg2]; done) | (simp only [nat_nlt] <;> simp)), trivial⟩ ⟨E, (by omega), h1⟩))
          · refine J_gd rfl rfl (R_fieldAddr0 fl90_2 rfl) rfl (J_gd rfl rfl (R_load sc3 rfl (h1.one 2 rfl)) rfl (J_gd rfl rfl (R_fieldAddr0 fl90_1 rfl) rfl (J_gd rfl rfl (R_load sc3 rfl (h1.one 1 rfl)) rfl (J_gd rfl rfl (R_sub rfl rfl rfl) rfl ?_))))
            refine J_ung rfl rfl ?_
            refine J_call Try.call57 rfl (c_within x.b 0 (IntKind.i64.wrap (x.a - 1)) _ ) rfl (fun _ w6 e4 hv => ?_)
            subst hv
            replace E := E.trans e4; replace h1 := h1.ext e4
            have z5 := e4.size
            refine J_gd rfl rfl (R_not rfl) rfl (J_st (R_pickF rfl rfl) rfl (J_cutEnd ⟨rfl, rfl, rfl, rfl, rfl, rfl, rfl, rfl, rfl, congrArg (fun b => some (Value.bool b)) (show (!(win x.b 0 (IntKind.i64.wrap (x.a - 1)))) = ((!(win x.a 1 10)) || (!(win x.b 0 (IntKind.i64.wrap (x.a - 1))))) by first | (rw [hg2] <;> rfl) | (simp [hg2]; done) | (simp only [nat_nlt] <;> simp)), trivial⟩ ⟨E, (by omega), h1⟩))
        clear E h1
        rintro w5 ⟨E, z6, h1⟩
        refine J_done ?_
        refine S_cond rfl (fun hc4 => ?_) (fun hc4 => ?_)
        · refine S_seq ?_
          refine S_reg [true] rfl rfl ?_
          refine J_st (R_assign rfl) rfl (J_done ?_)
          refine S_ret (E_inB_ret (E_cut_ret (E_done1 rfl rfl E ?_)))
          exact node_k (by rw [node_3 (by assumption)]; exact kx (by assumption))
        · refine S_skip ?_
          refine S_nil (E_inB ?_)
          refine S_nil (E_cutG () ⟨rfl, rfl, trivial⟩ ⟨E, (by omega), h1, (by rw [node_3 (by assumption)]; exact ky (by assumption))⟩)
      · refine S_seq ?_
        refine S_reg [true, true] rfl rfl ?_
        refine J_st (R_eql rfl rfl) rfl (J_st (R_assign rfl) rfl (J_done ?_))
        refine S_cond rfl (fun hc5 => ?_) (fun hc5 => ?_)
        · refine S_seq ?_
          refine S_reg [true, true, false, true, true, true, true, true, true] rfl rfl ?_
          refine J_st (R_fieldAddr0 fl90_1 rfl) rfl (J_st (R_load sc3 rfl (h1.one 1 rfl)) rfl ?_)
          refine J_call Try.call57 rfl (c_within x.a 0 99 _ ) rfl (fun _ w7 e5 hv => ?_)
          subst hv
          replace E := E.trans e5; replace h1 := h1.ext e5
          have z7 := e5.size
          refine J_st (R_not rfl) rfl (J_st (R_move rfl) rfl ?_)
          refine J_cut 4 [(0, .agg [.int .i64 x.kind, .int .i64 x.a, .int .i64 x.b, o1].toArray), (1, .pointer (some ⟨b1, 0, none⟩)), (2, .bool false), (5, .pointer (some ⟨b1, 0, none⟩)), (6, .int .i64 x.kind), (7, .bool (x.kind == 2)), (8, .bool (x.kind == 2)), (18, .bool (x.kind == 3)), (19, .bool (x.kind == 3)), (33, .bool (x.kind == 4)), (34, .bool (x.kind == 4)), (43, .bool ((!(win x.a 0 99)) || (x.b != 0)))] (fun w' => w7 = w') ?_ ?_
          · refine J_if (gd := 39) rfl rfl (fun hg3 => ?_) (fun hg3 => ?_)
            · refine J_gdno rfl rfl rfl rfl (J_gdno rfl rfl rfl rfl (J_gdno rfl rfl rfl rfl (J_st (R_pickT rfl rfl) rfl (J_cutEnd ⟨rfl, rfl, rfl, rfl, rfl, rfl, rfl, rfl, rfl, rfl, rfl, congrArg (fun b => some (Value.bool b)) (show true = ((!(win x.a 0 99)) || (x.b != 0)) by first | (rw [hg3] <;> rfl) | (simp [hg3]; done) | (simp only [nat_nlt] <;> simp)), trivial⟩ rfl))))
            · refine J_gd rfl rfl (R_fieldAddr0 fl90_2 rfl) rfl (J_gd rfl rfl (R_load sc3 rfl (h1.one 2 rfl)) rfl (J_gd rfl rfl (R_neq rfl rfl) rfl (J_st (R_pickF rfl rfl) rfl (J_cutEnd ⟨rfl, rfl, rfl, rfl, rfl, rfl, rfl, rfl, rfl, rfl, rfl, congrArg (fun b => some (Value.bool b)) (show (x.b != 0) = ((!(win x.a 0 99)) || (x.b != 0)) by first | (rw [hg3] <;> rfl) | (simp [hg3]; done) | (simp only [nat_nlt] <;> simp)), trivial⟩ rfl))))
          rintro _ rfl
          refine J_done ?_
          refine S_cond rfl (fun hc6 => ?_) (fun hc6 => ?_)
          · refine S_seq ?_
            refine S_reg [true] rfl rfl ?_
            refine J_st (R_assign rfl) rfl (J_done ?_)
            refine S_ret (E_inB_ret (E_cut_ret (E_done1 rfl rfl E ?_)))
            exact node_k (by rw [node_4 (by assumption)]; exact kx (by assumption))
          · refine S_skip ?_
            refine S_nil (E_inB ?_)
            refine S_nil (E_cutG () ⟨rfl, rfl, trivial⟩ ⟨E, (by omega), h1, (by rw [node_4 (by assumption)]; exact ky (by assumption))⟩)
        · refine S_seq ?_
          refine S_seq ?_
          refine S_reg [true, true] rfl rfl ?_
          refine J_st (R_eql rfl rfl) rfl (J_st (R_assign rfl) rfl (J_done ?_))
          refine S_cond rfl (fun hc7 => ?_) (fun hc7 => ?_)
          · refine S_skip ?_
            refine S_condTe rfl hc7 ?_
            refine S_seq ?_
            refine S_reg [true, true, true, true, true, true, true, true] rfl rfl ?_
            refine J_st (R_fieldAddr0 fl90_1 rfl) rfl (J_st (R_load sc3 rfl (h1.one 1 rfl)) rfl (J_st (R_neq rfl rfl) rfl (J_st (R_move rfl) rfl ?_)))
            refine J_cut 4 [(0, .agg [.int .i64 x.kind, .int .i64 x.a, .int .i64 x.b, o1].toArray), (1, .pointer (some ⟨b1, 0, none⟩)), (2, .bool false), (5, .pointer (some ⟨b1, 0, none⟩)), (6, .int .i64 x.kind), (7, .bool (x.kind == 2)), (8, .bool (x.kind == 2)), (18, .bool (x.kind == 3)), (19, .bool (x.kind == 3)), (33, .bool (x.kind == 4)), (34, .bool (x.kind == 4)), (44, .bool (x.kind == 1)), (45, .bool (x.kind == 1)), (57, .bool ((x.a != 0) || (x.b != 0)))] (fun w' => w1 = w') ?_ ?_
            · refine J_if (gd := 53) rfl rfl (fun hg4 => ?_) (fun hg4 => ?_)
              · refine J_gdno rfl rfl rfl rfl (J_gdno rfl rfl rfl rfl (J_gdno rfl rfl rfl rfl (J_st (R_pickT rfl rfl) rfl (J_cutEnd ⟨rfl, rfl, rfl, rfl, rfl, rfl, rfl, rfl, rfl, rfl, rfl, rfl, rfl, congrArg (fun b => some (Value.bool b)) (show true = ((x.a != 0) || (x.b != 0)) by first | (rw [hg4] <;> rfl) | (simp [hg4]; done) | (simp only [nat_nlt] <;> simp)), trivial⟩ rfl))))
              · refine J_gd rfl rfl (R_fieldAddr0 fl90_2 rfl) rfl (J_gd rfl rfl (R_load sc3 rfl (h1.one 2 rfl)) rfl (J_gd rfl rfl (R_neq rfl rfl) rfl (J_st (R_pickF rfl rfl) rfl (J_cutEnd ⟨rfl, rfl, rfl, rfl, rfl, rfl, rfl, rfl, rfl, rfl, rfl, rfl, rfl, congrArg (fun b => some (Value.bool b)) (show (x.b != 0) = ((x.a != 0) || (x.b != 0)) by first | (rw [hg4] <;> rfl) | (simp [hg4]; done) | (simp only [nat_nlt] <;> simp)), trivial⟩ rfl))))
            rintro _ rfl
            refine J_done ?_
            refine S_cond rfl (fun hc8 => ?_) (fun hc8 => ?_)
            · refine S_seq ?_
              refine S_reg [true] rfl rfl ?_
              refine J_st (R_assign rfl) rfl (J_done ?_)
              refine S_ret (E_inB_ret (E_cut_ret (E_done1 rfl rfl E ?_)))
              exact node_k (by rw [node_0 (by assumption) (by assumption) (by assumption)]; exact kx0 (by assumption))
            · refine S_skip ?_
              refine S_nil (E_inB ?_)
              refine S_nil (E_cutG () ⟨rfl, rfl, trivial⟩ ⟨E, (by omega), h1, (by rw [node_0 (by assumption) (by assumption) (by assumption)]; exact ky0 (by assumption) (win_kind (by simp at *; omega)))⟩)
          · refine S_seq ?_
            refine S_reg [true, true] rfl rfl ?_
            refine J_st (R_eql rfl rfl) rfl (J_st (R_assign rfl) rfl (J_done ?_))
            refine S_cond rfl (fun hc9 => ?_) (fun hc9 => ?_)
            · refine S_skip ?_
              refine S_condTe rfl hc9 ?_
              refine S_seq ?_
              refine S_reg [true, true, true, true, true, true, true, true] rfl rfl ?_
              refine J_st (R_fieldAddr0 fl90_1 rfl) rfl (J_st (R_load sc3 rfl (h1.one 1 rfl)) rfl (J_st (R_neq rfl rfl) rfl (J_st (R_move rfl) rfl ?_)))
              refine J_cut 4 [(0, .agg [.int .i64 x.kind, .int .i64 x.a, .int .i64 x.b, o1].toArray), (1, .pointer (some ⟨b1, 0, none⟩)), (2, .bool false), (5, .pointer (some ⟨b1, 0, none⟩)), (6, .int .i64 x.kind), (7, .bool (x.kind == 2)), (8, .bool (x.kind == 2)), (18, .bool (x.kind == 3)), (19, .bool (x.kind == 3)), (33, .bool (x.kind == 4)), (34, .bool (x.kind == 4)), (44, .bool (x.kind == 5)), (45, .bool (x.kind == 1)), (46, .bool (x.kind == 5)), (57, .bool ((x.a != 0) || (x.b != 0)))] (fun w' => w1 = w') ?_ ?_
              · refine J_if (gd := 53) rfl rfl (fun hg5 => ?_) (fun hg5 => ?_)
                · refine J_gdno rfl rfl rfl rfl (J_gdno rfl rfl rfl rfl (J_gdno rfl rfl rfl rfl (J_st (R_pickT rfl rfl) rfl (J_cutEnd ⟨rfl, rfl, rfl, rfl, rfl, rfl, rfl, rfl, rfl, rfl, rfl, rfl, rfl, rfl, congrArg (fun b => some (Value.bool b)) (show true = ((x.a != 0) || (x.b != 0)) by first | (rw [hg5] <;> rfl) | (simp [hg5]; done) | (simp only [nat_nlt] <;> simp)), trivial⟩ rfl))))
                · refine J_gd rfl rfl (R_fieldAddr0 fl90_2 rfl) rfl (J_gd rfl rfl (R_load sc3 rfl (h1.one 2 rfl)) rfl (J_gd rfl rfl (R_neq rfl rfl) rfl (J_st (R_pickF rfl rfl) rfl (J_cutEnd ⟨rfl, rfl, rfl, rfl, rfl, rfl, rfl, rfl, rfl, rfl, rfl, rfl, rfl, rfl, congrArg (fun b => some (Value.bool b)) (show (x.b != 0) = ((x.a != 0) || (x.b != 0)) by first | (rw [hg5] <;> rfl) | (simp [hg5]; done) | (simp only [nat_nlt] <;> simp)), trivial⟩ rfl))))
              rintro _ rfl
              refine J_done ?_
              refine S_cond rfl (fun hc10 => ?_) (fun hc10 => ?_)
              · refine S_seq ?_
                refine S_reg [true] rfl rfl ?_
                refine J_st (R_assign rfl) rfl (J_done ?_)
                refine S_ret (E_inB_ret (E_cut_ret (E_done1 rfl rfl E ?_)))
                exact node_k (by rw [node_0 (by assumption) (by assumption) (by assumption)]; exact kx0 (by assumption))
              · refine S_skip ?_
                refine S_nil (E_inB ?_)
                refine S_nil (E_cutG () ⟨rfl, rfl, trivial⟩ ⟨E, (by omega), h1, (by rw [node_0 (by assumption) (by assumption) (by assumption)]; exact ky0 (by assumption) (win_kind (by simp at *; omega)))⟩)
            · refine S_seq ?_
              refine S_reg [true, true] rfl rfl ?_
              refine J_st (R_eql rfl rfl) rfl (J_st (R_assign rfl) rfl (J_done ?_))
              refine S_cond rfl (fun hc11 => ?_) (fun hc11 => ?_)
              · refine S_skip ?_
                refine S_condTe rfl hc11 ?_
                refine S_seq ?_
                refine S_reg [true, true, true, true, true, true, true, true] rfl rfl ?_
                refine J_st (R_fieldAddr0 fl90_1 rfl) rfl (J_st (R_load sc3 rfl (h1.one 1 rfl)) rfl (J_st (R_neq rfl rfl) rfl (J_st (R_move rfl) rfl ?_)))
                refine J_cut 4 [(0, .agg [.int .i64 x.kind, .int .i64 x.a, .int .i64 x.b, o1].toArray), (1, .pointer (some ⟨b1, 0, none⟩)), (2, .bool false), (5, .pointer (some ⟨b1, 0, none⟩)), (6, .int .i64 x.kind), (7, .bool (x.kind == 2)), (8, .bool (x.kind == 2)), (18, .bool (x.kind == 3)), (19, .bool (x.kind == 3)), (33, .bool (x.kind == 4)), (34, .bool (x.kind == 4)), (44, .bool (x.kind == 6)), (45, .bool (x.kind == 1)), (46, .bool (x.kind == 5)), (47, .bool (x.kind == 6)), (57, .bool ((x.a != 0) || (x.b != 0)))] (fun w' => w1 = w') ?_ ?_
                · refine J_if (gd := 53) rfl rfl (fun hg6 => ?_) (fun hg6 => ?_)
                  · refine J_gdno rfl rfl rfl rfl (J_gdno rfl rfl rfl rfl (J_gdno rfl rfl rfl rfl (J_st (R_pickT rfl rfl) rfl (J_cutEnd ⟨rfl, rfl, rfl, rfl, rfl, rfl, rfl, rfl, rfl, rfl, rfl, rfl, rfl, rfl, rfl, congrArg (fun b => some (Value.bool b)) (show true = ((x.a != 0) || (x.b != 0)) by first | (rw [hg6] <;> rfl) | (simp [hg6]; done) | (simp only [nat_nlt] <;> simp)), trivial⟩ rfl))))
                  · refine J_gd rfl rfl (R_fieldAddr0 fl90_2 rfl) rfl (J_gd rfl rfl (R_load sc3 rfl (h1.one 2 rfl)) rfl (J_gd rfl rfl (R_neq rfl rfl) rfl (J_st (R_pickF rfl rfl) rfl (J_cutEnd ⟨rfl, rfl, rfl, rfl, rfl, rfl, rfl, rfl, rfl, rfl, rfl, rfl, rfl, rfl, rfl, congrArg (fun b => some (Value.bool b)) (show (x.b != 0) = ((x.a != 0) || (x.b != 0)) by first | (rw [hg6] <;> rfl) | (simp [hg6]; done) | (simp only [nat_nlt] <;> simp)), trivial⟩ rfl))))
                rintro _ rfl
                refine J_done ?_
                refine S_cond rfl (fun hc12 => ?_) (fun hc12 => ?_)
                · refine S_seq ?_
                  refine S_reg [true] rfl rfl ?_
                  refine J_st (R_assign rfl) rfl (J_done ?_)
                  refine S_ret (E_inB_ret (E_cut_ret (E_done1 rfl rfl E ?_)))
                  exact node_k (by rw [node_0 (by assumption) (by assumption) (by assumption)]; exact kx0 (by assumption))
                · refine S_skip ?_
                  refine S_nil (E_inB ?_)
                  refine S_nil (E_cutG () ⟨rfl, rfl, trivial⟩ ⟨E, (by omega), h1, (by rw [node_0 (by assumption) (by assumption) (by assumption)]; exact ky0 (by assumption) (win_kind (by simp at *; omega)))⟩)
              · refine S_seq ?_
                refine S_reg [true, true] rfl rfl ?_
                refine J_st (R_eql rfl rfl) rfl (J_st (R_assign rfl) rfl (J_done ?_))
                refine S_cond rfl (fun hc13 => ?_) (fun hc13 => ?_)
                · refine S_skip ?_
                  refine S_condTe rfl hc13 ?_
                  refine S_seq ?_
                  refine S_reg [true, true, true, true, true, true, true, true] rfl rfl ?_
                  refine J_st (R_fieldAddr0 fl90_1 rfl) rfl (J_st (R_load sc3 rfl (h1.one 1 rfl)) rfl (J_st (R_neq rfl rfl) rfl (J_st (R_move rfl) rfl ?_)))
                  refine J_cut 4 [(0, .agg [.int .i64 x.kind, .int .i64 x.a, .int .i64 x.b, o1].toArray), (1, .pointer (some ⟨b1, 0, none⟩)), (2, .bool false), (5, .pointer (some ⟨b1, 0, none⟩)), (6, .int .i64 x.kind), (7, .bool (x.kind == 2)), (8, .bool (x.kind == 2)), (18, .bool (x.kind == 3)), (19, .bool (x.kind == 3)), (33, .bool (x.kind == 4)), (34, .bool (x.kind == 4)), (44, .bool (x.kind == 7)), (45, .bool (x.kind == 1)), (46, .bool (x.kind == 5)), (47, .bool (x.kind == 6)), (48, .bool (x.kind == 7)), (57, .bool ((x.a != 0) || (x.b != 0)))] (fun w' => w1 = w') ?_ ?_
                  · refine J_if (gd := 53) rfl rfl (fun hg7 => ?_) (fun hg7 => ?_)
                    · refine J_gdno rfl rfl rfl rfl (J_gdno rfl rfl rfl rfl (J_gdno rfl rfl rfl rfl (J_st (R_pickT rfl rfl) rfl (J_cutEnd ⟨rfl, rfl, rfl, rfl, rfl, rfl, rfl, rfl, rfl, rfl, rfl, rfl, rfl, rfl, rfl, rfl, congrArg (fun b => some (Value.bool b)) (show true = ((x.a != 0) || (x.b != 0)) by first | (rw [hg7] <;> rfl) | (simp [hg7]; done) | (simp only [nat_nlt] <;> simp)), trivial⟩ rfl))))
                    · refine J_gd rfl rfl (R_fieldAddr0 fl90_2 rfl) rfl (J_gd rfl rfl (R_load sc3 rfl (h1.one 2 rfl)) rfl (J_gd rfl rfl (R_neq rfl rfl) rfl (J_st (R_pickF rfl rfl) rfl (J_cutEnd ⟨rfl, rfl, rfl, rfl, rfl, rfl, rfl, rfl, rfl, rfl, rfl, rfl, rfl, rfl, rfl, rfl, congrArg (fun b => some (Value.bool b)) (show (x.b != 0) = ((x.a != 0) || (x.b != 0)) by first | (rw [hg7] <;> rfl) | (simp [hg7]; done) | (simp only [nat_nlt] <;> simp)), trivial⟩ rfl))))
                  rintro _ rfl
                  refine J_done ?_
                  refine S_cond rfl (fun hc14 => ?_) (fun hc14 => ?_)
                  · refine S_seq ?_
                    refine S_reg [true] rfl rfl ?_
                    refine J_st (R_assign rfl) rfl (J_done ?_)
                    refine S_ret (E_inB_ret (E_cut_ret (E_done1 rfl rfl E ?_)))
                    exact node_k (by rw [node_0 (by assumption) (by assumption) (by assumption)]; exact kx0 (by assumption))
                  · refine S_skip ?_
                    refine S_nil (E_inB ?_)
                    refine S_nil (E_cutG () ⟨rfl, rfl, trivial⟩ ⟨E, (by omega), h1, (by rw [node_0 (by assumption) (by assumption) (by assumption)]; exact ky0 (by assumption) (win_kind (by simp at *; omega)))⟩)
                · refine S_reg [true, true] rfl rfl ?_
                  refine J_st (R_eql rfl rfl) rfl (J_st (R_assign rfl) rfl (J_done ?_))
                  refine S_cond rfl (fun hc15 => ?_) (fun hc15 => ?_)
                  · refine S_seq ?_
                    refine S_reg [true, true, true, true, true, true, true, true] rfl rfl ?_
                    refine J_st (R_fieldAddr0 fl90_1 rfl) rfl (J_st (R_load sc3 rfl (h1.one 1 rfl)) rfl (J_st (R_neq rfl rfl) rfl (J_st (R_move rfl) rfl ?_)))
                    refine J_cut 4 [(0, .agg [.int .i64 x.kind, .int .i64 x.a, .int .i64 x.b, o1].toArray), (1, .pointer (some ⟨b1, 0, none⟩)), (2, .bool false), (5, .pointer (some ⟨b1, 0, none⟩)), (6, .int .i64 x.kind), (7, .bool (x.kind == 2)), (8, .bool (x.kind == 2)), (18, .bool (x.kind == 3)), (19, .bool (x.kind == 3)), (33, .bool (x.kind == 4)), (34, .bool (x.kind == 4)), (44, .bool (x.kind == 8)), (45, .bool (x.kind == 1)), (46, .bool (x.kind == 5)), (47, .bool (x.kind == 6)), (48, .bool (x.kind == 7)), (49, .bool (x.kind == 8)), (57, .bool ((x.a != 0) || (x.b != 0)))] (fun w' => w1 = w') ?_ ?_
                    · refine J_if (gd := 53) rfl rfl (fun hg8 => ?_) (fun hg8 => ?_)
                      · refine J_gdno rfl rfl rfl rfl (J_gdno rfl rfl rfl rfl (J_gdno rfl rfl rfl rfl (J_st (R_pickT rfl rfl) rfl (J_cutEnd ⟨rfl, rfl, rfl, rfl, rfl, rfl, rfl, rfl, rfl, rfl, rfl, rfl, rfl, rfl, rfl, rfl, rfl, congrArg (fun b => some (Value.bool b)) (show true = ((x.a != 0) || (x.b != 0)) by first | (rw [hg8] <;> rfl) | (simp [hg8]; done) | (simp only [nat_nlt] <;> simp)), trivial⟩ rfl))))
                      · refine J_gd rfl rfl (R_fieldAddr0 fl90_2 rfl) rfl (J_gd rfl rfl (R_load sc3 rfl (h1.one 2 rfl)) rfl (J_gd rfl rfl (R_neq rfl rfl) rfl (J_st (R_pickF rfl rfl) rfl (J_cutEnd ⟨rfl, rfl, rfl, rfl, rfl, rfl, rfl, rfl, rfl, rfl, rfl, rfl, rfl, rfl, rfl, rfl, rfl, congrArg (fun b => some (Value.bool b)) (show (x.b != 0) = ((x.a != 0) || (x.b != 0)) by first | (rw [hg8] <;> rfl) | (simp [hg8]; done) | (simp only [nat_nlt] <;> simp)), trivial⟩ rfl))))
                    rintro _ rfl
                    refine J_done ?_
                    refine S_cond rfl (fun hc16 => ?_) (fun hc16 => ?_)
                    · refine S_seq ?_
                      refine S_reg [true] rfl rfl ?_
                      refine J_st (R_assign rfl) rfl (J_done ?_)
                      refine S_ret (E_inB_ret (E_cut_ret (E_done1 rfl rfl E ?_)))
                      exact node_k (by rw [node_0 (by assumption) (by assumption) (by assumption)]; exact kx0 (by assumption))
                    · refine S_skip ?_
                      refine S_nil (E_inB ?_)
                      refine S_nil (E_cutG () ⟨rfl, rfl, trivial⟩ ⟨E, (by omega), h1, (by rw [node_0 (by assumption) (by assumption) (by assumption)]; exact ky0 (by assumption) (win_kind (by simp at *; omega)))⟩)
                  · refine S_seq ?_
                    refine S_reg [true] rfl rfl ?_
                    refine J_st (R_assign rfl) rfl (J_done ?_)
                    refine S_ret (E_inB_ret (E_cut_ret (E_done1 rfl rfl E ?_)))
                    exact node_k (by rw [node_0 (by assumption) (by assumption) (by assumption), win_not (by simp at *; omega)]; rfl)
  · clear E h1
    rintro _ w14 ⟨E, z2, h1, hkk⟩
    refine S_seq ?_
    refine S_seq ?_
    refine S_regD mixed [(0, true), (1, true), (2, true), (3, true), (4, true), (5, true), (6, true), (7, true), (8, true), (9, true), (10, true), (11, true), (12, true), (13, true), (14, true), (15, true), (16, true), (17, true), (18, true), (19, true), (20, true), (21, true), (22, true), (23, true), (24, true), (25, true), (26, true), (27, true), (28, true), (29, true), (30, true), (31, true)] (by decide +kernel) rfl (fun w15 e6 => ?_)
    replace E := E.trans e6; replace h1 := h1.ext e6
    have z8 := e6.size
    refine J_st (R_fieldAddr0 fl90_3 rfl) rfl (J_st (R_load sc58 rfl (h1.one 3 rfl)) rfl (J_st (R_len Try.underlying58 rfl (hd1.ext E).len) rfl (J_st (R_gtr rfl rfl) rfl (J_st (R_move rfl) rfl ?_))))
    refine J_cut 27 [(1, .pointer (some ⟨b1, 0, none⟩)), (2, .bool false), (89, .bool (((decide (2 < ((x.outs.length : Nat) : Int))) || ((x.kind == 8) && (decide (0 < ((x.outs.length : Nat) : Int))))) || ((((x.outs.length : Nat) : Int) == 2) && ((List.getD x.outs 0 default) == (List.getD x.outs 1 default)))))] (fun w' => w15 = w') ?_ ?_
    · refine J_if (gd := 62) rfl rfl (fun hg9 => ?_) (fun hg9 => ?_)
      · have hg9n : x.outs.length > 2 := by first | (have h := of_decide_eq_true hg9; omega) | (have h := hg9; simp at h; omega)
        refine J_gdno rfl rfl rfl rfl (J_gdno rfl rfl rfl rfl (J_gdno rfl rfl rfl rfl (J_gdno rfl rfl rfl rfl (J_gdx rfl rfl rfl (J_gdx rfl rfl rfl (J_gdx rfl rfl rfl (J_gdx rfl rfl rfl (J_gdno rfl rfl rfl rfl (J_st (R_pickT rfl rfl) rfl (J_st (R_move rfl) rfl (J_gdno rfl rfl rfl rfl (J_gdno rfl rfl rfl rfl (J_gdno rfl rfl rfl rfl (J_gdno rfl rfl rfl rfl (J_gdno rfl rfl rfl rfl (J_gdx rfl rfl rfl (J_gdx rfl rfl rfl (J_gdx rfl rfl rfl (J_gdx rfl rfl rfl (J_gdx rfl rfl rfl (J_gdx rfl rfl rfl (J_gdx rfl rfl rfl (J_gdx rfl rfl rfl (J_gdx rfl rfl rfl (J_gdno rfl rfl rfl rfl (J_st (R_pickT rfl rfl) rfl (J_cutEnd ⟨rfl, rfl, congrArg (fun b => some (Value.bool b)) (show true = (((decide (2 < ((x.outs.length : Nat) : Int))) || ((x.kind == 8) && (decide (0 < ((x.outs.length : Nat) : Int))))) || ((((x.outs.length : Nat) : Int) == 2) && ((List.getD x.outs 0 default) == (List.getD x.outs 1 default)))) by first | (rw [hg9] <;> rfl) | (simp [hg9]; done) | (simp only [nat_nlt] <;> simp)), trivial⟩ rfl)))))))))))))))))))))))))))
      · have hg9n : ¬ x.outs.length > 2 := by first | (have h := of_decide_eq_false hg9; omega) | (have h := hg9; simp at h; omega)
        refine J_gd rfl rfl (R_fieldAddr0 fl90_0 rfl) rfl (J_gd rfl rfl (R_load sc3 rfl (h1.one 0 rfl)) rfl (J_gd rfl rfl (R_eql rfl rfl) rfl (J_gd rfl rfl (R_move rfl) rfl ?_)))
        refine J_if (gd := 66) rfl rfl (fun hg10 => ?_) (fun hg10 => ?_)
        · refine J_gd rfl rfl (R_fieldAddr0 fl90_3 rfl) rfl (J_gd rfl rfl (R_load sc58 rfl (h1.one 3 rfl)) rfl (J_gd rfl rfl (R_len Try.underlying58 rfl (hd1.ext E).len) rfl (J_gd rfl rfl (R_gtr rfl rfl) rfl (J_gd rfl rfl (R_pickT rfl rfl) rfl (J_st (R_pickF rfl rfl) rfl (J_st (R_move rfl) rfl ?_))))))
          refine J_if (gd := 73) rfl rfl (fun hg11 => ?_) (fun hg11 => ?_)
          · have hg11n : x.outs.length > 0 := by first | (have h := of_decide_eq_true hg11; omega) | (have h := hg11; simp at h; omega)
            refine J_gdno rfl rfl rfl rfl (J_gdno rfl rfl rfl rfl (J_gdno rfl rfl rfl rfl (J_gdno rfl rfl rfl rfl (J_gdno rfl rfl rfl rfl (J_gdx rfl rfl rfl (J_gdx rfl rfl rfl (J_gdx rfl rfl rfl (J_gdx rfl rfl rfl (J_gdx rfl rfl rfl (J_gdx rfl rfl rfl (J_gdx rfl rfl rfl (J_gdx rfl rfl rfl (J_gdx rfl rfl rfl (J_gdno rfl rfl rfl rfl (J_st (R_pickT rfl rfl) rfl (J_cutEnd ⟨rfl, rfl, congrArg (fun b => some (Value.bool b)) (show true = (((decide (2 < ((x.outs.length : Nat) : Int))) || ((x.kind == 8) && (decide (0 < ((x.outs.length : Nat) : Int))))) || ((((x.outs.length : Nat) : Int) == 2) && ((List.getD x.outs 0 default) == (List.getD x.outs 1 default)))) by first | (rw [hg9, hg10, hg11] <;> rfl) | (simp [hg9, hg10, hg11]; done) | (simp only [nat_nlt] <;> simp)), trivial⟩ rfl))))))))))))))))
          · have hg11n : ¬ x.outs.length > 0 := by first | (have h := of_decide_eq_false hg11; omega) | (have h := hg11; simp at h; omega)
            refine J_gd rfl rfl (R_fieldAddr0 fl90_3 rfl) rfl (J_gd rfl rfl (R_load sc58 rfl (h1.one 3 rfl)) rfl (J_gd rfl rfl (R_len Try.underlying58 rfl (hd1.ext E).len) rfl (J_gd rfl rfl (R_eql rfl rfl) rfl (J_gd rfl rfl (R_move rfl) rfl ?_))))
            refine J_if (gd := 78) rfl rfl (fun hg12 => ?_) (fun hg12 => ?_)
            · have hg12n : x.outs.length = 2 := by first | (have h := of_decide_eq_true hg12; omega) | (have h := hg12; simp at h; omega)
              refine J_gd rfl rfl (R_fieldAddr0 fl90_3 rfl) rfl (J_gd rfl rfl (R_load sc58 rfl (h1.one 3 rfl)) rfl (J_gd rfl rfl (R_index (i := 0) sl58 rfl rfl (hd1.rd.ext E) (by first | assumption | omega | (simp only [List.length_set]; first | assumption | omega) | (simp only [List.getElem_set_self, List.length_set]; first | assumption | omega) | (simp only [setW, setLk, List.length_set]; first | assumption | omega))) rfl (J_gd rfl rfl (R_load sc3 rfl ((RdS.getD (hd1.rd.ext E) (i := 0) (by first | assumption | omega | (simp only [List.length_set]; first | assumption | omega) | (simp only [List.getElem_set_self, List.length_set]; first | assumption | omega) | (simp only [setW, setLk, List.length_set]; first | assumption | omega))).one 0 rfl)) rfl (J_gd rfl rfl (R_fieldAddr0 fl90_3 rfl) rfl (J_gd rfl rfl (R_load sc58 rfl (h1.one 3 rfl)) rfl (J_gd rfl rfl (R_index (i := 1) sl58 rfl rfl (hd1.rd.ext E) (by first | assumption | omega | (simp only [List.length_set]; first | assumption | omega) | (simp only [List.getElem_set_self, List.length_set]; first | assumption | omega) | (simp only [setW, setLk, List.length_set]; first | assumption | omega))) rfl (J_gd rfl rfl (R_load sc3 rfl ((RdS.getD (hd1.rd.ext E) (i := 1) (by first | assumption | omega | (simp only [List.length_set]; first | assumption | omega) | (simp only [List.getElem_set_self, List.length_set]; first | assumption | omega) | (simp only [setW, setLk, List.length_set]; first | assumption | omega))).one 0 rfl)) rfl (J_gd rfl rfl (R_eql rfl rfl) rfl (J_gd rfl rfl (R_pickT rfl rfl) rfl (J_st (R_pickF rfl rfl) rfl (J_cutEnd ⟨rfl, rfl, congrArg (fun b => some (Value.bool b)) (show ((List.getD x.outs 0 default) == (List.getD x.outs 1 default)) = (((decide (2 < ((x.outs.length : Nat) : Int))) || ((x.kind == 8) && (decide (0 < ((x.outs.length : Nat) : Int))))) || ((((x.outs.length : Nat) : Int) == 2) && ((List.getD x.outs 0 default) == (List.getD x.outs 1 default)))) by first | (rw [hg9, hg10, hg11, hg12] <;> rfl) | (simp [hg9, hg10, hg11, hg12]; done) | (simp only [nat_nlt] <;> simp)), trivial⟩ rfl)))))))))))
            · have hg12n : ¬ x.outs.length = 2 := by first | (have h := of_decide_eq_false hg12; omega) | (have h := hg12; simp at h; omega)
              refine J_gdno rfl rfl rfl rfl (J_gdno rfl rfl rfl rfl (J_gdno rfl rfl rfl rfl (J_gdno rfl rfl rfl rfl (J_gdno rfl rfl rfl rfl (J_gdno rfl rfl rfl rfl (J_gdno rfl rfl rfl rfl (J_gdno rfl rfl rfl rfl (J_gdno rfl rfl rfl rfl (J_gd rfl rfl (R_pickF rfl rfl) rfl (J_st (R_pickF rfl rfl) rfl (J_cutEnd ⟨rfl, rfl, congrArg (fun b => some (Value.bool b)) (show false = (((decide (2 < ((x.outs.length : Nat) : Int))) || ((x.kind == 8) && (decide (0 < ((x.outs.length : Nat) : Int))))) || ((((x.outs.length : Nat) : Int) == 2) && ((List.getD x.outs 0 default) == (List.getD x.outs 1 default)))) by first | (rw [hg9, hg10, hg11, hg12] <;> rfl) | (simp [hg9, hg10, hg11, hg12]; done) | (simp only [nat_nlt] <;> simp)), trivial⟩ rfl)))))))))))
        · refine J_gdno rfl rfl rfl rfl (J_gdno rfl rfl rfl rfl (J_gdno rfl rfl rfl rfl (J_gdno rfl rfl rfl rfl (J_gd rfl rfl (R_pickF rfl rfl) rfl (J_st (R_pickF rfl rfl) rfl (J_st (R_move rfl) rfl (J_gd rfl rfl (R_fieldAddr0 fl90_3 rfl) rfl (J_gd rfl rfl (R_load sc58 rfl (h1.one 3 rfl)) rfl (J_gd rfl rfl (R_len Try.underlying58 rfl (hd1.ext E).len) rfl (J_gd rfl rfl (R_eql rfl rfl) rfl (J_gd rfl rfl (R_move rfl) rfl ?_)))))))))))
          refine J_if (gd := 78) rfl rfl (fun hg13 => ?_) (fun hg13 => ?_)
          · have hg13n : x.outs.length = 2 := by first | (have h := of_decide_eq_true hg13; omega) | (have h := hg13; simp at h; omega)
            refine J_gd rfl rfl (R_fieldAddr0 fl90_3 rfl) rfl (J_gd rfl rfl (R_load sc58 rfl (h1.one 3 rfl)) rfl (J_gd rfl rfl (R_index (i := 0) sl58 rfl rfl (hd1.rd.ext E) (by first | assumption | omega | (simp only [List.length_set]; first | assumption | omega) | (simp only [List.getElem_set_self, List.length_set]; first | assumption | omega) | (simp only [setW, setLk, List.length_set]; first | assumption | omega))) rfl (J_gd rfl rfl (R_load sc3 rfl ((RdS.getD (hd1.rd.ext E) (i := 0) (by first | assumption | omega | (simp only [List.length_set]; first | assumption | omega) | (simp only [List.getElem_set_self, List.length_set]; first | assumption | omega) | (simp only [setW, setLk, List.length_set]; first | assumption | omega))).one 0 rfl)) rfl (J_gd rfl rfl (R_fieldAddr0 fl90_3 rfl) rfl (J_gd rfl rfl (R_load sc58 rfl (h1.one 3 rfl)) rfl (J_gd rfl rfl (R_index (i := 1) sl58 rfl rfl (hd1.rd.ext E) (by first | assumption | omega | (simp only [List.length_set]; first | assumption | omega) | (simp only [List.getElem_set_self, List.length_set]; first | assumption | omega) | (simp only [setW, setLk, List.length_set]; first | assumption | omega))) rfl (J_gd rfl rfl (R_load sc3 rfl ((RdS.getD (hd1.rd.ext E) (i := 1) (by first | assumption | omega | (simp only [List.length_set]; first | assumption | omega) | (simp only [List.getElem_set_self, List.length_set]; first | assumption | omega) | (simp only [setW, setLk, List.length_set]; first | assumption | omega))).one 0 rfl)) rfl (J_gd rfl rfl (R_eql rfl rfl) rfl (J_gd rfl rfl (R_pickT rfl rfl) rfl (J_st (R_pickF rfl rfl) rfl (J_cutEnd ⟨rfl, rfl, congrArg (fun b => some (Value.bool b)) (show ((List.getD x.outs 0 default) == (List.getD x.outs 1 default)) = (((decide (2 < ((x.outs.length : Nat) : Int))) || ((x.kind == 8) && (decide (0 < ((x.outs.length : Nat) : Int))))) || ((((x.outs.length : Nat) : Int) == 2) && ((List.getD x.outs 0 default) == (List.getD x.outs 1 default)))) by first | (rw [hg9, hg10, hg13] <;> rfl) | (simp [hg9, hg10, hg13]; done) | (simp only [nat_nlt] <;> simp)), trivial⟩ rfl)))))))))))
          · have hg13n : ¬ x.outs.length = 2 := by first | (have h := of_decide_eq_false hg13; omega) | (have h := hg13; simp at h; omega)
            refine J_gdno rfl rfl rfl rfl (J_gdno rfl rfl rfl rfl (J_gdno rfl rfl rfl rfl (J_gdno rfl rfl rfl rfl (J_gdno rfl rfl rfl rfl (J_gdno rfl rfl rfl rfl (J_gdno rfl rfl rfl rfl (J_gdno rfl rfl rfl rfl (J_gdno rfl rfl rfl rfl (J_gd rfl rfl (R_pickF rfl rfl) rfl (J_st (R_pickF rfl rfl) rfl (J_cutEnd ⟨rfl, rfl, congrArg (fun b => some (Value.bool b)) (show false = (((decide (2 < ((x.outs.length : Nat) : Int))) || ((x.kind == 8) && (decide (0 < ((x.outs.length : Nat) : Int))))) || ((((x.outs.length : Nat) : Int) == 2) && ((List.getD x.outs 0 default) == (List.getD x.outs 1 default)))) by first | (rw [hg9, hg10, hg13] <;> rfl) | (simp [hg9, hg10, hg13]; done) | (simp only [nat_nlt] <;> simp)), trivial⟩ rfl)))))))))))
    rintro _ rfl
    refine J_done ?_
    refine S_cond rfl (fun hc17 => ?_) (fun hc17 => ?_)
    · refine S_seq ?_
      refine S_reg [true] rfl rfl ?_
      refine J_st (R_assign rfl) rfl (J_done ?_)
      refine S_ret (E_done1 rfl rfl E ?_)
      exact node_t (by assumption)
    · refine S_skip ?_
      refine S_seq ?_
      refine S_seq ?_
      refine S_reg [true, true, true, true] rfl rfl ?_
      refine J_st (R_fieldAddr0 fl90_3 rfl) rfl (J_st (R_load sc58 rfl (h1.one 3 rfl)) rfl (J_st (R_len Try.underlying58 rfl (hd1.ext E).len) rfl (J_st (R_move rfl) rfl (J_done ?_))))
      refine S_block ?_
      refine S_loop (fun (k : Nat) => [(2, .bool false), (91, o1), (92, .int .i64 ((x.outs.length : Nat) : Int)), (93, .int .i64 ((k : Nat) : Int))]) (fun (k : Nat) w' => Ext w w' ∧ w15.heap.size ≤ w'.heap.size ∧ Blk w' b1 ([.int .i64 x.kind, .int .i64 x.a, .int .i64 x.b, o1]) ∧ k ≤ x.outs.length ∧ (x.outs.take k).all (win · 0 7) = true) (fun (k : Nat) => x.outs.length - k) 0 ⟨rfl, rfl, rfl, rfl, trivial⟩ ⟨E, Nat.le_refl _, h1, Nat.zero_le _, rfl⟩ ?_
      clear E h1
      rintro k w17 ⟨E, z9, h1, hk, hI⟩
      refine S_seq ?_
      refine S_reg [true] rfl rfl ?_
      refine J_st (R_lss rfl rfl) rfl (J_done ?_)
      refine S_seq ?_
      refine S_cond rfl (fun hc18 => ?_) (fun hc18 => ?_)
      · have hc18n : k < x.outs.length := by first | (have h := of_decide_eq_true hc18; omega) | (have h := hc18; simp at h; omega)
        refine S_skip ?_
        refine S_seq ?_
        refine S_block ?_
        refine S_seq ?_
        refine S_reg [true, true, true] rfl rfl ?_
        have hi1 : k < x.outs.length := (by first | assumption | omega | (simp only [List.length_set]; first | assumption | omega) | (simp only [List.getElem_set_self, List.length_set]; first | assumption | omega) | (simp only [setW, setLk, List.length_set]; first | assumption | omega))
        refine J_st (R_index (i := k) sl58 rfl rfl (hd1.rd.ext E) hi1) rfl (J_st (R_load sc3 rfl (((hd1.rd.ext E).get hi1).one 0 rfl)) rfl (J_st (R_assign rfl) rfl (J_done ?_)))
        refine S_seq ?_
        refine S_reg [true, false, true] rfl rfl ?_
        refine J_st (R_move rfl) rfl ?_
        refine J_call Try.call57 rfl (c_within (x.outs[k]'hi1) 0 7 _ ) rfl (fun _ w18 e7 hv => ?_)
        subst hv
        replace E := E.trans e7; replace h1 := h1.ext e7
        have z10 := e7.size
        refine J_st (R_not rfl) rfl (J_done ?_)
        refine S_cond rfl (fun hc19 => ?_) (fun hc19 => ?_)
        · refine S_seq ?_
          refine S_reg [true] rfl rfl ?_
          refine J_st (R_assign rfl) rfl (J_done ?_)
          refine S_ret (E_inB_ret (E_lp_ret (E_inB_ret (E_done1 rfl rfl E ?_))))
          exact node_l (by assumption)
        · refine S_skip ?_
          refine S_nil (E_inB ?_)
          refine S_reg [true, true] rfl rfl ?_
          refine J_st (R_add rfl rfl (add_one hc18n (hd1.ext E).1.1)) rfl (J_st (R_move rfl) rfl (J_done ?_))
          refine S_nil (E_again (k + 1) (by omega) ⟨rfl, rfl, rfl, rfl, trivial⟩ ⟨E, (by omega), h1, (by omega), all_step hI (by assumption) (by simpa using (show (!(win x.outs[k] 0 7)) = false by assumption))⟩)
      · have hc18n : ¬ k < x.outs.length := by first | (have h := of_decide_eq_false hc18; omega) | (have h := hc18; simp at h; omega)
        refine S_exit (E_lp_exit (E_inB_exit ?_))
        refine S_seq ?_
        refine S_reg [true] rfl rfl ?_
        refine J_st (R_assign rfl) rfl (J_done ?_)
        refine S_ret (E_done1 rfl rfl E ?_)
        exact node_y hkk (by assumption) hI (by omega)

set_option maxHeartbeats 4000000 in
set_option maxRecDepth 20000 in
theorem s_NodeOk (cx : List Value) (x : Node) (w : World) (hx : Dat.R w 0 w.heap.size cx x) : Ct Try.prog 51 [.agg cx.toArray] w (fun v _ => v = .bool (nodeOk x)) := by
  refine ct_of Try.func51 rfl Try.ntmps51 rfl ?_
  obtain ⟨o1, rfl, hd1⟩ := Node.op hx
  refine S_sub [(0, .agg [.int .i64 x.kind, .int .i64 x.a, .int .i64 x.b, o1].toArray)] ⟨rfl, trivial⟩ ?_
  have E : Ext w w := Ext.refl w
  refine S_seq ?_
  refine S_reg [false, true] rfl rfl ?_
  refine J_box rfl rfl (fun b1 w1 e1 s1 h1 => ?_)
  have g_b1 : w.heap.size ≤ b1 := by have := E.size; omega
  have y_b1 := h1.lt
  replace E := E.trans e1
  have z1 := e1.size
  refine J_st (R_assign rfl) rfl (J_done ?_)
  refine S_seq ?_
  refine S_reg [true, true, true, true] rfl rfl ?_
  refine J_st (R_fieldAddr0 fl90_1 rfl) rfl (J_st (R_load sc3 rfl (h1.one 1 rfl)) rfl (J_st (R_eql rfl rfl) rfl (J_st (R_assign rfl) rfl (J_done ?_))))
  refine S_seq ?_
  refine S_reg [true, true, true, true] rfl rfl ?_
  refine J_st (R_fieldAddr0 fl90_2 rfl) rfl (J_st (R_load sc3 rfl (h1.one 2 rfl)) rfl (J_st (R_eql rfl rfl) rfl (J_st (R_assign rfl) rfl (J_done ?_))))
  refine S_seq ?_
  refine S_seq ?_
  refine S_reg [true, true] rfl rfl ?_
  refine J_st (R_fieldAddr0 fl90_0 rfl) rfl (J_st (R_load sc3 rfl (h1.one 0 rfl)) rfl (J_done ?_))
  refine S_cutG (fun (xq : Bool × Bool) => let ⟨p0, q0⟩ := xq; [(1, .pointer (some ⟨b1, 0, none⟩)), (2, .bool false), (3, .bool p0), (4, .bool q0)]) (fun (xq : Bool × Bool) w' => let ⟨p0, q0⟩ := xq; Ext w w' ∧ w1.heap.size ≤ w'.heap.size ∧ Blk w' b1 ([.int .i64 x.kind, .int .i64 x.a, .int .i64 x.b, o1]) ∧ kindOk x = (win x.kind 1 8 && p0 && q0)) ?_ ?_
  · refine S_block ?_
    refine S_seq ?_
    refine S_reg [true, true] rfl rfl ?_
    refine J_st (R_eql rfl rfl) rfl (J_st (R_assign rfl) rfl (J_done ?_))
    refine S_cond rfl (fun hc1 => ?_) (fun hc1 => ?_)
    · refine S_reg [true, true, false, true] rfl rfl ?_
      refine J_st (R_fieldAddr0 fl90_1 rfl) rfl (J_st (R_load sc3 rfl (h1.one 1 rfl)) rfl ?_)
      refine J_call Try.call50 rfl (s_l01In x.a 0 999 _ ) rfl (fun _ w2 e2 hv => ?_)
      subst hv
      replace E := E.trans e2; replace h1 := h1.ext e2
      have z3 := e2.size
      refine J_st (R_assign rfl) rfl (J_done ?_)
      refine S_nil (E_inB ?_)
      refine S_nil (E_cutG (win x.a 0 999, x.b == 0) ⟨rfl, rfl, rfl, rfl, trivial⟩ ⟨E, (by omega), h1, (by rw [node_2 (by assumption), win_kind (n := x.kind) (by have := eq_of_beq (show (x.kind == 2) = true by assumption); omega), Bool.true_and])⟩)
    · refine S_seq ?_
      refine S_reg [true, true] rfl rfl ?_
      refine J_st (R_eql rfl rfl) rfl (J_st (R_assign rfl) rfl (J_done ?_))
      refine S_cond rfl (fun hc2 => ?_) (fun hc2 => ?_)
      · refine S_seq ?_
        refine S_reg [true, true, false, true] rfl rfl ?_
        refine J_st (R_fieldAddr0 fl90_1 rfl) rfl (J_st (R_load sc3 rfl (h1.one 1 rfl)) rfl ?_)
        refine J_call Try.call50 rfl (s_l01In x.a 1 10 _ ) rfl (fun _ w3 e3 hv => ?_)
        subst hv
        replace E := E.trans e3; replace h1 := h1.ext e3
        have z4 := e3.size
        refine J_st (R_assign rfl) rfl (J_done ?_)
        refine S_reg [true, true, true, true, true, false, true] rfl rfl ?_
        refine J_st (R_fieldAddr0 fl90_2 rfl) rfl (J_st (R_load sc3 rfl (h1.one 2 rfl)) rfl (J_st (R_fieldAddr0 fl90_1 rfl) rfl (J_st (R_load sc3 rfl (h1.one 1 rfl)) rfl (J_st (R_sub rfl rfl rfl) rfl ?_))))
        refine J_call Try.call50 rfl (s_l01In x.b 0 (IntKind.i64.wrap (x.a - 1)) _ ) rfl (fun _ w4 e4 hv => ?_)
        subst hv
        replace E := E.trans e4; replace h1 := h1.ext e4
        have z5 := e4.size
        refine J_st (R_assign rfl) rfl (J_done ?_)
        refine S_nil (E_inB ?_)
        refine S_nil (E_cutG (win x.a 1 10, win x.b 0 (IntKind.i64.wrap (x.a - 1))) ⟨rfl, rfl, rfl, rfl, trivial⟩ ⟨E, (by omega), h1, (by rw [node_3 (by assumption), win_kind (n := x.kind) (by have := eq_of_beq (show (x.kind == 3) = true by assumption); omega), Bool.true_and])⟩)
      · refine S_seq ?_
        refine S_reg [true, true] rfl rfl ?_
        refine J_st (R_eql rfl rfl) rfl (J_st (R_assign rfl) rfl (J_done ?_))
        refine S_cond rfl (fun hc3 => ?_) (fun hc3 => ?_)
        · refine S_reg [true, true, false, true] rfl rfl ?_
          refine J_st (R_fieldAddr0 fl90_1 rfl) rfl (J_st (R_load sc3 rfl (h1.one 1 rfl)) rfl ?_)
          refine J_call Try.call50 rfl (s_l01In x.a 0 99 _ ) rfl (fun _ w5 e5 hv => ?_)
          subst hv
          replace E := E.trans e5; replace h1 := h1.ext e5
          have z6 := e5.size
          refine J_st (R_assign rfl) rfl (J_done ?_)
          refine S_nil (E_inB ?_)
          refine S_nil (E_cutG (win x.a 0 99, x.b == 0) ⟨rfl, rfl, rfl, rfl, trivial⟩ ⟨E, (by omega), h1, (by rw [node_4 (by assumption), win_kind (n := x.kind) (by have := eq_of_beq (show (x.kind == 4) = true by assumption); omega), Bool.true_and])⟩)
        · refine S_skip ?_
          refine S_nil (E_inB ?_)
          refine S_nil (E_cutG (x.a == 0, x.b == 0) ⟨rfl, rfl, rfl, rfl, trivial⟩ ⟨E, (by omega), h1, (node_0 (by assumption) (by assumption) (by assumption))⟩)
  · clear E h1
    rintro ⟨p0, q0⟩ w6 ⟨E, z2, h1, hpq⟩
    refine S_sub [(1, .pointer (some ⟨b1, 0, none⟩)), (2, .bool false), (3, .bool p0), (4, .bool q0)] ⟨rfl, rfl, rfl, rfl, trivial⟩ ?_
    refine S_seq ?_
    refine S_seq ?_
    refine S_reg [true, true, false, true, true, true, true, true, true, true, true, true, true, true, true, true, true, true, true, true, true, true, true, true, true, true, true, true, true] rfl rfl ?_
    refine J_st (R_fieldAddr0 fl90_0 rfl) rfl (J_st (R_load sc3 rfl (h1.one 0 rfl)) rfl ?_)
    refine J_call Try.call50 rfl (s_l01In x.kind 1 8 _ ) rfl (fun _ w7 e6 hv => ?_)
    subst hv
    replace E := E.trans e6; replace h1 := h1.ext e6
    have z7 := e6.size
    refine J_st (R_not rfl) rfl (J_st (R_move rfl) rfl ?_)
    refine J_cut 24 [(1, .pointer (some ⟨b1, 0, none⟩)), (2, .bool false), (3, .bool p0), (4, .bool q0), (63, .bool (((((!(win x.kind 1 8)) || (!p0)) || (!q0)) || (decide (2 < ((x.outs.length : Nat) : Int)))) || ((x.kind == 8) && (decide (0 < ((x.outs.length : Nat) : Int))))))] (fun w' => w7 = w') ?_ ?_
    · refine J_if (gd := 39) rfl rfl (fun hg1 => ?_) (fun hg1 => ?_)
      · refine J_gdno rfl rfl rfl rfl (J_gdno rfl rfl rfl rfl (J_st (R_pickT rfl rfl) rfl (J_st (R_move rfl) rfl (J_gdno rfl rfl rfl rfl (J_gdno rfl rfl rfl rfl (J_st (R_pickT rfl rfl) rfl (J_st (R_move rfl) rfl (J_gdno rfl rfl rfl rfl (J_gdno rfl rfl rfl rfl (J_gdno rfl rfl rfl rfl (J_gdno rfl rfl rfl rfl (J_st (R_pickT rfl rfl) rfl (J_st (R_move rfl) rfl (J_gdno rfl rfl rfl rfl (J_gdno rfl rfl rfl rfl (J_gdno rfl rfl rfl rfl (J_gdno rfl rfl rfl rfl (J_gdx rfl rfl rfl (J_gdx rfl rfl rfl (J_gdx rfl rfl rfl (J_gdx rfl rfl rfl (J_gdno rfl rfl rfl rfl (J_st (R_pickT rfl rfl) rfl (J_cutEnd ⟨rfl, rfl, rfl, rfl, congrArg (fun b => some (Value.bool b)) (show true = (((((!(win x.kind 1 8)) || (!p0)) || (!q0)) || (decide (2 < ((x.outs.length : Nat) : Int)))) || ((x.kind == 8) && (decide (0 < ((x.outs.length : Nat) : Int))))) by first | (rw [hg1] <;> rfl) | (simp [hg1]; done) | (simp only [nat_nlt] <;> simp)), trivial⟩ rfl))))))))))))))))))))))))
      · refine J_gd rfl rfl (R_move rfl) rfl (J_gd rfl rfl (R_not rfl) rfl (J_st (R_pickF rfl rfl) rfl (J_st (R_move rfl) rfl ?_)))
        refine J_if (gd := 43) rfl rfl (fun hg2 => ?_) (fun hg2 => ?_)
        · refine J_gdno rfl rfl rfl rfl (J_gdno rfl rfl rfl rfl (J_st (R_pickT rfl rfl) rfl (J_st (R_move rfl) rfl (J_gdno rfl rfl rfl rfl (J_gdno rfl rfl rfl rfl (J_gdno rfl rfl rfl rfl (J_gdno rfl rfl rfl rfl (J_st (R_pickT rfl rfl) rfl (J_st (R_move rfl) rfl (J_gdno rfl rfl rfl rfl (J_gdno rfl rfl rfl rfl (J_gdno rfl rfl rfl rfl (J_gdno rfl rfl rfl rfl (J_gdx rfl rfl rfl (J_gdx rfl rfl rfl (J_gdx rfl rfl rfl (J_gdx rfl rfl rfl (J_gdno rfl rfl rfl rfl (J_st (R_pickT rfl rfl) rfl (J_cutEnd ⟨rfl, rfl, rfl, rfl, congrArg (fun b => some (Value.bool b)) (show true = (((((!(win x.kind 1 8)) || (!p0)) || (!q0)) || (decide (2 < ((x.outs.length : Nat) : Int)))) || ((x.kind == 8) && (decide (0 < ((x.outs.length : Nat) : Int))))) by first | (rw [hg1, hg2] <;> rfl) | (simp [hg1, hg2]; done) | (simp only [nat_nlt] <;> simp)), trivial⟩ rfl))))))))))))))))))))
        · refine J_gd rfl rfl (R_move rfl) rfl (J_gd rfl rfl (R_not rfl) rfl (J_st (R_pickF rfl rfl) rfl (J_st (R_move rfl) rfl ?_)))
          refine J_if (gd := 47) rfl rfl (fun hg3 => ?_) (fun hg3 => ?_)
          · refine J_gdno rfl rfl rfl rfl (J_gdno rfl rfl rfl rfl (J_gdno rfl rfl rfl rfl (J_gdno rfl rfl rfl rfl (J_st (R_pickT rfl rfl) rfl (J_st (R_move rfl) rfl (J_gdno rfl rfl rfl rfl (J_gdno rfl rfl rfl rfl (J_gdno rfl rfl rfl rfl (J_gdno rfl rfl rfl rfl (J_gdx rfl rfl rfl (J_gdx rfl rfl rfl (J_gdx rfl rfl rfl (J_gdx rfl rfl rfl (J_gdno rfl rfl rfl rfl (J_st (R_pickT rfl rfl) rfl (J_cutEnd ⟨rfl, rfl, rfl, rfl, congrArg (fun b => some (Value.bool b)) (show true = (((((!(win x.kind 1 8)) || (!p0)) || (!q0)) || (decide (2 < ((x.outs.length : Nat) : Int)))) || ((x.kind == 8) && (decide (0 < ((x.outs.length : Nat) : Int))))) by first | (rw [hg1, hg2, hg3] <;> rfl) | (simp [hg1, hg2, hg3]; done) | (simp only [nat_nlt] <;> simp)), trivial⟩ rfl))))))))))))))))
          · refine J_gd rfl rfl (R_fieldAddr0 fl90_3 rfl) rfl (J_gd rfl rfl (R_load sc58 rfl (h1.one 3 rfl)) rfl (J_gd rfl rfl (R_len Try.underlying58 rfl (hd1.ext E).len) rfl (J_gd rfl rfl (R_gtr rfl rfl) rfl (J_st (R_pickF rfl rfl) rfl (J_st (R_move rfl) rfl ?_)))))
            refine J_if (gd := 53) rfl rfl (fun hg4 => ?_) (fun hg4 => ?_)
            · have hg4n : x.outs.length > 2 := by first | (have h := of_decide_eq_true hg4; omega) | (have h := hg4; simp at h; omega)
              refine J_gdno rfl rfl rfl rfl (J_gdno rfl rfl rfl rfl (J_gdno rfl rfl rfl rfl (J_gdno rfl rfl rfl rfl (J_gdx rfl rfl rfl (J_gdx rfl rfl rfl (J_gdx rfl rfl rfl (J_gdx rfl rfl rfl (J_gdno rfl rfl rfl rfl (J_st (R_pickT rfl rfl) rfl (J_cutEnd ⟨rfl, rfl, rfl, rfl, congrArg (fun b => some (Value.bool b)) (show true = (((((!(win x.kind 1 8)) || (!p0)) || (!q0)) || (decide (2 < ((x.outs.length : Nat) : Int)))) || ((x.kind == 8) && (decide (0 < ((x.outs.length : Nat) : Int))))) by first | (rw [hg1, hg2, hg3, hg4] <;> rfl) | (simp [hg1, hg2, hg3, hg4]; done) | (simp only [nat_nlt] <;> simp)), trivial⟩ rfl))))))))))
            · have hg4n : ¬ x.outs.length > 2 := by first | (have h := of_decide_eq_false hg4; omega) | (have h := hg4; simp at h; omega)
              refine J_gd rfl rfl (R_fieldAddr0 fl90_0 rfl) rfl (J_gd rfl rfl (R_load sc3 rfl (h1.one 0 rfl)) rfl (J_gd rfl rfl (R_eql rfl rfl) rfl (J_gd rfl rfl (R_move rfl) rfl ?_)))
              refine J_if (gd := 57) rfl rfl (fun hg5 => ?_) (fun hg5 => ?_)
              · refine J_gd rfl rfl (R_fieldAddr0 fl90_3 rfl) rfl (J_gd rfl rfl (R_load sc58 rfl (h1.one 3 rfl)) rfl (J_gd rfl rfl (R_len Try.underlying58 rfl (hd1.ext E).len) rfl (J_gd rfl rfl (R_gtr rfl rfl) rfl (J_gd rfl rfl (R_pickT rfl rfl) rfl (J_st (R_pickF rfl rfl) rfl (J_cutEnd ⟨rfl, rfl, rfl, rfl, congrArg (fun b => some (Value.bool b)) (show (decide (0 < ((x.outs.length : Nat) : Int))) = (((((!(win x.kind 1 8)) || (!p0)) || (!q0)) || (decide (2 < ((x.outs.length : Nat) : Int)))) || ((x.kind == 8) && (decide (0 < ((x.outs.length : Nat) : Int))))) by first | (rw [hg1, hg2, hg3, hg4, hg5] <;> rfl) | (simp [hg1, hg2, hg3, hg4, hg5]; done) | (simp only [nat_nlt] <;> simp)), trivial⟩ rfl))))))
              · refine J_gdno rfl rfl rfl rfl (J_gdno rfl rfl rfl rfl (J_gdno rfl rfl rfl rfl (J_gdno rfl rfl rfl rfl (J_gd rfl rfl (R_pickF rfl rfl) rfl (J_st (R_pickF rfl rfl) rfl (J_cutEnd ⟨rfl, rfl, rfl, rfl, congrArg (fun b => some (Value.bool b)) (show false = (((((!(win x.kind 1 8)) || (!p0)) || (!q0)) || (decide (2 < ((x.outs.length : Nat) : Int)))) || ((x.kind == 8) && (decide (0 < ((x.outs.length : Nat) : Int))))) by first | (rw [hg1, hg2, hg3, hg4, hg5] <;> rfl) | (simp [hg1, hg2, hg3, hg4, hg5]; done) | (simp only [nat_nlt] <;> simp)), trivial⟩ rfl))))))
    rintro _ rfl
    refine J_done ?_
    refine S_cond rfl (fun hc4 => ?_) (fun hc4 => ?_)
    · refine S_seq ?_
      refine S_reg [true] rfl rfl ?_
      refine J_st (R_assign rfl) rfl (J_done ?_)
      refine S_ret (E_done1 rfl rfl E ?_)
      exact node_s hpq (by assumption)
    · refine S_skip ?_
      refine S_seq ?_
      refine S_seq ?_
      refine S_reg [true] rfl rfl ?_
      refine J_st (R_assign rfl) rfl (J_done ?_)
      refine S_block ?_
      refine S_loop (fun (k : Nat) => [(1, .pointer (some ⟨b1, 0, none⟩)), (2, .bool false), (5, .int .i64 ((k : Nat) : Int))]) (fun (k : Nat) w' => Ext w w' ∧ w7.heap.size ≤ w'.heap.size ∧ Blk w' b1 ([.int .i64 x.kind, .int .i64 x.a, .int .i64 x.b, o1]) ∧ k ≤ x.outs.length ∧ (x.outs.take k).all (win · 0 7) = true ∧ (1 < k → ((List.getD x.outs 0 default) == (List.getD x.outs 1 default)) = false)) (fun (k : Nat) => x.outs.length - k) 0 ⟨rfl, rfl, rfl, trivial⟩ ⟨E, Nat.le_refl _, h1, Nat.zero_le _, rfl, (by omega)⟩ ?_
      clear E h1
      rintro k w9 ⟨E, z8, h1, hk, hI, hJ⟩
      refine S_seq ?_
      refine S_seq ?_
      refine S_reg [true, true, true, true, true] rfl rfl ?_
      refine J_st (R_move rfl) rfl (J_st (R_fieldAddr0 fl90_3 rfl) rfl (J_st (R_load sc58 rfl (h1.one 3 rfl)) rfl (J_st (R_len Try.underlying58 rfl (hd1.ext E).len) rfl (J_st (R_lss rfl rfl) rfl (J_done ?_)))))
      refine S_cond rfl (fun hc5 => ?_) (fun hc5 => ?_)
      · have hc5n : k < x.outs.length := by first | (have h := of_decide_eq_true hc5; omega) | (have h := hc5; simp at h; omega)
        refine S_skip ?_
        refine S_seq ?_
        refine S_block ?_
        refine S_seq ?_
        refine S_regD mixed [(0, true), (1, true), (2, true), (3, true), (4, true), (5, false), (6, true), (7, true), (8, true), (9, true), (10, true), (11, true), (12, true), (13, true), (14, true), (15, true), (16, true), (17, true), (18, true), (19, true), (20, true), (21, true)] (by decide +kernel) rfl (fun w10 e7 => ?_)
        replace E := E.trans e7; replace h1 := h1.ext e7
        have z9 := e7.size
        refine J_st (R_fieldAddr0 fl90_3 rfl) rfl (J_st (R_load sc58 rfl (h1.one 3 rfl)) rfl (J_st (R_move rfl) rfl ?_))
        have hi1 : k < x.outs.length := (by first | assumption | omega | (simp only [List.length_set]; first | assumption | omega) | (simp only [List.getElem_set_self, List.length_set]; first | assumption | omega) | (simp only [setW, setLk, List.length_set]; first | assumption | omega))
        refine J_st (R_index (i := k) sl58 rfl rfl (hd1.rd.ext E) hi1) rfl (J_st (R_load sc3 rfl (((hd1.rd.ext E).get hi1).one 0 rfl)) rfl ?_)
        refine J_call Try.call50 rfl (s_l01In (x.outs[k]'hi1) 0 7 _ ) rfl (fun _ w11 e8 hv => ?_)
        subst hv
        replace E := E.trans e8; replace h1 := h1.ext e8
        have z10 := e8.size
        refine J_st (R_not rfl) rfl (J_st (R_move rfl) rfl ?_)
        refine J_cut 14 [(1, .pointer (some ⟨b1, 0, none⟩)), (2, .bool false), (5, .int .i64 ((k : Nat) : Int)), (64, .int .i64 ((k : Nat) : Int)), (65, .pointer (some ⟨b1, 3, none⟩)), (66, o1), (67, .int .i64 ((x.outs.length : Nat) : Int)), (68, .bool (decide (((k : Nat) : Int) < ((x.outs.length : Nat) : Int)))), (92, .bool ((!(win (x.outs[k]'hi1) 0 7)) || ((decide (0 < ((k : Nat) : Int))) && ((List.getD x.outs 0 default) == (List.getD x.outs 1 default)))))] (fun w' => w11 = w') ?_ ?_
        · refine J_if (gd := 78) rfl rfl (fun hg6 => ?_) (fun hg6 => ?_)
          · refine J_gdno rfl rfl rfl rfl (J_gdno rfl rfl rfl rfl (J_gdno rfl rfl rfl rfl (J_gdx rfl rfl rfl (J_gdx rfl rfl rfl (J_gdx rfl rfl rfl (J_gdx rfl rfl rfl (J_gdx rfl rfl rfl (J_gdx rfl rfl rfl (J_gdx rfl rfl rfl (J_gdx rfl rfl rfl (J_gdx rfl rfl rfl (J_gdno rfl rfl rfl rfl (J_st (R_pickT rfl rfl) rfl (J_cutEnd ⟨rfl, rfl, rfl, rfl, rfl, rfl, rfl, rfl, congrArg (fun b => some (Value.bool b)) (show true = ((!(win (x.outs[k]'hi1) 0 7)) || ((decide (0 < ((k : Nat) : Int))) && ((List.getD x.outs 0 default) == (List.getD x.outs 1 default)))) by first | (rw [hg6] <;> rfl) | (simp [hg6]; done) | (simp only [nat_nlt] <;> simp)), trivial⟩ rfl))))))))))))))
          · refine J_gd rfl rfl (R_move rfl) rfl (J_gd rfl rfl (R_gtr rfl rfl) rfl (J_gd rfl rfl (R_move rfl) rfl ?_))
            refine J_if (gd := 81) rfl rfl (fun hg7 => ?_) (fun hg7 => ?_)
            · have hg7n : k > 0 := by first | (have h := of_decide_eq_true hg7; omega) | (have h := hg7; simp at h; omega)
              refine J_gd rfl rfl (R_fieldAddr0 fl90_3 rfl) rfl (J_gd rfl rfl (R_load sc58 rfl (h1.one 3 rfl)) rfl (J_gd rfl rfl (R_index (i := 0) sl58 rfl rfl (hd1.rd.ext E) (by first | assumption | omega | (simp only [List.length_set]; first | assumption | omega) | (simp only [List.getElem_set_self, List.length_set]; first | assumption | omega) | (simp only [setW, setLk, List.length_set]; first | assumption | omega))) rfl (J_gd rfl rfl (R_load sc3 rfl ((RdS.getD (hd1.rd.ext E) (i := 0) (by first | assumption | omega | (simp only [List.length_set]; first | assumption | omega) | (simp only [List.getElem_set_self, List.length_set]; first | assumption | omega) | (simp only [setW, setLk, List.length_set]; first | assumption | omega))).one 0 rfl)) rfl (J_gd rfl rfl (R_fieldAddr0 fl90_3 rfl) rfl (J_gd rfl rfl (R_load sc58 rfl (h1.one 3 rfl)) rfl (J_gd rfl rfl (R_index (i := 1) sl58 rfl rfl (hd1.rd.ext E) (by first | assumption | omega | (simp only [List.length_set]; first | assumption | omega) | (simp only [List.getElem_set_self, List.length_set]; first | assumption | omega) | (simp only [setW, setLk, List.length_set]; first | assumption | omega))) rfl (J_gd rfl rfl (R_load sc3 rfl ((RdS.getD (hd1.rd.ext E) (i := 1) (by first | assumption | omega | (simp only [List.length_set]; first | assumption | omega) | (simp only [List.getElem_set_self, List.length_set]; first | assumption | omega) | (simp only [setW, setLk, List.length_set]; first | assumption | omega))).one 0 rfl)) rfl (J_gd rfl rfl (R_eql rfl rfl) rfl (J_gd rfl rfl (R_pickT rfl rfl) rfl (J_st (R_pickF rfl rfl) rfl (J_cutEnd ⟨rfl, rfl, rfl, rfl, rfl, rfl, rfl, rfl, congrArg (fun b => some (Value.bool b)) (show ((List.getD x.outs 0 default) == (List.getD x.outs 1 default)) = ((!(win (x.outs[k]'hi1) 0 7)) || ((decide (0 < ((k : Nat) : Int))) && ((List.getD x.outs 0 default) == (List.getD x.outs 1 default)))) by first | (rw [hg6, hg7] <;> rfl) | (simp [hg6, hg7]; done) | (simp only [nat_nlt] <;> simp)), trivial⟩ rfl)))))))))))
            · have hg7n : ¬ k > 0 := by first | (have h := of_decide_eq_false hg7; omega) | (have h := hg7; simp at h; omega)
              refine J_gdno rfl rfl rfl rfl (J_gdno rfl rfl rfl rfl (J_gdno rfl rfl rfl rfl (J_gdno rfl rfl rfl rfl (J_gdno rfl rfl rfl rfl (J_gdno rfl rfl rfl rfl (J_gdno rfl rfl rfl rfl (J_gdno rfl rfl rfl rfl (J_gdno rfl rfl rfl rfl (J_gd rfl rfl (R_pickF rfl rfl) rfl (J_st (R_pickF rfl rfl) rfl (J_cutEnd ⟨rfl, rfl, rfl, rfl, rfl, rfl, rfl, rfl, congrArg (fun b => some (Value.bool b)) (show false = ((!(win (x.outs[k]'hi1) 0 7)) || ((decide (0 < ((k : Nat) : Int))) && ((List.getD x.outs 0 default) == (List.getD x.outs 1 default)))) by first | (rw [hg6, hg7] <;> rfl) | (simp [hg6, hg7]; done) | (simp only [nat_nlt] <;> simp)), trivial⟩ rfl)))))))))))
        rintro _ rfl
        refine J_done ?_
        refine S_cond rfl (fun hc6 => ?_) (fun hc6 => ?_)
        · refine S_seq ?_
          refine S_reg [true] rfl rfl ?_
          refine J_st (R_assign rfl) rfl (J_done ?_)
          refine S_ret (E_inB_ret (E_lp_ret (E_inB_ret (E_done1 rfl rfl E ?_))))
          exact node_d (by assumption) (node_p (p := p0) (q := q0) (by assumption) hpq).2
        · refine S_skip ?_
          refine S_nil (E_inB ?_)
          refine S_reg [true, true, true] rfl rfl ?_
          refine J_st (R_move rfl) rfl (J_st (R_add rfl rfl (add_one hc5n (hd1.ext E).1.1)) rfl (J_st (R_assign rfl) rfl (J_done ?_)))
          refine S_nil (E_again (k + 1) (by omega) ⟨rfl, rfl, rfl, trivial⟩ ⟨E, (by omega), h1, (by omega), all_step hI (by assumption) (nodeL (by assumption)), nodeJ (by assumption)⟩)
      · have hc5n : ¬ k < x.outs.length := by first | (have h := of_decide_eq_false hc5; omega) | (have h := hc5; simp at h; omega)
        refine S_exit (E_lp_exit (E_inB_exit ?_))
        refine S_seq ?_
        refine S_reg [true] rfl rfl ?_
        refine J_st (R_assign rfl) rfl (J_done ?_)
        refine S_ret (E_done1 rfl rfl E ?_)
        exact node_z (p := p0) (q := q0) (by assumption) hpq hI hJ (by omega)

set_option maxHeartbeats 4000000 in
set_option maxRecDepth 20000 in
theorem c_GraphOk (cg : List Value) (g : Graph) (w : World) (hg : Dat.R w 0 w.heap.size cg g) : Ct Try.prog 26 [.agg cg.toArray] w (fun v _ => v = .bool (graphOk g)) := by
  refine ct_of Try.func26 rfl Try.ntmps26 rfl ?_
  obtain ⟨o1, rfl, hd1⟩ := Graph.op hg
  refine S_sub [(0, .agg [o1, .int .i64 g.workers, .int .i64 g.cap].toArray)] ⟨rfl, trivial⟩ ?_
  have E : Ext w w := Ext.refl w
  refine S_seq ?_
  refine S_reg [false, true] rfl rfl ?_
  refine J_box rfl rfl (fun b1 w1 e1 s1 h1 => ?_)
  have g_b1 : w.heap.size ≤ b1 := by have := E.size; omega
  have y_b1 := h1.lt
  replace E := E.trans e1
  have z1 := e1.size
  refine J_st (R_assign rfl) rfl (J_done ?_)
  refine S_seq ?_
  refine S_seq ?_
  refine S_reg [true, true, true, false, true, true, true, true, false, true, true, true, true, true, false, true, true] rfl rfl ?_
  refine J_st (R_fieldAddr0 fl30_0 rfl) rfl (J_st (R_load sc28 rfl (h1.one 0 rfl)) rfl (J_st (R_len Try.underlying28 rfl (hd1.ext E).len) rfl ?_))
  refine J_call Try.call57 rfl (c_within ((g.nodes.length : Nat) : Int) 1 8 _ ) rfl (fun _ w2 e2 hv => ?_)
  subst hv
  replace E := E.trans e2; replace h1 := h1.ext e2
  have z2 := e2.size
  refine J_st (R_not rfl) rfl (J_st (R_move rfl) rfl ?_)
  refine J_cut 11 [(0, .agg [o1, .int .i64 g.workers, .int .i64 g.cap].toArray), (1, .pointer (some ⟨b1, 0, none⟩)), (2, .bool false), (24, .bool (((!(win ((g.nodes.length : Nat) : Int) 1 8)) || (!(win g.workers 1 4))) || (!(win g.cap 1 4))))] (fun w' => Ext w w' ∧ w2.heap.size ≤ w'.heap.size ∧ Blk w' b1 ([o1, .int .i64 g.workers, .int .i64 g.cap])) ?_ ?_
  · refine J_if (gd := 13) rfl rfl (fun hg1 => ?_) (fun hg1 => ?_)
    · refine J_gdno rfl rfl rfl rfl (J_gdno rfl rfl rfl rfl ?_)
      refine J_ungno rfl rfl rfl rfl ?_
      refine J_gdno rfl rfl rfl rfl (J_st (R_pickT rfl rfl) rfl (J_st (R_move rfl) rfl (J_gdno rfl rfl rfl rfl (J_gdno rfl rfl rfl rfl ?_))))
      refine J_ungno rfl rfl rfl rfl ?_
      refine J_gdno rfl rfl rfl rfl (J_st (R_pickT rfl rfl) rfl (J_cutEnd ⟨rfl, rfl, rfl, congrArg (fun b => some (Value.bool b)) (show true = (((!(win ((g.nodes.length : Nat) : Int) 1 8)) || (!(win g.workers 1 4))) || (!(win g.cap 1 4))) by first | (rw [hg1] <;> rfl) | (simp [hg1]; done) | (simp only [nat_nlt] <;> simp)), trivial⟩ ⟨E, (by omega), h1⟩))
    · refine J_gd rfl rfl (R_fieldAddr0 fl30_1 rfl) rfl (J_gd rfl rfl (R_load sc3 rfl (h1.one 1 rfl)) rfl ?_)
      refine J_ung rfl rfl ?_
      refine J_call Try.call57 rfl (c_within g.workers 1 4 _ ) rfl (fun _ w4 e3 hv => ?_)
      subst hv
      replace E := E.trans e3; replace h1 := h1.ext e3
      have z3 := e3.size
      refine J_gd rfl rfl (R_not rfl) rfl (J_st (R_pickF rfl rfl) rfl (J_st (R_move rfl) rfl ?_))
      refine J_if (gd := 19) rfl rfl (fun hg2 => ?_) (fun hg2 => ?_)
      · refine J_gdno rfl rfl rfl rfl (J_gdno rfl rfl rfl rfl ?_)
        refine J_ungno rfl rfl rfl rfl ?_
        refine J_gdno rfl rfl rfl rfl (J_st (R_pickT rfl rfl) rfl (J_cutEnd ⟨rfl, rfl, rfl, congrArg (fun b => some (Value.bool b)) (show true = (((!(win ((g.nodes.length : Nat) : Int) 1 8)) || (!(win g.workers 1 4))) || (!(win g.cap 1 4))) by first | (rw [hg1, hg2] <;> rfl) | (simp [hg1, hg2]; done) | (simp only [nat_nlt] <;> simp)), trivial⟩ ⟨E, (by omega), h1⟩))
      · refine J_gd rfl rfl (R_fieldAddr0 fl30_2 rfl) rfl (J_gd rfl rfl (R_load sc3 rfl (h1.one 2 rfl)) rfl ?_)
        refine J_ung rfl rfl ?_
        refine J_call Try.call57 rfl (c_within g.cap 1 4 _ ) rfl (fun _ w5 e4 hv => ?_)
        subst hv
        replace E := E.trans e4; replace h1 := h1.ext e4
        have z4 := e4.size
        refine J_gd rfl rfl (R_not rfl) rfl (J_st (R_pickF rfl rfl) rfl (J_cutEnd ⟨rfl, rfl, rfl, congrArg (fun b => some (Value.bool b)) (show (!(win g.cap 1 4)) = (((!(win ((g.nodes.length : Nat) : Int) 1 8)) || (!(win g.workers 1 4))) || (!(win g.cap 1 4))) by first | (rw [hg1, hg2] <;> rfl) | (simp [hg1, hg2]; done) | (simp only [nat_nlt] <;> simp)), trivial⟩ ⟨E, (by omega), h1⟩))
  clear E h1
  rintro w3 ⟨E, z5, h1⟩
  refine J_done ?_
  refine S_cond rfl (fun hc1 => ?_) (fun hc1 => ?_)
  · refine S_seq ?_
    refine S_reg [true] rfl rfl ?_
    refine J_st (R_assign rfl) rfl (J_done ?_)
    refine S_ret (E_done1 rfl rfl E ?_)
    exact graph_h (by assumption)
  · refine S_skip ?_
    refine S_seq ?_
    refine S_seq ?_
    refine S_reg [true, true, true, true] rfl rfl ?_
    refine J_st (R_fieldAddr0 fl30_0 rfl) rfl (J_st (R_load sc28 rfl (h1.one 0 rfl)) rfl (J_st (R_len Try.underlying28 rfl (hd1.ext E).len) rfl (J_st (R_move rfl) rfl (J_done ?_))))
    refine S_block ?_
    refine S_loop (fun (i : Nat) => [(1, .pointer (some ⟨b1, 0, none⟩)), (2, .bool false), (26, o1), (27, .int .i64 ((g.nodes.length : Nat) : Int)), (28, .int .i64 ((i : Nat) : Int))]) (fun (i : Nat) w' => Ext w w' ∧ w3.heap.size ≤ w'.heap.size ∧ Blk w' b1 ([o1, .int .i64 g.workers, .int .i64 g.cap]) ∧ i ≤ g.nodes.length ∧ (∀ j, j < i → nodeAtOk g j (List.getD g.nodes j default) = true)) (fun (i : Nat) => g.nodes.length - i) 0 ⟨rfl, rfl, rfl, rfl, rfl, trivial⟩ ⟨E, Nat.le_refl _, h1, Nat.zero_le _, (fun j hj => by omega)⟩ ?_
    clear E h1
    rintro i w6 ⟨E, z6, h1, hle, hp⟩
    refine S_seq ?_
    refine S_reg [true] rfl rfl ?_
    refine J_st (R_lss rfl rfl) rfl (J_done ?_)
    refine S_seq ?_
    refine S_cond rfl (fun hc2 => ?_) (fun hc2 => ?_)
    · have hc2n : i < g.nodes.length := by first | (have h := of_decide_eq_true hc2; omega) | (have h := hc2; simp at h; omega)
      refine S_skip ?_
      refine S_seq ?_
      refine S_block ?_
      refine S_seq ?_
      refine S_reg [true, true, true, false, true, false] rfl rfl ?_
      refine J_st (R_move rfl) rfl ?_
      have hi1 : i < g.nodes.length := (by first | assumption | omega | (simp only [List.length_set]; first | assumption | omega) | (simp only [List.getElem_set_self, List.length_set]; first | assumption | omega) | (simp only [setW, setLk, List.length_set]; first | assumption | omega))
      obtain ⟨_, hr1, ha1⟩ := RdD.get hd1 hi1
      obtain ⟨o2, rfl, hd2⟩ := Node.op hr1
      replace ha1 : At w (sblk o1) (soff o1 + i * 4) [.int .i64 ((g.nodes[i]'hi1).kind), .int .i64 ((g.nodes[i]'hi1).a), .int .i64 ((g.nodes[i]'hi1).b), o2] := ha1
      refine J_st (R_index (i := i) sl28 rfl rfl (hd1.ext E).1 hi1) rfl (J_st (R_loadS st90 rfl (ha1.ext E) rfl) rfl ?_)
      refine J_alloc st90 rfl (fun b2 w7 e5 s2 h2 => ?_)
      have g_b2 : w.heap.size ≤ b2 := by have := E.size; omega
      have y_b2 := h2.lt
      replace E := E.trans e5; replace h1 := h1.ext e5
      have z7 := e5.size
      refine J_st (R_assign rfl) rfl ?_
      refine J_storeS' (cs' := [.int .i64 ((g.nodes[i]'hi1).kind), .int .i64 ((g.nodes[i]'hi1).a), .int .i64 ((g.nodes[i]'hi1).b), o2]) st90 rfl rfl rfl (all_cons rfl (all_cons rfl (all_cons rfl (all_cons (RdD.one (hd2.ext E)) rfl)))) h2 (Nat.le_of_ble_eq_true rfl) rfl (fun w8 m1 h2' => ?_)
      replace h2 := h2'
      replace E := E.step m1 (fun g hg => by cases hg; omega); replace h1 := h1.mod m1 (fun g hg => by cases hg; omega)
      have z8 := m1.size
      refine J_done ?_
      refine S_seq ?_
      refine S_seq ?_
      refine S_reg [true, false, true, true, true, true, true, true, true, true, true] rfl rfl ?_
      refine J_st (R_loadS st90 rfl h2.at rfl) rfl ?_
      refine J_call Try.call58 rfl (c_NodeOk [.int .i64 ((g.nodes[i]'hi1).kind), .int .i64 ((g.nodes[i]'hi1).a), .int .i64 ((g.nodes[i]'hi1).b), o2] (g.nodes[i]'hi1) _ (Node.mkR (g.nodes[i]'hi1) (RdD.any (hd2.ext E)))) rfl (fun _ w9 e6 hv => ?_)
      subst hv
      replace E := E.trans e6; replace h1 := h1.ext e6; replace h2 := h2.ext e6
      have z9 := e6.size
      refine J_st (R_not rfl) rfl (J_st (R_move rfl) rfl ?_)
      refine J_cut 7 [(1, .pointer (some ⟨b1, 0, none⟩)), (2, .bool false), (3, .int .i64 ((i : Nat) : Int)), (4, .pointer (some ⟨b2, 0, none⟩)), (26, o1), (27, .int .i64 ((g.nodes.length : Nat) : Int)), (28, .int .i64 ((i : Nat) : Int)), (29, .bool (decide (((i : Nat) : Int) < ((g.nodes.length : Nat) : Int)))), (30, .int .i64 ((i : Nat) : Int)), (31, .pointer (some ⟨sblk o1, soff o1 + i * 4, none⟩)), (32, .agg [.int .i64 ((g.nodes[i]'hi1).kind), .int .i64 ((g.nodes[i]'hi1).a), .int .i64 ((g.nodes[i]'hi1).b), o2].toArray), (43, .bool ((!(nodeOk (g.nodes[i]'hi1))) || (!((((g.nodes[i]'hi1).kind) == 1) == (((i : Nat) : Int) == 0)))))] (fun w' => w9 = w') ?_ ?_
      · refine J_if (gd := 36) rfl rfl (fun hg3 => ?_) (fun hg3 => ?_)
        · refine J_gdno rfl rfl rfl rfl (J_gdno rfl rfl rfl rfl (J_gdno rfl rfl rfl rfl (J_gdno rfl rfl rfl rfl (J_gdno rfl rfl rfl rfl (J_gdno rfl rfl rfl rfl (J_st (R_pickT rfl rfl) rfl (J_cutEnd ⟨rfl, rfl, rfl, rfl, rfl, rfl, rfl, rfl, rfl, rfl, rfl, congrArg (fun b => some (Value.bool b)) (show true = ((!(nodeOk (g.nodes[i]'hi1))) || (!((((g.nodes[i]'hi1).kind) == 1) == (((i : Nat) : Int) == 0)))) by first | (rw [hg3] <;> rfl) | (simp [hg3]; done) | (simp only [nat_nlt] <;> simp)), trivial⟩ rfl)))))))
        · refine J_gd rfl rfl (R_fieldAddr0 fl90_0 rfl) rfl (J_gd rfl rfl (R_load sc3 rfl (h2.one 0 rfl)) rfl (J_gd rfl rfl (R_eql rfl rfl) rfl (J_gd rfl rfl (R_move rfl) rfl (J_gd rfl rfl (R_eql rfl rfl) rfl (J_gd rfl rfl (R_neqB (Try.underlying4) rfl rfl) rfl (J_st (R_pickF rfl rfl) rfl (J_cutEnd ⟨rfl, rfl, rfl, rfl, rfl, rfl, rfl, rfl, rfl, rfl, rfl, congrArg (fun b => some (Value.bool b)) (show (!((((g.nodes[i]'hi1).kind) == 1) == (((i : Nat) : Int) == 0))) = ((!(nodeOk (g.nodes[i]'hi1))) || (!((((g.nodes[i]'hi1).kind) == 1) == (((i : Nat) : Int) == 0)))) by first | (rw [hg3] <;> rfl) | (simp [hg3]; done) | (simp only [nat_nlt] <;> simp)), trivial⟩ rfl)))))))
      rintro _ rfl
      refine J_done ?_
      refine S_cond rfl (fun hc3 => ?_) (fun hc3 => ?_)
      · refine S_seq ?_
        refine S_reg [true] rfl rfl ?_
        refine J_st (R_assign rfl) rfl (J_done ?_)
        refine S_ret (E_inB_ret (E_lp_ret (E_inB_ret (E_done1 rfl rfl E ?_))))
        exact graph_a (by assumption)
      · refine S_skip ?_
        refine S_seq ?_
        refine S_reg [true, true, true, true] rfl rfl ?_
        refine J_st (R_fieldAddr0 fl90_3 rfl) rfl (J_st (R_load sc58 rfl (h2.one 3 rfl)) rfl (J_st (R_len Try.underlying58 rfl (hd2.ext E).len) rfl (J_st (R_move rfl) rfl (J_done ?_))))
        refine S_block ?_
        refine S_loop (fun (k : Nat) => [(1, .pointer (some ⟨b1, 0, none⟩)), (2, .bool false), (3, .int .i64 ((i : Nat) : Int)), (4, .pointer (some ⟨b2, 0, none⟩)), (26, o1), (27, .int .i64 ((g.nodes.length : Nat) : Int)), (28, .int .i64 ((i : Nat) : Int)), (45, o2), (46, .int .i64 ((((g.nodes[i]'hi1).outs).length : Nat) : Int)), (47, .int .i64 ((k : Nat) : Int))]) (fun (k : Nat) w' => Ext w w' ∧ w9.heap.size ≤ w'.heap.size ∧ Blk w' b1 ([o1, .int .i64 g.workers, .int .i64 g.cap]) ∧ Blk w' b2 [.int .i64 ((g.nodes[i]'hi1).kind), .int .i64 ((g.nodes[i]'hi1).a), .int .i64 ((g.nodes[i]'hi1).b), o2] ∧ k ≤ (g.nodes[i]'hi1).outs.length ∧ ((g.nodes[i]'hi1).outs.take k).all (fun to => !edgeBad g i (g.nodes[i]'hi1) to) = true) (fun (k : Nat) => (g.nodes[i]'hi1).outs.length - k) 0 ⟨rfl, rfl, rfl, rfl, rfl, rfl, rfl, rfl, rfl, rfl, trivial⟩ ⟨E, Nat.le_refl _, h1, h2, Nat.zero_le _, rfl⟩ ?_
        clear E h1 h2
        rintro k w11 ⟨E, z10, h1, h2, hk, hI⟩
        refine S_seq ?_
        refine S_reg [true] rfl rfl ?_
        refine J_st (R_lss rfl rfl) rfl (J_done ?_)
        refine S_seq ?_
        refine S_cond rfl (fun hc4 => ?_) (fun hc4 => ?_)
        · have hc4n : k < ((g.nodes[i]'hi1).outs).length := by first | (have h := of_decide_eq_true hc4; omega) | (have h := hc4; simp at h; omega)
          refine S_skip ?_
          refine S_seq ?_
          refine S_block ?_
          refine S_seq ?_
          refine S_reg [true, true, true] rfl rfl ?_
          have hi2 : k < ((g.nodes[i]'hi1).outs).length := (by first | assumption | omega | (simp only [List.length_set]; first | assumption | omega) | (simp only [List.getElem_set_self, List.length_set]; first | assumption | omega) | (simp only [setW, setLk, List.length_set]; first | assumption | omega))
          refine J_st (R_index (i := k) sl58 rfl rfl (hd2.rd.ext E) hi2) rfl (J_st (R_load sc3 rfl (((hd2.rd.ext E).get hi2).one 0 rfl)) rfl (J_st (R_assign rfl) rfl (J_done ?_)))
          refine S_seq ?_
          refine S_seq ?_
          refine S_reg [true, true, true, true, true] rfl rfl ?_
          refine J_st (R_move rfl) rfl (J_st (R_fieldAddr0 fl30_0 rfl) rfl (J_st (R_load sc28 rfl (h1.one 0 rfl)) rfl (J_st (R_len Try.underlying28 rfl (hd1.ext E).len) rfl (J_st (R_geq rfl rfl) rfl (J_done ?_)))))
          refine S_cond rfl (fun hc5 => ?_) (fun hc5 => ?_)
          · refine S_seq ?_
            refine S_reg [true] rfl rfl ?_
            refine J_st (R_assign rfl) rfl (J_done ?_)
            refine S_ret (E_inB_ret (E_lp_ret (E_inB_ret (E_inB_ret (E_lp_ret (E_inB_ret (E_done1 rfl rfl E ?_)))))))
            exact graph_e (edge_a (by assumption))
          · have hto := graph_to (h1 := hi1) (h2 := hi2) (by assumption)
            have htl := Int.not_le.1 (of_decide_eq_false hc5)
            refine S_skip ?_
            refine S_seq ?_
            refine S_reg [true, true, true, true, true, true, true] rfl rfl ?_
            refine J_st (R_fieldAddr0 fl30_0 rfl) rfl (J_st (R_load sc28 rfl (h1.one 0 rfl)) rfl (J_st (R_move rfl) rfl ?_))
            have hi3 : (Int.toNat (((g.nodes[i]'hi1).outs)[k]'hi2)) < g.nodes.length := (by first | assumption | omega | (simp only [List.length_set]; first | assumption | omega) | (simp only [List.getElem_set_self, List.length_set]; first | assumption | omega) | (simp only [setW, setLk, List.length_set]; first | assumption | omega))
            obtain ⟨_, hr2, ha2⟩ := RdD.get hd1 hi3
            obtain ⟨o3, rfl, hd3⟩ := Node.op hr2
            replace ha2 : At w (sblk o1) (soff o1 + (Int.toNat (((g.nodes[i]'hi1).outs)[k]'hi2)) * 4) [.int .i64 ((g.nodes[(Int.toNat (((g.nodes[i]'hi1).outs)[k]'hi2))]'hi3).kind), .int .i64 ((g.nodes[(Int.toNat (((g.nodes[i]'hi1).outs)[k]'hi2))]'hi3).a), .int .i64 ((g.nodes[(Int.toNat (((g.nodes[i]'hi1).outs)[k]'hi2))]'hi3).b), o3] := ha2
            refine J_st (R_indexZ (i := (Int.toNat (((g.nodes[i]'hi1).outs)[k]'hi2))) sl28 rfl rfl (hd1.ext E).1 (by omega) hi3) rfl (J_st (R_fieldAddr fl90_0 rfl) rfl (J_st (R_load sc3 rfl ((ha2.ext E).one 0 rfl)) rfl (J_st (R_assign rfl) rfl (J_done ?_))))
            refine S_seq ?_
            refine S_reg [true, true, true, true, true, true, true, true, true, true, true, true, true, true, true, true, true, true, true, true, true, true, true, true, true, true] rfl rfl ?_
            refine J_st (R_fieldAddr0 fl90_0 rfl) rfl (J_st (R_load sc3 rfl (h2.one 0 rfl)) rfl (J_st (R_eql rfl rfl) rfl (J_st (R_move rfl) rfl ?_)))
            refine J_cut 22 [(1, .pointer (some ⟨b1, 0, none⟩)), (2, .bool false), (3, .int .i64 ((i : Nat) : Int)), (4, .pointer (some ⟨b2, 0, none⟩)), (6, .int .i64 (((g.nodes[i]'hi1).outs)[k]'hi2)), (7, .int .i64 ((g.nodes[(Int.toNat (((g.nodes[i]'hi1).outs)[k]'hi2))]'hi3).kind)), (26, o1), (27, .int .i64 ((g.nodes.length : Nat) : Int)), (28, .int .i64 ((i : Nat) : Int)), (45, o2), (46, .int .i64 ((((g.nodes[i]'hi1).outs).length : Nat) : Int)), (47, .int .i64 ((k : Nat) : Int)), (48, .bool (decide (((k : Nat) : Int) < ((((g.nodes[i]'hi1).outs).length : Nat) : Int)))), (49, .pointer (some ⟨sblk o2, soff o2 + k * 1, none⟩)), (50, .int .i64 (((g.nodes[i]'hi1).outs)[k]'hi2)), (51, .int .i64 (((g.nodes[i]'hi1).outs)[k]'hi2)), (52, .pointer (some ⟨b1, 0, none⟩)), (53, o1), (54, .int .i64 ((g.nodes.length : Nat) : Int)), (55, .bool (decide (((g.nodes.length : Nat) : Int) ≤ (((g.nodes[i]'hi1).outs)[k]'hi2)))), (56, .pointer (some ⟨b1, 0, none⟩)), (57, o1), (58, .int .i64 (((g.nodes[i]'hi1).outs)[k]'hi2)), (59, .pointer (some ⟨sblk o1, soff o1 + (Int.toNat (((g.nodes[i]'hi1).outs)[k]'hi2)) * 4, none⟩)), (60, .pointer (some ⟨(sblk o1), soff o1 + (Int.toNat (((g.nodes[i]'hi1).outs)[k]'hi2)) * 4 + 0, none⟩)), (61, .int .i64 ((g.nodes[(Int.toNat (((g.nodes[i]'hi1).outs)[k]'hi2))]'hi3).kind)), (87, .bool (((((g.nodes[i]'hi1).kind) == 7) && ((decide (((i : Nat) : Int) < (((g.nodes[i]'hi1).outs)[k]'hi2))) || ((((g.nodes[(Int.toNat (((g.nodes[i]'hi1).outs)[k]'hi2))]'hi3).kind) != 5) && (((g.nodes[(Int.toNat (((g.nodes[i]'hi1).outs)[k]'hi2))]'hi3).kind) != 6)))) || ((((g.nodes[i]'hi1).kind) != 7) && (decide ((((g.nodes[i]'hi1).outs)[k]'hi2) ≤ ((i : Nat) : Int))))))] (fun w' => w11 = w') ?_ ?_
            · refine J_if (gd := 65) rfl rfl (fun hg4 => ?_) (fun hg4 => ?_)
              · refine J_gd rfl rfl (R_move rfl) rfl (J_gd rfl rfl (R_move rfl) rfl (J_gd rfl rfl (R_gtr rfl rfl) rfl (J_gd rfl rfl (R_move rfl) rfl ?_)))
                refine J_if (gd := 69) rfl rfl (fun hg5 => ?_) (fun hg5 => ?_)
                · refine J_gdno rfl rfl rfl rfl (J_gdno rfl rfl rfl rfl (J_gdno rfl rfl rfl rfl (J_gdx rfl rfl rfl (J_gdx rfl rfl rfl (J_gdno rfl rfl rfl rfl (J_gd rfl rfl (R_pickT rfl rfl) rfl (J_st (R_pickT rfl rfl) rfl (J_st (R_move rfl) rfl (J_gdno rfl rfl rfl rfl (J_gdno rfl rfl rfl rfl (J_gdno rfl rfl rfl rfl (J_gdno rfl rfl rfl rfl (J_gdx rfl rfl rfl (J_gdx rfl rfl rfl (J_gdx rfl rfl rfl (J_gdno rfl rfl rfl rfl (J_st (R_pickT rfl rfl) rfl (J_cutEnd ⟨rfl, rfl, rfl, rfl, rfl, rfl, rfl, rfl, rfl, rfl, rfl, rfl, rfl, rfl, rfl, rfl, rfl, rfl, rfl, rfl, rfl, rfl, rfl, rfl, rfl, rfl, congrArg (fun b => some (Value.bool b)) (show true = (((((g.nodes[i]'hi1).kind) == 7) && ((decide (((i : Nat) : Int) < (((g.nodes[i]'hi1).outs)[k]'hi2))) || ((((g.nodes[(Int.toNat (((g.nodes[i]'hi1).outs)[k]'hi2))]'hi3).kind) != 5) && (((g.nodes[(Int.toNat (((g.nodes[i]'hi1).outs)[k]'hi2))]'hi3).kind) != 6)))) || ((((g.nodes[i]'hi1).kind) != 7) && (decide ((((g.nodes[i]'hi1).outs)[k]'hi2) ≤ ((i : Nat) : Int))))) by first | (rw [hg4, hg5] <;> rfl) | (simp [hg4, hg5]; done) | (simp only [nat_nlt] <;> simp)), trivial⟩ rfl))))))))))))))))))
                · refine J_gd rfl rfl (R_move rfl) rfl (J_gd rfl rfl (R_neq rfl rfl) rfl (J_gd rfl rfl (R_move rfl) rfl ?_))
                  refine J_if (gd := 72) rfl rfl (fun hg6 => ?_) (fun hg6 => ?_)
                  · refine J_gd rfl rfl (R_move rfl) rfl (J_gd rfl rfl (R_neq rfl rfl) rfl (J_gd rfl rfl (R_pickT rfl rfl) rfl (J_gd rfl rfl (R_pickF rfl rfl) rfl (J_st (R_pickT rfl rfl) rfl (J_st (R_move rfl) rfl ?_)))))
                    refine J_if (gd := 78) rfl rfl (fun hg7 => ?_) (fun hg7 => ?_)
                    · refine J_gdno rfl rfl rfl rfl (J_gdno rfl rfl rfl rfl (J_gdno rfl rfl rfl rfl (J_gdno rfl rfl rfl rfl (J_gdx rfl rfl rfl (J_gdx rfl rfl rfl (J_gdx rfl rfl rfl (J_gdno rfl rfl rfl rfl (J_st (R_pickT rfl rfl) rfl (J_cutEnd ⟨rfl, rfl, rfl, rfl, rfl, rfl, rfl, rfl, rfl, rfl, rfl, rfl, rfl, rfl, rfl, rfl, rfl, rfl, rfl, rfl, rfl, rfl, rfl, rfl, rfl, rfl, congrArg (fun b => some (Value.bool b)) (show true = (((((g.nodes[i]'hi1).kind) == 7) && ((decide (((i : Nat) : Int) < (((g.nodes[i]'hi1).outs)[k]'hi2))) || ((((g.nodes[(Int.toNat (((g.nodes[i]'hi1).outs)[k]'hi2))]'hi3).kind) != 5) && (((g.nodes[(Int.toNat (((g.nodes[i]'hi1).outs)[k]'hi2))]'hi3).kind) != 6)))) || ((((g.nodes[i]'hi1).kind) != 7) && (decide ((((g.nodes[i]'hi1).outs)[k]'hi2) ≤ ((i : Nat) : Int))))) by first | (rw [hg4, hg5, hg6, hg7] <;> rfl) | (simp [hg4, hg5, hg6, hg7]; done) | (simp only [nat_nlt] <;> simp)), trivial⟩ rfl)))))))))
                    · refine J_gd rfl rfl (R_fieldAddr0 fl90_0 rfl) rfl (J_gd rfl rfl (R_load sc3 rfl (h2.one 0 rfl)) rfl (J_gd rfl rfl (R_neq rfl rfl) rfl (J_gd rfl rfl (R_move rfl) rfl ?_)))
                      refine J_if (gd := 82) rfl rfl (fun hg8 => ?_) (fun hg8 => ?_)
                      · refine J_gd rfl rfl (R_move rfl) rfl (J_gd rfl rfl (R_move rfl) rfl (J_gd rfl rfl (R_leq rfl rfl) rfl (J_gd rfl rfl (R_pickT rfl rfl) rfl (J_st (R_pickF rfl rfl) rfl (J_cutEnd ⟨rfl, rfl, rfl, rfl, rfl, rfl, rfl, rfl, rfl, rfl, rfl, rfl, rfl, rfl, rfl, rfl, rfl, rfl, rfl, rfl, rfl, rfl, rfl, rfl, rfl, rfl, congrArg (fun b => some (Value.bool b)) (show (decide ((((g.nodes[i]'hi1).outs)[k]'hi2) ≤ ((i : Nat) : Int))) = (((((g.nodes[i]'hi1).kind) == 7) && ((decide (((i : Nat) : Int) < (((g.nodes[i]'hi1).outs)[k]'hi2))) || ((((g.nodes[(Int.toNat (((g.nodes[i]'hi1).outs)[k]'hi2))]'hi3).kind) != 5) && (((g.nodes[(Int.toNat (((g.nodes[i]'hi1).outs)[k]'hi2))]'hi3).kind) != 6)))) || ((((g.nodes[i]'hi1).kind) != 7) && (decide ((((g.nodes[i]'hi1).outs)[k]'hi2) ≤ ((i : Nat) : Int))))) by first | (rw [hg4, hg5, hg6, hg7, hg8] <;> rfl) | (simp [hg4, hg5, hg6, hg7, hg8]; done) | (simp only [nat_nlt] <;> simp)), trivial⟩ rfl)))))
                      · refine J_gdno rfl rfl rfl rfl (J_gdno rfl rfl rfl rfl (J_gdno rfl rfl rfl rfl (J_gd rfl rfl (R_pickF rfl rfl) rfl (J_st (R_pickF rfl rfl) rfl (J_cutEnd ⟨rfl, rfl, rfl, rfl, rfl, rfl, rfl, rfl, rfl, rfl, rfl, rfl, rfl, rfl, rfl, rfl, rfl, rfl, rfl, rfl, rfl, rfl, rfl, rfl, rfl, rfl, congrArg (fun b => some (Value.bool b)) (show false = (((((g.nodes[i]'hi1).kind) == 7) && ((decide (((i : Nat) : Int) < (((g.nodes[i]'hi1).outs)[k]'hi2))) || ((((g.nodes[(Int.toNat (((g.nodes[i]'hi1).outs)[k]'hi2))]'hi3).kind) != 5) && (((g.nodes[(Int.toNat (((g.nodes[i]'hi1).outs)[k]'hi2))]'hi3).kind) != 6)))) || ((((g.nodes[i]'hi1).kind) != 7) && (decide ((((g.nodes[i]'hi1).outs)[k]'hi2) ≤ ((i : Nat) : Int))))) by first | (rw [hg4, hg5, hg6, hg7, hg8] <;> rfl) | (simp [hg4, hg5, hg6, hg7, hg8]; done) | (simp only [nat_nlt] <;> simp)), trivial⟩ rfl)))))
                  · refine J_gdno rfl rfl rfl rfl (J_gdno rfl rfl rfl rfl (J_gd rfl rfl (R_pickF rfl rfl) rfl (J_gd rfl rfl (R_pickF rfl rfl) rfl (J_st (R_pickT rfl rfl) rfl (J_st (R_move rfl) rfl (J_gd rfl rfl (R_fieldAddr0 fl90_0 rfl) rfl (J_gd rfl rfl (R_load sc3 rfl (h2.one 0 rfl)) rfl (J_gd rfl rfl (R_neq rfl rfl) rfl (J_gd rfl rfl (R_move rfl) rfl ?_)))))))))
                    refine J_if (gd := 82) rfl rfl (fun hg9 => ?_) (fun hg9 => ?_)
                    · refine J_gd rfl rfl (R_move rfl) rfl (J_gd rfl rfl (R_move rfl) rfl (J_gd rfl rfl (R_leq rfl rfl) rfl (J_gd rfl rfl (R_pickT rfl rfl) rfl (J_st (R_pickF rfl rfl) rfl (J_cutEnd ⟨rfl, rfl, rfl, rfl, rfl, rfl, rfl, rfl, rfl, rfl, rfl, rfl, rfl, rfl, rfl, rfl, rfl, rfl, rfl, rfl, rfl, rfl, rfl, rfl, rfl, rfl, congrArg (fun b => some (Value.bool b)) (show (decide ((((g.nodes[i]'hi1).outs)[k]'hi2) ≤ ((i : Nat) : Int))) = (((((g.nodes[i]'hi1).kind) == 7) && ((decide (((i : Nat) : Int) < (((g.nodes[i]'hi1).outs)[k]'hi2))) || ((((g.nodes[(Int.toNat (((g.nodes[i]'hi1).outs)[k]'hi2))]'hi3).kind) != 5) && (((g.nodes[(Int.toNat (((g.nodes[i]'hi1).outs)[k]'hi2))]'hi3).kind) != 6)))) || ((((g.nodes[i]'hi1).kind) != 7) && (decide ((((g.nodes[i]'hi1).outs)[k]'hi2) ≤ ((i : Nat) : Int))))) by first | (rw [hg4, hg5, hg6, hg9] <;> rfl) | (simp [hg4, hg5, hg6, hg9]; done) | (simp only [nat_nlt] <;> simp)), trivial⟩ rfl)))))
                    · refine J_gdno rfl rfl rfl rfl (J_gdno rfl rfl rfl rfl (J_gdno rfl rfl rfl rfl (J_gd rfl rfl (R_pickF rfl rfl) rfl (J_st (R_pickF rfl rfl) rfl (J_cutEnd ⟨rfl, rfl, rfl, rfl, rfl, rfl, rfl, rfl, rfl, rfl, rfl, rfl, rfl, rfl, rfl, rfl, rfl, rfl, rfl, rfl, rfl, rfl, rfl, rfl, rfl, rfl, congrArg (fun b => some (Value.bool b)) (show false = (((((g.nodes[i]'hi1).kind) == 7) && ((decide (((i : Nat) : Int) < (((g.nodes[i]'hi1).outs)[k]'hi2))) || ((((g.nodes[(Int.toNat (((g.nodes[i]'hi1).outs)[k]'hi2))]'hi3).kind) != 5) && (((g.nodes[(Int.toNat (((g.nodes[i]'hi1).outs)[k]'hi2))]'hi3).kind) != 6)))) || ((((g.nodes[i]'hi1).kind) != 7) && (decide ((((g.nodes[i]'hi1).outs)[k]'hi2) ≤ ((i : Nat) : Int))))) by first | (rw [hg4, hg5, hg6, hg9] <;> rfl) | (simp [hg4, hg5, hg6, hg9]; done) | (simp only [nat_nlt] <;> simp)), trivial⟩ rfl)))))
              · refine J_gdno rfl rfl rfl rfl (J_gdno rfl rfl rfl rfl (J_gdno rfl rfl rfl rfl (J_gdno rfl rfl rfl rfl (J_gdx rfl rfl rfl (J_gdx rfl rfl rfl (J_gdx rfl rfl rfl (J_gdx rfl rfl rfl (J_gdx rfl rfl rfl (J_gdx rfl rfl rfl (J_gdno rfl rfl rfl rfl (J_st (R_pickF rfl rfl) rfl (J_st (R_move rfl) rfl (J_gd rfl rfl (R_fieldAddr0 fl90_0 rfl) rfl (J_gd rfl rfl (R_load sc3 rfl (h2.one 0 rfl)) rfl (J_gd rfl rfl (R_neq rfl rfl) rfl (J_gd rfl rfl (R_move rfl) rfl ?_))))))))))))))))
                refine J_if (gd := 82) rfl rfl (fun hg10 => ?_) (fun hg10 => ?_)
                · refine J_gd rfl rfl (R_move rfl) rfl (J_gd rfl rfl (R_move rfl) rfl (J_gd rfl rfl (R_leq rfl rfl) rfl (J_gd rfl rfl (R_pickT rfl rfl) rfl (J_st (R_pickF rfl rfl) rfl (J_cutEnd ⟨rfl, rfl, rfl, rfl, rfl, rfl, rfl, rfl, rfl, rfl, rfl, rfl, rfl, rfl, rfl, rfl, rfl, rfl, rfl, rfl, rfl, rfl, rfl, rfl, rfl, rfl, congrArg (fun b => some (Value.bool b)) (show (decide ((((g.nodes[i]'hi1).outs)[k]'hi2) ≤ ((i : Nat) : Int))) = (((((g.nodes[i]'hi1).kind) == 7) && ((decide (((i : Nat) : Int) < (((g.nodes[i]'hi1).outs)[k]'hi2))) || ((((g.nodes[(Int.toNat (((g.nodes[i]'hi1).outs)[k]'hi2))]'hi3).kind) != 5) && (((g.nodes[(Int.toNat (((g.nodes[i]'hi1).outs)[k]'hi2))]'hi3).kind) != 6)))) || ((((g.nodes[i]'hi1).kind) != 7) && (decide ((((g.nodes[i]'hi1).outs)[k]'hi2) ≤ ((i : Nat) : Int))))) by first | (rw [hg4, hg10] <;> rfl) | (simp [hg4, hg10]; done) | (simp only [nat_nlt] <;> simp)), trivial⟩ rfl)))))
                · refine J_gdno rfl rfl rfl rfl (J_gdno rfl rfl rfl rfl (J_gdno rfl rfl rfl rfl (J_gd rfl rfl (R_pickF rfl rfl) rfl (J_st (R_pickF rfl rfl) rfl (J_cutEnd ⟨rfl, rfl, rfl, rfl, rfl, rfl, rfl, rfl, rfl, rfl, rfl, rfl, rfl, rfl, rfl, rfl, rfl, rfl, rfl, rfl, rfl, rfl, rfl, rfl, rfl, rfl, congrArg (fun b => some (Value.bool b)) (show false = (((((g.nodes[i]'hi1).kind) == 7) && ((decide (((i : Nat) : Int) < (((g.nodes[i]'hi1).outs)[k]'hi2))) || ((((g.nodes[(Int.toNat (((g.nodes[i]'hi1).outs)[k]'hi2))]'hi3).kind) != 5) && (((g.nodes[(Int.toNat (((g.nodes[i]'hi1).outs)[k]'hi2))]'hi3).kind) != 6)))) || ((((g.nodes[i]'hi1).kind) != 7) && (decide ((((g.nodes[i]'hi1).outs)[k]'hi2) ≤ ((i : Nat) : Int))))) by first | (rw [hg4, hg10] <;> rfl) | (simp [hg4, hg10]; done) | (simp only [nat_nlt] <;> simp)), trivial⟩ rfl)))))
            rintro _ rfl
            refine J_done ?_
            refine S_cond rfl (fun hc6 => ?_) (fun hc6 => ?_)
            · refine S_seq ?_
              refine S_reg [true] rfl rfl ?_
              refine J_st (R_assign rfl) rfl (J_done ?_)
              refine S_ret (E_inB_ret (E_lp_ret (E_inB_ret (E_inB_ret (E_lp_ret (E_inB_ret (E_done1 rfl rfl E ?_)))))))
              exact graph_e (edge_b (congrArg Node.kind (getD_at _)).symm (by assumption))
            · refine S_skip ?_
              refine S_nil (E_inB ?_)
              refine S_reg [true, true] rfl rfl ?_
              refine J_st (R_add rfl rfl (add_one hc4n (hd2.ext E).1.1)) rfl (J_st (R_move rfl) rfl (J_done ?_))
              refine S_nil (E_again (k + 1) (by omega) ⟨rfl, rfl, rfl, rfl, rfl, rfl, rfl, rfl, rfl, rfl, trivial⟩ ⟨E, (by omega), h1, h2, (by omega), all_step hI (by assumption) (edge_n (congrArg Node.kind (getD_at _)).symm (by assumption) (by assumption))⟩)
        · have hc4n : ¬ k < ((g.nodes[i]'hi1).outs).length := by first | (have h := of_decide_eq_false hc4; omega) | (have h := hc4; simp at h; omega)
          refine S_exit (E_lp_exit (E_inB_exit ?_))
          refine S_nil (E_inB ?_)
          refine S_reg [true, true] rfl rfl ?_
          refine J_st (R_add rfl rfl (add_one hc2n (hd1.ext E).1.1)) rfl (J_st (R_move rfl) rfl (J_done ?_))
          refine S_nil (E_again (i + 1) (by omega) ⟨rfl, rfl, rfl, rfl, rfl, trivial⟩ ⟨E, (by omega), h1, (by omega), graph_s (h1 := hi1) (by assumption) hI (by omega) hp⟩)
    · have hc2n : ¬ i < g.nodes.length := by first | (have h := of_decide_eq_false hc2; omega) | (have h := hc2; simp at h; omega)
      refine S_exit (E_lp_exit (E_inB_exit ?_))
      refine S_seq ?_
      refine S_reg [true] rfl rfl ?_
      refine J_st (R_assign rfl) rfl (J_done ?_)
      refine S_ret (E_done1 rfl rfl E ?_)
      exact graph_y (by assumption) hp (by omega)

set_option maxHeartbeats 4000000 in
set_option maxRecDepth 20000 in
theorem s_GraphOk (cg : List Value) (g : Graph) (w : World) (hg : Dat.R w 0 w.heap.size cg g) : Ct Try.prog 18 [.agg cg.toArray] w (fun v _ => v = .bool (graphOk g)) := by
  refine ct_of Try.func18 rfl Try.ntmps18 rfl ?_
  obtain ⟨o1, rfl, hd1⟩ := Graph.op hg
  refine S_sub [(0, .agg [o1, .int .i64 g.workers, .int .i64 g.cap].toArray)] ⟨rfl, trivial⟩ ?_
  have E : Ext w w := Ext.refl w
  refine S_seq ?_
  refine S_reg [false, true] rfl rfl ?_
  refine J_box rfl rfl (fun b1 w1 e1 s1 h1 => ?_)
  have g_b1 : w.heap.size ≤ b1 := by have := E.size; omega
  have y_b1 := h1.lt
  replace E := E.trans e1
  have z1 := e1.size
  refine J_st (R_assign rfl) rfl (J_done ?_)
  refine S_seq ?_
  refine S_seq ?_
  refine S_reg [true, true, true, false, true, true, true, true, false, true, true, true, true, true, false, true, true] rfl rfl ?_
  refine J_st (R_fieldAddr0 fl30_0 rfl) rfl (J_st (R_load sc28 rfl (h1.one 0 rfl)) rfl (J_st (R_len Try.underlying28 rfl (hd1.ext E).len) rfl ?_))
  refine J_call Try.call50 rfl (s_l01In ((g.nodes.length : Nat) : Int) 1 8 _ ) rfl (fun _ w2 e2 hv => ?_)
  subst hv
  replace E := E.trans e2; replace h1 := h1.ext e2
  have z2 := e2.size
  refine J_st (R_not rfl) rfl (J_st (R_move rfl) rfl ?_)
  refine J_cut 11 [(0, .agg [o1, .int .i64 g.workers, .int .i64 g.cap].toArray), (1, .pointer (some ⟨b1, 0, none⟩)), (2, .bool false), (24, .bool (((!(win ((g.nodes.length : Nat) : Int) 1 8)) || (!(win g.workers 1 4))) || (!(win g.cap 1 4))))] (fun w' => Ext w w' ∧ w2.heap.size ≤ w'.heap.size ∧ Blk w' b1 ([o1, .int .i64 g.workers, .int .i64 g.cap])) ?_ ?_
  · refine J_if (gd := 13) rfl rfl (fun hg1 => ?_) (fun hg1 => ?_)
    · refine J_gdno rfl rfl rfl rfl (J_gdno rfl rfl rfl rfl ?_)
      refine J_ungno rfl rfl rfl rfl ?_
      refine J_gdno rfl rfl rfl rfl (J_st (R_pickT rfl rfl) rfl (J_st (R_move rfl) rfl (J_gdno rfl rfl rfl rfl (J_gdno rfl rfl rfl rfl ?_))))
      refine J_ungno rfl rfl rfl rfl ?_
      refine J_gdno rfl rfl rfl rfl (J_st (R_pickT rfl rfl) rfl (J_cutEnd ⟨rfl, rfl, rfl, congrArg (fun b => some (Value.bool b)) (show true = (((!(win ((g.nodes.length : Nat) : Int) 1 8)) || (!(win g.workers 1 4))) || (!(win g.cap 1 4))) by first | (rw [hg1] <;> rfl) | (simp [hg1]; done) | (simp only [nat_nlt] <;> simp)), trivial⟩ ⟨E, (by omega), h1⟩))
    · refine J_gd rfl rfl (R_fieldAddr0 fl30_1 rfl) rfl (J_gd rfl rfl (R_load sc3 rfl (h1.one 1 rfl)) rfl ?_)
      refine J_ung rfl rfl ?_
      refine J_call Try.call50 rfl (s_l01In g.workers 1 4 _ ) rfl (fun _ w4 e3 hv => ?_)
      subst hv
      replace E := E.trans e3; replace h1 := h1.ext e3
      have z3 := e3.size
      refine J_gd rfl rfl (R_not rfl) rfl (J_st (R_pickF rfl rfl) rfl (J_st (R_move rfl) rfl ?_))
      refine J_if (gd := 19) rfl rfl (fun hg2 => ?_) (fun hg2 => ?_)
      · refine J_gdno rfl rfl rfl rfl (J_gdno rfl rfl rfl rfl ?_)
        refine J_ungno rfl rfl rfl rfl ?_
        refine J_gdno rfl rfl rfl rfl (J_st (R_pickT rfl rfl) rfl (J_cutEnd ⟨rfl, rfl, rfl, congrArg (fun b => some (Value.bool b)) (show true = (((!(win ((g.nodes.length : Nat) : Int) 1 8)) || (!(win g.workers 1 4))) || (!(win g.cap 1 4))) by first | (rw [hg1, hg2] <;> rfl) | (simp [hg1, hg2]; done) | (simp only [nat_nlt] <;> simp)), trivial⟩ ⟨E, (by omega), h1⟩))
      · refine J_gd rfl rfl (R_fieldAddr0 fl30_2 rfl) rfl (J_gd rfl rfl (R_load sc3 rfl (h1.one 2 rfl)) rfl ?_)
        refine J_ung rfl rfl ?_
        refine J_call Try.call50 rfl (s_l01In g.cap 1 4 _ ) rfl (fun _ w5 e4 hv => ?_)
        subst hv
        replace E := E.trans e4; replace h1 := h1.ext e4
        have z4 := e4.size
        refine J_gd rfl rfl (R_not rfl) rfl (J_st (R_pickF rfl rfl) rfl (J_cutEnd ⟨rfl, rfl, rfl, congrArg (fun b => some (Value.bool b)) (show (!(win g.cap 1 4)) = (((!(win ((g.nodes.length : Nat) : Int) 1 8)) || (!(win g.workers 1 4))) || (!(win g.cap 1 4))) by first | (rw [hg1, hg2] <;> rfl) | (simp [hg1, hg2]; done) | (simp only [nat_nlt] <;> simp)), trivial⟩ ⟨E, (by omega), h1⟩))
  clear E h1
  rintro w3 ⟨E, z5, h1⟩
  refine J_done ?_
  refine S_cond rfl (fun hc1 => ?_) (fun hc1 => ?_)
  · refine S_seq ?_
    refine S_reg [true] rfl rfl ?_
    refine J_st (R_assign rfl) rfl (J_done ?_)
    refine S_ret (E_done1 rfl rfl E ?_)
    exact graph_h (by assumption)
  · refine S_skip ?_
    refine S_seq ?_
    refine S_seq ?_
    refine S_reg [true] rfl rfl ?_
    refine J_st (R_assign rfl) rfl (J_done ?_)
    refine S_block ?_
    refine S_loop (fun (i : Nat) => [(1, .pointer (some ⟨b1, 0, none⟩)), (2, .bool false), (3, .int .i64 ((i : Nat) : Int))]) (fun (i : Nat) w' => Ext w w' ∧ w3.heap.size ≤ w'.heap.size ∧ Blk w' b1 ([o1, .int .i64 g.workers, .int .i64 g.cap]) ∧ i ≤ g.nodes.length ∧ (∀ j, j < i → nodeAtOk g j (List.getD g.nodes j default) = true)) (fun (i : Nat) => g.nodes.length - i) 0 ⟨rfl, rfl, rfl, trivial⟩ ⟨E, Nat.le_refl _, h1, Nat.zero_le _, (fun j hj => by omega)⟩ ?_
    clear E h1
    rintro i w6 ⟨E, z6, h1, hle, hp⟩
    refine S_seq ?_
    refine S_seq ?_
    refine S_reg [true, true, true, true, true] rfl rfl ?_
    refine J_st (R_move rfl) rfl (J_st (R_fieldAddr0 fl30_0 rfl) rfl (J_st (R_load sc28 rfl (h1.one 0 rfl)) rfl (J_st (R_len Try.underlying28 rfl (hd1.ext E).len) rfl (J_st (R_lss rfl rfl) rfl (J_done ?_)))))
    refine S_cond rfl (fun hc2 => ?_) (fun hc2 => ?_)
    · have hc2n : i < g.nodes.length := by first | (have h := of_decide_eq_true hc2; omega) | (have h := hc2; simp at h; omega)
      refine S_skip ?_
      refine S_seq ?_
      refine S_block ?_
      refine S_seq ?_
      refine S_reg [true, true, true, true, true, false, false] rfl rfl ?_
      refine J_st (R_fieldAddr0 fl30_0 rfl) rfl (J_st (R_load sc28 rfl (h1.one 0 rfl)) rfl (J_st (R_move rfl) rfl ?_))
      have hi1 : i < g.nodes.length := (by first | assumption | omega | (simp only [List.length_set]; first | assumption | omega) | (simp only [List.getElem_set_self, List.length_set]; first | assumption | omega) | (simp only [setW, setLk, List.length_set]; first | assumption | omega))
      obtain ⟨_, hr1, ha1⟩ := RdD.get hd1 hi1
      obtain ⟨o2, rfl, hd2⟩ := Node.op hr1
      replace ha1 : At w (sblk o1) (soff o1 + i * 4) [.int .i64 ((g.nodes[i]'hi1).kind), .int .i64 ((g.nodes[i]'hi1).a), .int .i64 ((g.nodes[i]'hi1).b), o2] := ha1
      refine J_st (R_index (i := i) sl28 rfl rfl (hd1.ext E).1 hi1) rfl (J_st (R_loadS st90 rfl (ha1.ext E) rfl) rfl ?_)
      refine J_alloc st90 rfl (fun b2 w7 e5 s2 h2 => ?_)
      have g_b2 : w.heap.size ≤ b2 := by have := E.size; omega
      have y_b2 := h2.lt
      replace E := E.trans e5; replace h1 := h1.ext e5
      have z7 := e5.size
      refine J_storeS' (cs' := [.int .i64 ((g.nodes[i]'hi1).kind), .int .i64 ((g.nodes[i]'hi1).a), .int .i64 ((g.nodes[i]'hi1).b), o2]) st90 rfl rfl rfl (all_cons rfl (all_cons rfl (all_cons rfl (all_cons (RdD.one (hd2.ext E)) rfl)))) h2 (Nat.le_of_ble_eq_true rfl) rfl (fun w8 m1 h2' => ?_)
      replace h2 := h2'
      replace E := E.step m1 (fun g hg => by cases hg; omega); replace h1 := h1.mod m1 (fun g hg => by cases hg; omega)
      have z8 := m1.size
      refine J_done ?_
      refine S_seq ?_
      refine S_seq ?_
      refine S_reg [true, false, true, true, true, true, true, true, true, true, true] rfl rfl ?_
      refine J_st (R_loadS st90 rfl h2.at rfl) rfl ?_
      refine J_call Try.call51 rfl (s_NodeOk [.int .i64 ((g.nodes[i]'hi1).kind), .int .i64 ((g.nodes[i]'hi1).a), .int .i64 ((g.nodes[i]'hi1).b), o2] (g.nodes[i]'hi1) _ (Node.mkR (g.nodes[i]'hi1) (RdD.any (hd2.ext E)))) rfl (fun _ w9 e6 hv => ?_)
      subst hv
      replace E := E.trans e6; replace h1 := h1.ext e6; replace h2 := h2.ext e6
      have z9 := e6.size
      refine J_st (R_not rfl) rfl (J_st (R_move rfl) rfl ?_)
      refine J_cut 7 [(1, .pointer (some ⟨b1, 0, none⟩)), (2, .bool false), (3, .int .i64 ((i : Nat) : Int)), (4, .pointer (some ⟨b2, 0, none⟩)), (25, .int .i64 ((i : Nat) : Int)), (26, .pointer (some ⟨b1, 0, none⟩)), (27, o1), (28, .int .i64 ((g.nodes.length : Nat) : Int)), (29, .bool (decide (((i : Nat) : Int) < ((g.nodes.length : Nat) : Int)))), (32, .pointer (some ⟨b1, 0, none⟩)), (33, o1), (34, .int .i64 ((i : Nat) : Int)), (35, .pointer (some ⟨sblk o1, soff o1 + i * 4, none⟩)), (36, .agg [.int .i64 ((g.nodes[i]'hi1).kind), .int .i64 ((g.nodes[i]'hi1).a), .int .i64 ((g.nodes[i]'hi1).b), o2].toArray), (47, .bool ((!(nodeOk (g.nodes[i]'hi1))) || (!((((g.nodes[i]'hi1).kind) == 1) == (((i : Nat) : Int) == 0)))))] (fun w' => w9 = w') ?_ ?_
      · refine J_if (gd := 40) rfl rfl (fun hg3 => ?_) (fun hg3 => ?_)
        · refine J_gdno rfl rfl rfl rfl (J_gdno rfl rfl rfl rfl (J_gdno rfl rfl rfl rfl (J_gdno rfl rfl rfl rfl (J_gdno rfl rfl rfl rfl (J_gdno rfl rfl rfl rfl (J_st (R_pickT rfl rfl) rfl (J_cutEnd ⟨rfl, rfl, rfl, rfl, rfl, rfl, rfl, rfl, rfl, rfl, rfl, rfl, rfl, rfl, congrArg (fun b => some (Value.bool b)) (show true = ((!(nodeOk (g.nodes[i]'hi1))) || (!((((g.nodes[i]'hi1).kind) == 1) == (((i : Nat) : Int) == 0)))) by first | (rw [hg3] <;> rfl) | (simp [hg3]; done) | (simp only [nat_nlt] <;> simp)), trivial⟩ rfl)))))))
        · refine J_gd rfl rfl (R_fieldAddr0 fl90_0 rfl) rfl (J_gd rfl rfl (R_load sc3 rfl (h2.one 0 rfl)) rfl (J_gd rfl rfl (R_eql rfl rfl) rfl (J_gd rfl rfl (R_move rfl) rfl (J_gd rfl rfl (R_eql rfl rfl) rfl (J_gd rfl rfl (R_neqB (Try.underlying4) rfl rfl) rfl (J_st (R_pickF rfl rfl) rfl (J_cutEnd ⟨rfl, rfl, rfl, rfl, rfl, rfl, rfl, rfl, rfl, rfl, rfl, rfl, rfl, rfl, congrArg (fun b => some (Value.bool b)) (show (!((((g.nodes[i]'hi1).kind) == 1) == (((i : Nat) : Int) == 0))) = ((!(nodeOk (g.nodes[i]'hi1))) || (!((((g.nodes[i]'hi1).kind) == 1) == (((i : Nat) : Int) == 0)))) by first | (rw [hg3] <;> rfl) | (simp [hg3]; done) | (simp only [nat_nlt] <;> simp)), trivial⟩ rfl)))))))
      rintro _ rfl
      refine J_done ?_
      refine S_cond rfl (fun hc3 => ?_) (fun hc3 => ?_)
      · refine S_seq ?_
        refine S_reg [true] rfl rfl ?_
        refine J_st (R_assign rfl) rfl (J_done ?_)
        refine S_ret (E_inB_ret (E_lp_ret (E_inB_ret (E_done1 rfl rfl E ?_))))
        exact graph_a (by assumption)
      · refine S_skip ?_
        refine S_seq ?_
        refine S_reg [true] rfl rfl ?_
        refine J_st (R_assign rfl) rfl (J_done ?_)
        refine S_block ?_
        refine S_loop (fun (k : Nat) => [(1, .pointer (some ⟨b1, 0, none⟩)), (2, .bool false), (3, .int .i64 ((i : Nat) : Int)), (4, .pointer (some ⟨b2, 0, none⟩)), (5, .int .i64 ((k : Nat) : Int))]) (fun (k : Nat) w' => Ext w w' ∧ w9.heap.size ≤ w'.heap.size ∧ Blk w' b1 ([o1, .int .i64 g.workers, .int .i64 g.cap]) ∧ Blk w' b2 [.int .i64 ((g.nodes[i]'hi1).kind), .int .i64 ((g.nodes[i]'hi1).a), .int .i64 ((g.nodes[i]'hi1).b), o2] ∧ k ≤ (g.nodes[i]'hi1).outs.length ∧ ((g.nodes[i]'hi1).outs.take k).all (fun to => !edgeBad g i (g.nodes[i]'hi1) to) = true) (fun (k : Nat) => (g.nodes[i]'hi1).outs.length - k) 0 ⟨rfl, rfl, rfl, rfl, rfl, trivial⟩ ⟨E, Nat.le_refl _, h1, h2, Nat.zero_le _, rfl⟩ ?_
        clear E h1 h2
        rintro k w11 ⟨E, z10, h1, h2, hk, hI⟩
        refine S_seq ?_
        refine S_seq ?_
        refine S_reg [true, true, true, true, true] rfl rfl ?_
        refine J_st (R_move rfl) rfl (J_st (R_fieldAddr0 fl90_3 rfl) rfl (J_st (R_load sc58 rfl (h2.one 3 rfl)) rfl (J_st (R_len Try.underlying58 rfl (hd2.ext E).len) rfl (J_st (R_lss rfl rfl) rfl (J_done ?_)))))
        refine S_cond rfl (fun hc4 => ?_) (fun hc4 => ?_)
        · have hc4n : k < ((g.nodes[i]'hi1).outs).length := by first | (have h := of_decide_eq_true hc4; omega) | (have h := hc4; simp at h; omega)
          refine S_skip ?_
          refine S_seq ?_
          refine S_block ?_
          refine S_seq ?_
          refine S_reg [true, true, true, true, true, true] rfl rfl ?_
          refine J_st (R_fieldAddr0 fl90_3 rfl) rfl (J_st (R_load sc58 rfl (h2.one 3 rfl)) rfl (J_st (R_move rfl) rfl ?_))
          have hi2 : k < ((g.nodes[i]'hi1).outs).length := (by first | assumption | omega | (simp only [List.length_set]; first | assumption | omega) | (simp only [List.getElem_set_self, List.length_set]; first | assumption | omega) | (simp only [setW, setLk, List.length_set]; first | assumption | omega))
          refine J_st (R_index (i := k) sl58 rfl rfl (hd2.rd.ext E) hi2) rfl (J_st (R_load sc3 rfl (((hd2.rd.ext E).get hi2).one 0 rfl)) rfl (J_st (R_assign rfl) rfl (J_done ?_)))
          refine S_seq ?_
          refine S_seq ?_
          refine S_reg [true, true, true, true, true, true, true, true, true, true, true, true, true, true, true] rfl rfl ?_
          refine J_st (R_move rfl) rfl (J_st (R_fieldAddr0 fl30_0 rfl) rfl (J_st (R_load sc28 rfl (h1.one 0 rfl)) rfl (J_st (R_len Try.underlying28 rfl (hd1.ext E).len) rfl (J_st (R_geq rfl rfl) rfl (J_st (R_move rfl) rfl ?_)))))
          refine J_cut 9 [(1, .pointer (some ⟨b1, 0, none⟩)), (2, .bool false), (3, .int .i64 ((i : Nat) : Int)), (4, .pointer (some ⟨b2, 0, none⟩)), (5, .int .i64 ((k : Nat) : Int)), (6, .int .i64 (((g.nodes[i]'hi1).outs)[k]'hi2)), (48, .int .i64 ((k : Nat) : Int)), (49, .pointer (some ⟨b2, 3, none⟩)), (50, o2), (51, .int .i64 ((((g.nodes[i]'hi1).outs).length : Nat) : Int)), (52, .bool (decide (((k : Nat) : Int) < ((((g.nodes[i]'hi1).outs).length : Nat) : Int)))), (55, .pointer (some ⟨b2, 3, none⟩)), (56, o2), (57, .int .i64 ((k : Nat) : Int)), (58, .pointer (some ⟨sblk o2, soff o2 + k * 1, none⟩)), (59, .int .i64 (((g.nodes[i]'hi1).outs)[k]'hi2)), (74, .bool ((decide (((g.nodes.length : Nat) : Int) ≤ (((g.nodes[i]'hi1).outs)[k]'hi2))) || ((((g.nodes[i]'hi1).kind) != 7) && (decide ((((g.nodes[i]'hi1).outs)[k]'hi2) ≤ ((i : Nat) : Int))))))] (fun w' => w11 = w') ?_ ?_
          · refine J_if (gd := 65) rfl rfl (fun hg4 => ?_) (fun hg4 => ?_)
            · refine J_gdno rfl rfl rfl rfl (J_gdno rfl rfl rfl rfl (J_gdno rfl rfl rfl rfl (J_gdno rfl rfl rfl rfl (J_gdx rfl rfl rfl (J_gdx rfl rfl rfl (J_gdx rfl rfl rfl (J_gdno rfl rfl rfl rfl (J_st (R_pickT rfl rfl) rfl (J_cutEnd ⟨rfl, rfl, rfl, rfl, rfl, rfl, rfl, rfl, rfl, rfl, rfl, rfl, rfl, rfl, rfl, rfl, congrArg (fun b => some (Value.bool b)) (show true = ((decide (((g.nodes.length : Nat) : Int) ≤ (((g.nodes[i]'hi1).outs)[k]'hi2))) || ((((g.nodes[i]'hi1).kind) != 7) && (decide ((((g.nodes[i]'hi1).outs)[k]'hi2) ≤ ((i : Nat) : Int))))) by first | (rw [hg4] <;> rfl) | (simp [hg4]; done) | (simp only [nat_nlt] <;> simp)), trivial⟩ rfl)))))))))
            · have hto := graph_to (h1 := hi1) (h2 := hi2) (by assumption)
              have htl := Int.not_le.1 (of_decide_eq_false hg4)
              refine J_gd rfl rfl (R_fieldAddr0 fl90_0 rfl) rfl (J_gd rfl rfl (R_load sc3 rfl (h2.one 0 rfl)) rfl (J_gd rfl rfl (R_neq rfl rfl) rfl (J_gd rfl rfl (R_move rfl) rfl ?_)))
              refine J_if (gd := 69) rfl rfl (fun hg5 => ?_) (fun hg5 => ?_)
              · refine J_gd rfl rfl (R_move rfl) rfl (J_gd rfl rfl (R_move rfl) rfl (J_gd rfl rfl (R_leq rfl rfl) rfl (J_gd rfl rfl (R_pickT rfl rfl) rfl (J_st (R_pickF rfl rfl) rfl (J_cutEnd ⟨rfl, rfl, rfl, rfl, rfl, rfl, rfl, rfl, rfl, rfl, rfl, rfl, rfl, rfl, rfl, rfl, congrArg (fun b => some (Value.bool b)) (show (decide ((((g.nodes[i]'hi1).outs)[k]'hi2) ≤ ((i : Nat) : Int))) = ((decide (((g.nodes.length : Nat) : Int) ≤ (((g.nodes[i]'hi1).outs)[k]'hi2))) || ((((g.nodes[i]'hi1).kind) != 7) && (decide ((((g.nodes[i]'hi1).outs)[k]'hi2) ≤ ((i : Nat) : Int))))) by first | (rw [hg4, hg5] <;> rfl) | (simp [hg4, hg5]; done) | (simp only [nat_nlt] <;> simp)), trivial⟩ rfl)))))
              · refine J_gdno rfl rfl rfl rfl (J_gdno rfl rfl rfl rfl (J_gdno rfl rfl rfl rfl (J_gd rfl rfl (R_pickF rfl rfl) rfl (J_st (R_pickF rfl rfl) rfl (J_cutEnd ⟨rfl, rfl, rfl, rfl, rfl, rfl, rfl, rfl, rfl, rfl, rfl, rfl, rfl, rfl, rfl, rfl, congrArg (fun b => some (Value.bool b)) (show false = ((decide (((g.nodes.length : Nat) : Int) ≤ (((g.nodes[i]'hi1).outs)[k]'hi2))) || ((((g.nodes[i]'hi1).kind) != 7) && (decide ((((g.nodes[i]'hi1).outs)[k]'hi2) ≤ ((i : Nat) : Int))))) by first | (rw [hg4, hg5] <;> rfl) | (simp [hg4, hg5]; done) | (simp only [nat_nlt] <;> simp)), trivial⟩ rfl)))))
          rintro _ rfl
          refine J_done ?_
          refine S_cond rfl (fun hc5 => ?_) (fun hc5 => ?_)
          · refine S_seq ?_
            refine S_reg [true] rfl rfl ?_
            refine J_st (R_assign rfl) rfl (J_done ?_)
            refine S_ret (E_inB_ret (E_lp_ret (E_inB_ret (E_inB_ret (E_lp_ret (E_inB_ret (E_done1 rfl rfl E ?_)))))))
            exact graph_e (edge_s1 (by assumption))
          · have hto := graph_to (h1 := hi1) (h2 := hi2) (by assumption)
            have htl := edge_lt hc5
            refine S_skip ?_
            refine S_seq ?_
            refine S_reg [true, true, true, true, true, true, true] rfl rfl ?_
            refine J_st (R_fieldAddr0 fl30_0 rfl) rfl (J_st (R_load sc28 rfl (h1.one 0 rfl)) rfl (J_st (R_move rfl) rfl ?_))
            have hi3 : (Int.toNat (((g.nodes[i]'hi1).outs)[k]'hi2)) < g.nodes.length := (by first | assumption | omega | (simp only [List.length_set]; first | assumption | omega) | (simp only [List.getElem_set_self, List.length_set]; first | assumption | omega) | (simp only [setW, setLk, List.length_set]; first | assumption | omega))
            obtain ⟨_, hr2, ha2⟩ := RdD.get hd1 hi3
            obtain ⟨o3, rfl, hd3⟩ := Node.op hr2
            replace ha2 : At w (sblk o1) (soff o1 + (Int.toNat (((g.nodes[i]'hi1).outs)[k]'hi2)) * 4) [.int .i64 ((g.nodes[(Int.toNat (((g.nodes[i]'hi1).outs)[k]'hi2))]'hi3).kind), .int .i64 ((g.nodes[(Int.toNat (((g.nodes[i]'hi1).outs)[k]'hi2))]'hi3).a), .int .i64 ((g.nodes[(Int.toNat (((g.nodes[i]'hi1).outs)[k]'hi2))]'hi3).b), o3] := ha2
            refine J_st (R_indexZ (i := (Int.toNat (((g.nodes[i]'hi1).outs)[k]'hi2))) sl28 rfl rfl (hd1.ext E).1 (by omega) hi3) rfl (J_st (R_fieldAddr fl90_0 rfl) rfl (J_st (R_load sc3 rfl ((ha2.ext E).one 0 rfl)) rfl (J_st (R_assign rfl) rfl (J_done ?_))))
            refine S_seq ?_
            refine S_reg [true, true, true, true, true, true, true, true, true, true, true, true, true, true, true, true] rfl rfl ?_
            refine J_st (R_fieldAddr0 fl90_0 rfl) rfl (J_st (R_load sc3 rfl (h2.one 0 rfl)) rfl (J_st (R_eql rfl rfl) rfl (J_st (R_move rfl) rfl ?_)))
            refine J_cut 12 [(1, .pointer (some ⟨b1, 0, none⟩)), (2, .bool false), (3, .int .i64 ((i : Nat) : Int)), (4, .pointer (some ⟨b2, 0, none⟩)), (5, .int .i64 ((k : Nat) : Int)), (6, .int .i64 (((g.nodes[i]'hi1).outs)[k]'hi2)), (7, .int .i64 ((g.nodes[(Int.toNat (((g.nodes[i]'hi1).outs)[k]'hi2))]'hi3).kind)), (48, .int .i64 ((k : Nat) : Int)), (49, .pointer (some ⟨b2, 3, none⟩)), (50, o2), (51, .int .i64 ((((g.nodes[i]'hi1).outs).length : Nat) : Int)), (52, .bool (decide (((k : Nat) : Int) < ((((g.nodes[i]'hi1).outs).length : Nat) : Int)))), (55, .pointer (some ⟨b2, 3, none⟩)), (56, o2), (57, .int .i64 ((k : Nat) : Int)), (58, .pointer (some ⟨sblk o2, soff o2 + k * 1, none⟩)), (59, .int .i64 (((g.nodes[i]'hi1).outs)[k]'hi2)), (74, .bool ((decide (((g.nodes.length : Nat) : Int) ≤ (((g.nodes[i]'hi1).outs)[k]'hi2))) || ((((g.nodes[i]'hi1).kind) != 7) && (decide ((((g.nodes[i]'hi1).outs)[k]'hi2) ≤ ((i : Nat) : Int)))))), (75, .pointer (some ⟨b1, 0, none⟩)), (76, o1), (77, .int .i64 (((g.nodes[i]'hi1).outs)[k]'hi2)), (78, .pointer (some ⟨sblk o1, soff o1 + (Int.toNat (((g.nodes[i]'hi1).outs)[k]'hi2)) * 4, none⟩)), (79, .pointer (some ⟨(sblk o1), soff o1 + (Int.toNat (((g.nodes[i]'hi1).outs)[k]'hi2)) * 4 + 0, none⟩)), (80, .int .i64 ((g.nodes[(Int.toNat (((g.nodes[i]'hi1).outs)[k]'hi2))]'hi3).kind)), (96, .bool ((((g.nodes[i]'hi1).kind) == 7) && ((decide (((i : Nat) : Int) < (((g.nodes[i]'hi1).outs)[k]'hi2))) || ((((g.nodes[(Int.toNat (((g.nodes[i]'hi1).outs)[k]'hi2))]'hi3).kind) != 5) && (((g.nodes[(Int.toNat (((g.nodes[i]'hi1).outs)[k]'hi2))]'hi3).kind) != 6)))))] (fun w' => w11 = w') ?_ ?_
            · refine J_if (gd := 84) rfl rfl (fun hg6 => ?_) (fun hg6 => ?_)
              · refine J_gd rfl rfl (R_move rfl) rfl (J_gd rfl rfl (R_move rfl) rfl (J_gd rfl rfl (R_gtr rfl rfl) rfl (J_gd rfl rfl (R_move rfl) rfl ?_)))
                refine J_if (gd := 88) rfl rfl (fun hg7 => ?_) (fun hg7 => ?_)
                · refine J_gdno rfl rfl rfl rfl (J_gdno rfl rfl rfl rfl (J_gdno rfl rfl rfl rfl (J_gdx rfl rfl rfl (J_gdx rfl rfl rfl (J_gdno rfl rfl rfl rfl (J_gd rfl rfl (R_pickT rfl rfl) rfl (J_st (R_pickT rfl rfl) rfl (J_cutEnd ⟨rfl, rfl, rfl, rfl, rfl, rfl, rfl, rfl, rfl, rfl, rfl, rfl, rfl, rfl, rfl, rfl, rfl, rfl, rfl, rfl, rfl, rfl, rfl, rfl, congrArg (fun b => some (Value.bool b)) (show true = ((((g.nodes[i]'hi1).kind) == 7) && ((decide (((i : Nat) : Int) < (((g.nodes[i]'hi1).outs)[k]'hi2))) || ((((g.nodes[(Int.toNat (((g.nodes[i]'hi1).outs)[k]'hi2))]'hi3).kind) != 5) && (((g.nodes[(Int.toNat (((g.nodes[i]'hi1).outs)[k]'hi2))]'hi3).kind) != 6)))) by first | (rw [hg6, hg7] <;> rfl) | (simp [hg6, hg7]; done) | (simp only [nat_nlt] <;> simp)), trivial⟩ rfl))))))))
                · refine J_gd rfl rfl (R_move rfl) rfl (J_gd rfl rfl (R_neq rfl rfl) rfl (J_gd rfl rfl (R_move rfl) rfl ?_))
                  refine J_if (gd := 91) rfl rfl (fun hg8 => ?_) (fun hg8 => ?_)
                  · refine J_gd rfl rfl (R_move rfl) rfl (J_gd rfl rfl (R_neq rfl rfl) rfl (J_gd rfl rfl (R_pickT rfl rfl) rfl (J_gd rfl rfl (R_pickF rfl rfl) rfl (J_st (R_pickT rfl rfl) rfl (J_cutEnd ⟨rfl, rfl, rfl, rfl, rfl, rfl, rfl, rfl, rfl, rfl, rfl, rfl, rfl, rfl, rfl, rfl, rfl, rfl, rfl, rfl, rfl, rfl, rfl, rfl, congrArg (fun b => some (Value.bool b)) (show (((g.nodes[(Int.toNat (((g.nodes[i]'hi1).outs)[k]'hi2))]'hi3).kind) != 6) = ((((g.nodes[i]'hi1).kind) == 7) && ((decide (((i : Nat) : Int) < (((g.nodes[i]'hi1).outs)[k]'hi2))) || ((((g.nodes[(Int.toNat (((g.nodes[i]'hi1).outs)[k]'hi2))]'hi3).kind) != 5) && (((g.nodes[(Int.toNat (((g.nodes[i]'hi1).outs)[k]'hi2))]'hi3).kind) != 6)))) by first | (rw [hg6, hg7, hg8] <;> rfl) | (simp [hg6, hg7, hg8]; done) | (simp only [nat_nlt] <;> simp)), trivial⟩ rfl)))))
                  · refine J_gdno rfl rfl rfl rfl (J_gdno rfl rfl rfl rfl (J_gd rfl rfl (R_pickF rfl rfl) rfl (J_gd rfl rfl (R_pickF rfl rfl) rfl (J_st (R_pickT rfl rfl) rfl (J_cutEnd ⟨rfl, rfl, rfl, rfl, rfl, rfl, rfl, rfl, rfl, rfl, rfl, rfl, rfl, rfl, rfl, rfl, rfl, rfl, rfl, rfl, rfl, rfl, rfl, rfl, congrArg (fun b => some (Value.bool b)) (show false = ((((g.nodes[i]'hi1).kind) == 7) && ((decide (((i : Nat) : Int) < (((g.nodes[i]'hi1).outs)[k]'hi2))) || ((((g.nodes[(Int.toNat (((g.nodes[i]'hi1).outs)[k]'hi2))]'hi3).kind) != 5) && (((g.nodes[(Int.toNat (((g.nodes[i]'hi1).outs)[k]'hi2))]'hi3).kind) != 6)))) by first | (rw [hg6, hg7, hg8] <;> rfl) | (simp [hg6, hg7, hg8]; done) | (simp only [nat_nlt] <;> simp)), trivial⟩ rfl)))))
              · refine J_gdno rfl rfl rfl rfl (J_gdno rfl rfl rfl rfl (J_gdno rfl rfl rfl rfl (J_gdno rfl rfl rfl rfl (J_gdx rfl rfl rfl (J_gdx rfl rfl rfl (J_gdx rfl rfl rfl (J_gdx rfl rfl rfl (J_gdx rfl rfl rfl (J_gdx rfl rfl rfl (J_gdno rfl rfl rfl rfl (J_st (R_pickF rfl rfl) rfl (J_cutEnd ⟨rfl, rfl, rfl, rfl, rfl, rfl, rfl, rfl, rfl, rfl, rfl, rfl, rfl, rfl, rfl, rfl, rfl, rfl, rfl, rfl, rfl, rfl, rfl, rfl, congrArg (fun b => some (Value.bool b)) (show false = ((((g.nodes[i]'hi1).kind) == 7) && ((decide (((i : Nat) : Int) < (((g.nodes[i]'hi1).outs)[k]'hi2))) || ((((g.nodes[(Int.toNat (((g.nodes[i]'hi1).outs)[k]'hi2))]'hi3).kind) != 5) && (((g.nodes[(Int.toNat (((g.nodes[i]'hi1).outs)[k]'hi2))]'hi3).kind) != 6)))) by first | (rw [hg6] <;> rfl) | (simp [hg6]; done) | (simp only [nat_nlt] <;> simp)), trivial⟩ rfl))))))))))))
            rintro _ rfl
            refine J_done ?_
            refine S_cond rfl (fun hc6 => ?_) (fun hc6 => ?_)
            · refine S_seq ?_
              refine S_reg [true] rfl rfl ?_
              refine J_st (R_assign rfl) rfl (J_done ?_)
              refine S_ret (E_inB_ret (E_lp_ret (E_inB_ret (E_inB_ret (E_lp_ret (E_inB_ret (E_done1 rfl rfl E ?_)))))))
              exact graph_e (edge_s2 (congrArg Node.kind (getD_at _)).symm (by assumption))
            · refine S_skip ?_
              refine S_nil (E_inB ?_)
              refine S_reg [true, true, true] rfl rfl ?_
              refine J_st (R_move rfl) rfl (J_st (R_add rfl rfl (add_one hc4n (hd2.ext E).1.1)) rfl (J_st (R_assign rfl) rfl (J_done ?_)))
              refine S_nil (E_again (k + 1) (by omega) ⟨rfl, rfl, rfl, rfl, rfl, trivial⟩ ⟨E, (by omega), h1, h2, (by omega), all_step hI (by assumption) (edge_sn (congrArg Node.kind (getD_at _)).symm (by assumption) (by assumption))⟩)
        · have hc4n : ¬ k < ((g.nodes[i]'hi1).outs).length := by first | (have h := of_decide_eq_false hc4; omega) | (have h := hc4; simp at h; omega)
          refine S_exit (E_lp_exit (E_inB_exit ?_))
          refine S_nil (E_inB ?_)
          refine S_reg [true, true, true] rfl rfl ?_
          refine J_st (R_move rfl) rfl (J_st (R_add rfl rfl (add_one hc2n (hd1.ext E).1.1)) rfl (J_st (R_assign rfl) rfl (J_done ?_)))
          refine S_nil (E_again (i + 1) (by omega) ⟨rfl, rfl, rfl, trivial⟩ ⟨E, (by omega), h1, (by omega), graph_s (h1 := hi1) (by assumption) hI (by omega) hp⟩)
    · have hc2n : ¬ i < g.nodes.length := by first | (have h := of_decide_eq_false hc2; omega) | (have h := hc2; simp at h; omega)
      refine S_exit (E_lp_exit (E_inB_exit ?_))
      refine S_seq ?_
      refine S_reg [true] rfl rfl ?_
      refine J_st (R_assign rfl) rfl (J_done ?_)
      refine S_ret (E_done1 rfl rfl E ?_)
      exact graph_y (by assumption) hp (by omega)

set_option maxRecDepth 20000 in
theorem c_toStamp (x : Stamp) (w : World)  : Ct Try.prog 56 [.agg (Enc.enc x).toArray] w (fun v _ => v = .agg (Enc.enc x).toArray) := by
  refine ct_of Try.func56 rfl Try.ntmps56 rfl ?_
  refine S_sub [(0, .agg (Enc.enc x).toArray)] ⟨rfl, trivial⟩ ?_
  have E : Ext w w := Ext.refl w
  refine S_seq ?_
  refine S_reg [false, false] rfl rfl ?_
  refine J_box rfl rfl (fun b1 w1 e1 s1 h1 => ?_)
  have g_b1 : w.heap.size ≤ b1 := by have := E.size; omega
  have y_b1 := h1.lt
  replace E := E.trans e1
  have z1 := e1.size
  refine J_alloc st53 rfl (fun b2 w2 e2 s2 h2 => ?_)
  have g_b2 : w.heap.size ≤ b2 := by have := E.size; omega
  have y_b2 := h2.lt
  replace E := E.trans e2; replace h1 := h1.ext e2
  have z2 := e2.size
  refine J_done ?_
  refine S_seq ?_
  refine S_reg [false] rfl rfl ?_
  refine J_alloc st53 rfl (fun b3 w3 e3 s3 h3 => ?_)
  have g_b3 : w.heap.size ≤ b3 := by have := E.size; omega
  have y_b3 := h3.lt
  replace E := E.trans e3; replace h1 := h1.ext e3; replace h2 := h2.ext e3
  have z3 := e3.size
  refine J_done ?_
  refine S_seq ?_
  refine S_reg [true, true, true, false] rfl rfl ?_
  refine J_st (R_fieldAddr0 fl70_0 rfl) rfl (J_st (R_load sc3 rfl (h1.one 0 rfl)) rfl (J_st (R_fieldAddr0 fl53_0 rfl) rfl ?_))
  refine J_store' (cs' := [.int .i64 x.epoch, .int .i64 0]) sc3 rfl rfl rfl h3 (Nat.le_of_ble_eq_true rfl) rfl (fun w4 m1 h3' => ?_)
  replace h3 := h3'
  replace E := E.step m1 (fun g hg => by cases hg; omega); replace h1 := h1.mod m1 (fun g hg => by cases hg; omega); replace h2 := h2.mod m1 (fun g hg => by cases hg; omega)
  have z4 := m1.size
  refine J_done ?_
  refine S_seq ?_
  refine S_reg [true, true, true, false] rfl rfl ?_
  refine J_st (R_fieldAddr0 fl70_1 rfl) rfl (J_st (R_load sc3 rfl (h1.one 1 rfl)) rfl (J_st (R_fieldAddr0 fl53_1 rfl) rfl ?_))
  refine J_store' (cs' := [.int .i64 x.epoch, .int .i64 x.turn]) sc3 rfl rfl rfl h3 (Nat.le_of_ble_eq_true rfl) rfl (fun w5 m2 h3' => ?_)
  replace h3 := h3'
  replace E := E.step m2 (fun g hg => by cases hg; omega); replace h1 := h1.mod m2 (fun g hg => by cases hg; omega); replace h2 := h2.mod m2 (fun g hg => by cases hg; omega)
  have z5 := m2.size
  refine J_done ?_
  refine S_seq ?_
  refine S_reg [true, false] rfl rfl ?_
  refine J_st (R_loadS st53 rfl h3.at rfl) rfl ?_
  refine J_storeS' (cs' := [.int .i64 x.epoch, .int .i64 x.turn]) st53 rfl rfl rfl rfl h2 (Nat.le_of_ble_eq_true rfl) rfl (fun w6 m3 h2' => ?_)
  replace h2 := h2'
  replace E := E.step m3 (fun g hg => by cases hg; omega); replace h1 := h1.mod m3 (fun g hg => by cases hg; omega); replace h3 := h3.mod m3 (fun g hg => by cases hg; omega)
  have z6 := m3.size
  refine J_done ?_
  refine S_ret (E_doneC rfl rfl (run_loadVar_st st53 h2.at rfl) E ?_)
  rfl

set_option maxRecDepth 20000 in
theorem c_toRecord (x : Record) (w : World)  : Ct Try.prog 25 [.agg (Enc.enc x).toArray] w (fun v _ => v = .agg (Enc.enc x).toArray) := by
  refine ct_of Try.func25 rfl Try.ntmps25 rfl ?_
  refine S_sub [(0, .agg (Enc.enc x).toArray)] ⟨rfl, trivial⟩ ?_
  have E : Ext w w := Ext.refl w
  refine S_seq ?_
  refine S_reg [false, false] rfl rfl ?_
  refine J_box rfl rfl (fun b1 w1 e1 s1 h1 => ?_)
  have g_b1 : w.heap.size ≤ b1 := by have := E.size; omega
  have y_b1 := h1.lt
  replace E := E.trans e1
  have z1 := e1.size
  refine J_alloc st55 rfl (fun b2 w2 e2 s2 h2 => ?_)
  have g_b2 : w.heap.size ≤ b2 := by have := E.size; omega
  have y_b2 := h2.lt
  replace E := E.trans e2; replace h1 := h1.ext e2
  have z2 := e2.size
  refine J_done ?_
  refine S_seq ?_
  refine S_reg [false] rfl rfl ?_
  refine J_alloc st55 rfl (fun b3 w3 e3 s3 h3 => ?_)
  have g_b3 : w.heap.size ≤ b3 := by have := E.size; omega
  have y_b3 := h3.lt
  replace E := E.trans e3; replace h1 := h1.ext e3; replace h2 := h2.ext e3
  have z3 := e3.size
  refine J_done ?_
  refine S_seq ?_
  refine S_reg [true, true, true, false] rfl rfl ?_
  refine J_st (R_fieldAddr0 fl72_0 rfl) rfl (J_st (R_load sc3 rfl (h1.one 0 rfl)) rfl (J_st (R_fieldAddr0 fl55_0 rfl) rfl ?_))
  refine J_store' (cs' := [.int .i64 x.op, .int .i64 0, .int .i64 0, .int .i64 0, .int .i64 0]) sc3 rfl rfl rfl h3 (Nat.le_of_ble_eq_true rfl) rfl (fun w4 m1 h3' => ?_)
  replace h3 := h3'
  replace E := E.step m1 (fun g hg => by cases hg; omega); replace h1 := h1.mod m1 (fun g hg => by cases hg; omega); replace h2 := h2.mod m1 (fun g hg => by cases hg; omega)
  have z4 := m1.size
  refine J_done ?_
  refine S_seq ?_
  refine S_reg [true, true, false, true, false] rfl rfl ?_
  refine J_st (R_fieldAddr0 fl72_1 rfl) rfl (J_st (R_loadS st70 rfl (h1.part 1 [.int .i64 x.stamp.epoch, .int .i64 x.stamp.turn] rfl) rfl) rfl ?_)
  refine J_call Try.call56 rfl (c_toStamp x.stamp _ ) rfl (fun _ w5 e4 hv => ?_)
  subst hv
  replace E := E.trans e4; replace h1 := h1.ext e4; replace h2 := h2.ext e4; replace h3 := h3.ext e4
  have z5 := e4.size
  refine J_st (R_fieldAddr0 fl55_1 rfl) rfl ?_
  refine J_storeS' (cs' := [.int .i64 x.op, .int .i64 x.stamp.epoch, .int .i64 x.stamp.turn, .int .i64 0, .int .i64 0]) st53 rfl rfl rfl rfl h3 (Nat.le_of_ble_eq_true rfl) rfl (fun w6 m2 h3' => ?_)
  replace h3 := h3'
  replace E := E.step m2 (fun g hg => by cases hg; omega); replace h1 := h1.mod m2 (fun g hg => by cases hg; omega); replace h2 := h2.mod m2 (fun g hg => by cases hg; omega)
  have z6 := m2.size
  refine J_done ?_
  refine S_seq ?_
  refine S_reg [true, true, true, false] rfl rfl ?_
  refine J_st (R_fieldAddr0 fl72_2 rfl) rfl (J_st (R_load sc3 rfl (h1.one 3 rfl)) rfl (J_st (R_fieldAddr0 fl55_2 rfl) rfl ?_))
  refine J_store' (cs' := [.int .i64 x.op, .int .i64 x.stamp.epoch, .int .i64 x.stamp.turn, .int .i64 x.key, .int .i64 0]) sc3 rfl rfl rfl h3 (Nat.le_of_ble_eq_true rfl) rfl (fun w7 m3 h3' => ?_)
  replace h3 := h3'
  replace E := E.step m3 (fun g hg => by cases hg; omega); replace h1 := h1.mod m3 (fun g hg => by cases hg; omega); replace h2 := h2.mod m3 (fun g hg => by cases hg; omega)
  have z7 := m3.size
  refine J_done ?_
  refine S_seq ?_
  refine S_reg [true, true, true, false] rfl rfl ?_
  refine J_st (R_fieldAddr0 fl72_3 rfl) rfl (J_st (R_load sc3 rfl (h1.one 4 rfl)) rfl (J_st (R_fieldAddr0 fl55_3 rfl) rfl ?_))
  refine J_store' (cs' := [.int .i64 x.op, .int .i64 x.stamp.epoch, .int .i64 x.stamp.turn, .int .i64 x.key, .int .i64 x.val]) sc3 rfl rfl rfl h3 (Nat.le_of_ble_eq_true rfl) rfl (fun w8 m4 h3' => ?_)
  replace h3 := h3'
  replace E := E.step m4 (fun g hg => by cases hg; omega); replace h1 := h1.mod m4 (fun g hg => by cases hg; omega); replace h2 := h2.mod m4 (fun g hg => by cases hg; omega)
  have z8 := m4.size
  refine J_done ?_
  refine S_seq ?_
  refine S_reg [true, false] rfl rfl ?_
  refine J_st (R_loadS st55 rfl h3.at rfl) rfl ?_
  refine J_storeS' (cs' := [.int .i64 x.op, .int .i64 x.stamp.epoch, .int .i64 x.stamp.turn, .int .i64 x.key, .int .i64 x.val]) st55 rfl rfl rfl rfl h2 (Nat.le_of_ble_eq_true rfl) rfl (fun w9 m5 h2' => ?_)
  replace h2 := h2'
  replace E := E.step m5 (fun g hg => by cases hg; omega); replace h1 := h1.mod m5 (fun g hg => by cases hg; omega); replace h3 := h3.mod m5 (fun g hg => by cases hg; omega)
  have z9 := m5.size
  refine J_done ?_
  refine S_ret (E_doneC rfl rfl (run_loadVar_st st55 h2.at rfl) E ?_)
  rfl

set_option maxRecDepth 20000 in
theorem c_eqStamp (x : Stamp) (y : Stamp) (w : World)  : Ct Try.prog 69 [.agg (Enc.enc x).toArray, .agg (Enc.enc y).toArray] w (fun v _ => v = .bool (decide (x = y))) := by
  refine ct_of Try.func69 rfl Try.ntmps69 rfl ?_
  refine S_sub [(0, .agg (Enc.enc x).toArray), (1, .agg (Enc.enc y).toArray)] ⟨rfl, rfl, trivial⟩ ?_
  have E : Ext w w := Ext.refl w
  refine S_seq ?_
  refine S_reg [false, false, true] rfl rfl ?_
  refine J_box rfl rfl (fun b1 w1 e1 s1 h1 => ?_)
  have g_b1 : w.heap.size ≤ b1 := by have := E.size; omega
  have y_b1 := h1.lt
  replace E := E.trans e1
  have z1 := e1.size
  refine J_box rfl rfl (fun b2 w2 e2 s2 h2 => ?_)
  have g_b2 : w.heap.size ≤ b2 := by have := E.size; omega
  have y_b2 := h2.lt
  replace E := E.trans e2; replace h1 := h1.ext e2
  have z2 := e2.size
  refine J_st (R_assign rfl) rfl (J_done ?_)
  refine S_seq ?_
  refine S_seq ?_
  refine S_reg [true, true, true, true, true] rfl rfl ?_
  refine J_st (R_fieldAddr0 fl53_0 rfl) rfl (J_st (R_load sc3 rfl (h1.one 0 rfl)) rfl (J_st (R_fieldAddr0 fl53_0 rfl) rfl (J_st (R_load sc3 rfl (h2.one 0 rfl)) rfl (J_st (R_neq rfl rfl) rfl (J_done ?_)))))
  refine S_cond rfl (fun hc1 => ?_) (fun hc1 => ?_)
  · refine S_seq ?_
    refine S_reg [true] rfl rfl ?_
    refine J_st (R_assign rfl) rfl (J_done ?_)
    refine S_ret (E_done1 rfl rfl E ?_)
    cases x; cases y; simp_all
  · refine S_skip ?_
    refine S_seq ?_
    refine S_seq ?_
    refine S_reg [true, true, true, true, true] rfl rfl ?_
    refine J_st (R_fieldAddr0 fl53_1 rfl) rfl (J_st (R_load sc3 rfl (h1.one 1 rfl)) rfl (J_st (R_fieldAddr0 fl53_1 rfl) rfl (J_st (R_load sc3 rfl (h2.one 1 rfl)) rfl (J_st (R_neq rfl rfl) rfl (J_done ?_)))))
    refine S_cond rfl (fun hc2 => ?_) (fun hc2 => ?_)
    · refine S_seq ?_
      refine S_reg [true] rfl rfl ?_
      refine J_st (R_assign rfl) rfl (J_done ?_)
      refine S_ret (E_done1 rfl rfl E ?_)
      cases x; cases y; simp_all
    · refine S_skip ?_
      refine S_seq ?_
      refine S_reg [true] rfl rfl ?_
      refine J_st (R_assign rfl) rfl (J_done ?_)
      refine S_ret (E_done1 rfl rfl E ?_)
      cases x; cases y; simp_all

set_option maxRecDepth 20000 in
theorem c_eqRecord (x : Record) (y : Record) (w : World)  : Ct Try.prog 38 [.agg (Enc.enc x).toArray, .agg (Enc.enc y).toArray] w (fun v _ => v = .bool (decide (x = y))) := by
  refine ct_of Try.func38 rfl Try.ntmps38 rfl ?_
  refine S_sub [(0, .agg (Enc.enc x).toArray), (1, .agg (Enc.enc y).toArray)] ⟨rfl, rfl, trivial⟩ ?_
  have E : Ext w w := Ext.refl w
  refine S_seq ?_
  refine S_reg [false, false, true] rfl rfl ?_
  refine J_box rfl rfl (fun b1 w1 e1 s1 h1 => ?_)
  have g_b1 : w.heap.size ≤ b1 := by have := E.size; omega
  have y_b1 := h1.lt
  replace E := E.trans e1
  have z1 := e1.size
  refine J_box rfl rfl (fun b2 w2 e2 s2 h2 => ?_)
  have g_b2 : w.heap.size ≤ b2 := by have := E.size; omega
  have y_b2 := h2.lt
  replace E := E.trans e2; replace h1 := h1.ext e2
  have z2 := e2.size
  refine J_st (R_assign rfl) rfl (J_done ?_)
  refine S_seq ?_
  refine S_seq ?_
  refine S_reg [true, true, true, true, true] rfl rfl ?_
  refine J_st (R_fieldAddr0 fl55_0 rfl) rfl (J_st (R_load sc3 rfl (h1.one 0 rfl)) rfl (J_st (R_fieldAddr0 fl55_0 rfl) rfl (J_st (R_load sc3 rfl (h2.one 0 rfl)) rfl (J_st (R_neq rfl rfl) rfl (J_done ?_)))))
  refine S_cond rfl (fun hc1 => ?_) (fun hc1 => ?_)
  · refine S_seq ?_
    refine S_reg [true] rfl rfl ?_
    refine J_st (R_assign rfl) rfl (J_done ?_)
    refine S_ret (E_done1 rfl rfl E ?_)
    cases x; cases y; simp_all
  · refine S_skip ?_
    refine S_seq ?_
    refine S_seq ?_
    refine S_reg [true, true, true, true, false, true] rfl rfl ?_
    refine J_st (R_fieldAddr0 fl55_1 rfl) rfl (J_st (R_loadS st53 rfl (h1.part 1 [.int .i64 x.stamp.epoch, .int .i64 x.stamp.turn] rfl) rfl) rfl (J_st (R_fieldAddr0 fl55_1 rfl) rfl (J_st (R_loadS st53 rfl (h2.part 1 [.int .i64 y.stamp.epoch, .int .i64 y.stamp.turn] rfl) rfl) rfl ?_)))
    refine J_call Try.call69 rfl (c_eqStamp x.stamp y.stamp _ ) rfl (fun _ w3 e3 hv => ?_)
    subst hv
    replace E := E.trans e3; replace h1 := h1.ext e3; replace h2 := h2.ext e3
    have z3 := e3.size
    refine J_st (R_not rfl) rfl (J_done ?_)
    refine S_cond rfl (fun hc2 => ?_) (fun hc2 => ?_)
    · refine S_seq ?_
      refine S_reg [true] rfl rfl ?_
      refine J_st (R_assign rfl) rfl (J_done ?_)
      refine S_ret (E_done1 rfl rfl E ?_)
      cases x; cases y; simp_all
    · refine S_skip ?_
      refine S_seq ?_
      refine S_seq ?_
      refine S_reg [true, true, true, true, true] rfl rfl ?_
      refine J_st (R_fieldAddr0 fl55_2 rfl) rfl (J_st (R_load sc3 rfl (h1.one 3 rfl)) rfl (J_st (R_fieldAddr0 fl55_2 rfl) rfl (J_st (R_load sc3 rfl (h2.one 3 rfl)) rfl (J_st (R_neq rfl rfl) rfl (J_done ?_)))))
      refine S_cond rfl (fun hc3 => ?_) (fun hc3 => ?_)
      · refine S_seq ?_
        refine S_reg [true] rfl rfl ?_
        refine J_st (R_assign rfl) rfl (J_done ?_)
        refine S_ret (E_done1 rfl rfl E ?_)
        cases x; cases y; simp_all
      · refine S_skip ?_
        refine S_seq ?_
        refine S_seq ?_
        refine S_reg [true, true, true, true, true] rfl rfl ?_
        refine J_st (R_fieldAddr0 fl55_3 rfl) rfl (J_st (R_load sc3 rfl (h1.one 4 rfl)) rfl (J_st (R_fieldAddr0 fl55_3 rfl) rfl (J_st (R_load sc3 rfl (h2.one 4 rfl)) rfl (J_st (R_neq rfl rfl) rfl (J_done ?_)))))
        refine S_cond rfl (fun hc4 => ?_) (fun hc4 => ?_)
        · refine S_seq ?_
          refine S_reg [true] rfl rfl ?_
          refine J_st (R_assign rfl) rfl (J_done ?_)
          refine S_ret (E_done1 rfl rfl E ?_)
          cases x; cases y; simp_all
        · refine S_skip ?_
          refine S_seq ?_
          refine S_reg [true] rfl rfl ?_
          refine J_st (R_assign rfl) rfl (J_done ?_)
          refine S_ret (E_done1 rfl rfl E ?_)
          cases x; cases y; simp_all

set_option maxRecDepth 20000 in
theorem c_eqDone (x : Done) (y : Done) (w : World)  : Ct Try.prog 87 [.agg (Enc.enc x).toArray, .agg (Enc.enc y).toArray] w (fun v _ => v = .bool (decide (x = y))) := by
  refine ct_of Try.func87 rfl Try.ntmps87 rfl ?_
  refine S_sub [(0, .agg (Enc.enc x).toArray), (1, .agg (Enc.enc y).toArray)] ⟨rfl, rfl, trivial⟩ ?_
  have E : Ext w w := Ext.refl w
  refine S_seq ?_
  refine S_reg [false, false, true] rfl rfl ?_
  refine J_box rfl rfl (fun b1 w1 e1 s1 h1 => ?_)
  have g_b1 : w.heap.size ≤ b1 := by have := E.size; omega
  have y_b1 := h1.lt
  replace E := E.trans e1
  have z1 := e1.size
  refine J_box rfl rfl (fun b2 w2 e2 s2 h2 => ?_)
  have g_b2 : w.heap.size ≤ b2 := by have := E.size; omega
  have y_b2 := h2.lt
  replace E := E.trans e2; replace h1 := h1.ext e2
  have z2 := e2.size
  refine J_st (R_assign rfl) rfl (J_done ?_)
  refine S_seq ?_
  refine S_seq ?_
  refine S_reg [true, true, true, true, true] rfl rfl ?_
  refine J_st (R_fieldAddr0 fl121_0 rfl) rfl (J_st (R_load sc3 rfl (h1.one 0 rfl)) rfl (J_st (R_fieldAddr0 fl121_0 rfl) rfl (J_st (R_load sc3 rfl (h2.one 0 rfl)) rfl (J_st (R_neq rfl rfl) rfl (J_done ?_)))))
  refine S_cond rfl (fun hc1 => ?_) (fun hc1 => ?_)
  · refine S_seq ?_
    refine S_reg [true] rfl rfl ?_
    refine J_st (R_assign rfl) rfl (J_done ?_)
    refine S_ret (E_done1 rfl rfl E ?_)
    cases x; cases y; simp_all
  · refine S_skip ?_
    refine S_seq ?_
    refine S_seq ?_
    refine S_reg [true, true, true, true, true] rfl rfl ?_
    refine J_st (R_fieldAddr0 fl121_1 rfl) rfl (J_st (R_load sc4 rfl (h1.one 1 rfl)) rfl (J_st (R_fieldAddr0 fl121_1 rfl) rfl (J_st (R_load sc4 rfl (h2.one 1 rfl)) rfl (J_st (R_neqB (Try.underlying4) rfl rfl) rfl (J_done ?_)))))
    refine S_cond rfl (fun hc2 => ?_) (fun hc2 => ?_)
    · refine S_seq ?_
      refine S_reg [true] rfl rfl ?_
      refine J_st (R_assign rfl) rfl (J_done ?_)
      refine S_ret (E_done1 rfl rfl E ?_)
      cases x; cases y; simp_all
    · refine S_skip ?_
      refine S_seq ?_
      refine S_reg [true] rfl rfl ?_
      refine J_st (R_assign rfl) rfl (J_done ?_)
      refine S_ret (E_done1 rfl rfl E ?_)
      cases x; cases y; simp_all

set_option maxRecDepth 20000 in
theorem c_szRecordS (vxs : Value) (xs : List Record) (n : Int) (w : World) (hxs : RdS w vxs xs) (h0 : 0 ≤ n ∧ n ≤ 1048576) : Ct Try.prog 5 [vxs, .int .i64 n] w (fun v _ => v = .int .i64 (szM xs.length n)) := by
  refine ct_of Try.func5 rfl Try.ntmps5 rfl ?_
  refine S_sub [(0, vxs), (1, .int .i64 n)] ⟨rfl, rfl, trivial⟩ ?_
  have E : Ext w w := Ext.refl w
  refine S_seq ?_
  refine S_reg [true] rfl rfl ?_
  refine J_st (R_assign rfl) rfl (J_done ?_)
  refine S_seq ?_
  refine S_reg [true, true, true, true, true] rfl rfl ?_
  refine J_st (R_move rfl) rfl (J_st (R_move rfl) rfl (J_st (R_len Try.underlying25 rfl (hxs.ext E).len) rfl (J_st (R_sub rfl rfl rfl) rfl (J_st (R_assign rfl) rfl (J_done ?_)))))
  refine S_seq ?_
  refine S_seq ?_
  refine S_reg [true, true] rfl rfl ?_
  refine J_st (R_move rfl) rfl (J_st (R_lss rfl rfl) rfl (J_done ?_))
  refine S_cond rfl (fun hc1 => ?_) (fun hc1 => ?_)
  · refine S_seq ?_
    refine S_reg [true] rfl rfl ?_
    refine J_st (R_assign rfl) rfl (J_done ?_)
    refine S_ret (E_done1 rfl rfl E ?_)
    exact sz_no h0.2 h0.1 hxs.1 hc1
  · refine S_skip ?_
    refine S_seq ?_
    refine S_reg [true, true] rfl rfl ?_
    refine J_st (R_move rfl) rfl (J_st (R_assign rfl) rfl (J_done ?_))
    refine S_ret (E_done1 rfl rfl E ?_)
    exact sz_yes h0.2 h0.1 hxs.1 hc1

set_option maxRecDepth 20000 in
theorem c_toRecordS (vxs : Value) (xs : List Record) (w : World) (hxs : RdS w vxs xs) (hb : xs.length ≤ 1048576) : Ct Try.prog 8 [vxs] w (fun v w' => Own w' w.heap.size w'.heap.size 5 v (List.flatMap (Enc.enc (α := Record)) xs)) := by
  refine ct_of Try.func8 rfl Try.ntmps8 rfl ?_
  refine S_sub [(0, vxs)] ⟨rfl, trivial⟩ ?_
  have E : Ext w w := Ext.refl w
  refine S_seq ?_
  refine S_reg [true] rfl rfl ?_
  refine J_st (R_assign rfl) rfl (J_done ?_)
  refine S_seq ?_
  refine S_reg [true, true, false, true] rfl rfl ?_
  refine J_st (R_move rfl) rfl (J_st (R_len Try.underlying25 rfl (hxs.ext E).len) rfl ?_)
  refine J_make (m := xs.length) sl40 rfl rfl (by omega) (by decide) rfl (fun b1 w1 e1 s1 h1 => ?_)
  have g_b1 : w.heap.size ≤ b1 := by have := E.size; omega
  have y_b1 := h1.lt
  replace E := E.trans e1
  have z1 := e1.size
  refine J_st (R_assign rfl) rfl (J_done ?_)
  refine S_seq ?_
  refine S_seq ?_
  refine S_reg [true] rfl rfl ?_
  refine J_st (R_assign rfl) rfl (J_done ?_)
  refine S_block ?_
  refine S_loop (fun (k : Nat) => [(0, vxs), (2, .slice none 0 0), (3, .slice (some ⟨b1, 0, none⟩) xs.length xs.length), (4, .int .i64 ((k : Nat) : Int))]) (fun (k : Nat) w' => Ext w w' ∧ w1.heap.size ≤ w'.heap.size ∧ k ≤ xs.length ∧ Blk w' b1 (mk xs [.int .i64 0, .int .i64 0, .int .i64 0, .int .i64 0, .int .i64 0] k xs.length)) (fun (k : Nat) => xs.length - k) 0 ⟨rfl, rfl, rfl, rfl, trivial⟩ ⟨E, Nat.le_refl _, Nat.zero_le _, (mk_zero xs [.int .i64 0, .int .i64 0, .int .i64 0, .int .i64 0, .int .i64 0] xs.length) ▸ h1⟩ ?_
  clear E h1
  rintro k w2 ⟨E, z2, hk, h1⟩
  refine S_seq ?_
  refine S_seq ?_
  refine S_reg [true, true, true, true] rfl rfl ?_
  refine J_st (R_move rfl) rfl (J_st (R_move rfl) rfl (J_st (R_len Try.underlying25 rfl (hxs.ext E).len) rfl (J_st (R_lss rfl rfl) rfl (J_done ?_))))
  refine S_cond rfl (fun hc1 => ?_) (fun hc1 => ?_)
  · have hc1n : k < xs.length := by first | (have h := of_decide_eq_true hc1; omega) | (have h := hc1; simp at h; omega)
    refine S_skip ?_
    refine S_seq ?_
    refine S_block ?_
    refine S_reg [true, true, true, true, true, true, false, true, false] rfl rfl ?_
    refine J_st (R_move rfl) rfl (J_st (R_move rfl) rfl (J_st (R_move rfl) rfl (J_st (R_move rfl) rfl ?_)))
    have hi1 : k < xs.length := (by first | assumption | omega | (simp only [List.length_set]; first | assumption | omega) | (simp only [List.getElem_set_self, List.length_set]; first | assumption | omega) | (simp only [setW, setLk, List.length_set]; first | assumption | omega))
    refine J_st (R_index (i := k) sl25 rfl rfl (hxs.ext E) hi1) rfl (J_st (R_loadS st72 rfl ((hxs.ext E).get hi1) rfl) rfl ?_)
    refine J_call Try.call25 rfl (c_toRecord (xs[k]'hi1) _ ) rfl (fun _ w3 e2 hv => ?_)
    subst hv
    replace E := E.trans e2; replace h1 := h1.ext e2
    have z3 := e2.size
    refine J_st (R_indexB sl40 rfl rfl (by first | assumption | omega | (simp only [List.length_set]; first | assumption | omega) | (simp only [List.getElem_set_self, List.length_set]; first | assumption | omega) | (simp only [setW, setLk, List.length_set]; first | assumption | omega))) rfl ?_
    refine J_storeS' (cs' := mk xs [.int .i64 0, .int .i64 0, .int .i64 0, .int .i64 0, .int .i64 0] (k + 1) xs.length) st55 rfl rfl rfl rfl h1 (mk_room xs [.int .i64 0, .int .i64 0, .int .i64 0, .int .i64 0, .int .i64 0] rfl hc1n hc1n (by rfl)) (mk_step xs [.int .i64 0, .int .i64 0, .int .i64 0, .int .i64 0, .int .i64 0] rfl hc1n hc1n) (fun w4 m1 h1' => ?_)
    replace h1 := h1'
    replace E := E.step m1 (fun g hg => by cases hg; omega)
    have z4 := m1.size
    refine J_done ?_
    refine S_nil (E_inB ?_)
    refine S_reg [true, true, true] rfl rfl ?_
    refine J_st (R_move rfl) rfl (J_st (R_add rfl rfl (add_one hc1n hxs.1)) rfl (J_st (R_assign rfl) rfl (J_done ?_)))
    refine S_nil (E_again (k + 1) (by omega) ⟨rfl, rfl, rfl, rfl, trivial⟩ ⟨E, (by omega), (by omega), h1⟩)
  · have hc1n : ¬ k < xs.length := by first | (have h := of_decide_eq_false hc1; omega) | (have h := hc1; simp at h; omega)
    refine S_exit (E_lp_exit (E_inB_exit ?_))
    refine S_seq ?_
    refine S_reg [true, true] rfl rfl ?_
    refine J_st (R_move rfl) rfl (J_st (R_assign rfl) rfl (J_done ?_))
    refine S_ret (E_done1 rfl rfl E ?_)
    obtain rfl : k = xs.length := by omega
    rw [mk_all] at h1
    exact Own.ofBlk h1 (by omega) (by have := h1.lt; omega) (sum_flat xs) hxs.1

set_option maxRecDepth 20000 in
theorem c_eqRecordS (vxs : Value) (xs : List Record) (vys : Value) (ys : List Record) (w : World) (hxs : RdS w vxs xs) (hys : RdS w vys ys) : Ct Try.prog 12 [vxs, vys] w (fun v _ => v = .bool (decide (xs = ys))) := by
  refine ct_of Try.func12 rfl Try.ntmps12 rfl ?_
  refine S_sub [(0, vxs), (1, vys)] ⟨rfl, rfl, trivial⟩ ?_
  have E : Ext w w := Ext.refl w
  refine S_seq ?_
  refine S_reg [true] rfl rfl ?_
  refine J_st (R_assign rfl) rfl (J_done ?_)
  refine S_seq ?_
  refine S_seq ?_
  refine S_reg [true, true, true, true, true] rfl rfl ?_
  refine J_st (R_move rfl) rfl (J_st (R_len Try.underlying40 rfl (hxs.ext E).len) rfl (J_st (R_move rfl) rfl (J_st (R_len Try.underlying40 rfl (hys.ext E).len) rfl (J_st (R_neq rfl rfl) rfl (J_done ?_)))))
  refine S_cond rfl (fun hc1 => ?_) (fun hc1 => ?_)
  · have hc1n : ¬ xs.length = ys.length := by first | (have h := of_decide_eq_true hc1; omega) | (have h := hc1; simp at h; omega)
    refine S_seq ?_
    refine S_reg [true] rfl rfl ?_
    refine J_st (R_assign rfl) rfl (J_done ?_)
    refine S_ret (E_done1 rfl rfl E ?_)
    simp [eq_len hc1n]
  · have hc1n : xs.length = ys.length := by first | (have h := of_decide_eq_false hc1; omega) | (have h := hc1; simp at h; omega)
    refine S_skip ?_
    refine S_seq ?_
    refine S_seq ?_
    refine S_reg [true] rfl rfl ?_
    refine J_st (R_assign rfl) rfl (J_done ?_)
    refine S_block ?_
    refine S_loop (fun (k : Nat) => [(0, vxs), (1, vys), (4, .bool false), (5, .int .i64 ((k : Nat) : Int))]) (fun (k : Nat) w' => Ext w w' ∧ w.heap.size ≤ w'.heap.size ∧ k ≤ xs.length ∧ xs.take k = ys.take k) (fun (k : Nat) => xs.length - k) 0 ⟨rfl, rfl, rfl, rfl, trivial⟩ ⟨E, Nat.le_refl _, Nat.zero_le _, rfl⟩ ?_
    clear E
    rintro k w1 ⟨E, z1, hk, hp⟩
    refine S_seq ?_
    refine S_seq ?_
    refine S_reg [true, true, true, true] rfl rfl ?_
    refine J_st (R_move rfl) rfl (J_st (R_move rfl) rfl (J_st (R_len Try.underlying40 rfl (hxs.ext E).len) rfl (J_st (R_lss rfl rfl) rfl (J_done ?_))))
    refine S_cond rfl (fun hc2 => ?_) (fun hc2 => ?_)
    · have hc2n : k < xs.length := by first | (have h := of_decide_eq_true hc2; omega) | (have h := hc2; simp at h; omega)
      refine S_skip ?_
      refine S_seq ?_
      refine S_block ?_
      refine S_seq ?_
      refine S_regD mixed [(0, true), (1, true), (2, true), (3, true), (4, true), (5, true), (6, true), (7, true), (8, false), (9, true)] (by decide +kernel) rfl (fun w2 e1 => ?_)
      replace E := E.trans e1
      have z2 := e1.size
      refine J_st (R_move rfl) rfl (J_st (R_move rfl) rfl ?_)
      have hi1 : k < xs.length := (by first | assumption | omega | (simp only [List.length_set]; first | assumption | omega) | (simp only [List.getElem_set_self, List.length_set]; first | assumption | omega) | (simp only [setW, setLk, List.length_set]; first | assumption | omega))
      refine J_st (R_index (i := k) sl40 rfl rfl (hxs.ext E) hi1) rfl (J_st (R_loadS st55 rfl ((hxs.ext E).get hi1) rfl) rfl (J_st (R_move rfl) rfl (J_st (R_move rfl) rfl ?_)))
      have hi2 : k < ys.length := (by first | assumption | omega | (simp only [List.length_set]; first | assumption | omega) | (simp only [List.getElem_set_self, List.length_set]; first | assumption | omega) | (simp only [setW, setLk, List.length_set]; first | assumption | omega))
      refine J_st (R_index (i := k) sl40 rfl rfl (hys.ext E) hi2) rfl (J_st (R_loadS st55 rfl ((hys.ext E).get hi2) rfl) rfl ?_)
      refine J_call Try.call38 rfl (c_eqRecord (xs[k]'hi1) (ys[k]'hi2) _ ) rfl (fun _ w3 e2 hv => ?_)
      subst hv
      replace E := E.trans e2
      have z3 := e2.size
      refine J_st (R_not rfl) rfl (J_done ?_)
      refine S_cond rfl (fun hc3 => ?_) (fun hc3 => ?_)
      · refine S_seq ?_
        refine S_reg [true] rfl rfl ?_
        refine J_st (R_assign rfl) rfl (J_done ?_)
        refine S_ret (E_inB_ret (E_lp_ret (E_inB_ret (E_done1 rfl rfl E ?_))))
        exact eqS_no (by omega) (by omega) (by simpa using hc3)
      · refine S_skip ?_
        refine S_nil (E_inB ?_)
        refine S_reg [true, true, true] rfl rfl ?_
        refine J_st (R_move rfl) rfl (J_st (R_add rfl rfl (add_one hc2n hxs.1)) rfl (J_st (R_assign rfl) rfl (J_done ?_)))
        refine S_nil (E_again (k + 1) (by omega) ⟨rfl, rfl, rfl, rfl, trivial⟩ ⟨E, (by omega), (by omega), eqS_step hp (by assumption) (by omega) (by simpa using hc3)⟩)
    · have hc2n : ¬ k < xs.length := by first | (have h := of_decide_eq_false hc2; omega) | (have h := hc2; simp at h; omega)
      refine S_exit (E_lp_exit (E_inB_exit ?_))
      refine S_seq ?_
      refine S_reg [true] rfl rfl ?_
      refine J_st (R_assign rfl) rfl (J_done ?_)
      refine S_ret (E_done1 rfl rfl E ?_)
      exact eqS_yes hp hc1n (by omega)

set_option maxRecDepth 20000 in
theorem c_eqBoolS (vxs : Value) (xs : List Bool) (vys : Value) (ys : List Bool) (w : World) (hxs : RdS w vxs xs) (hys : RdS w vys ys) : Ct Try.prog 84 [vxs, vys] w (fun v _ => v = .bool (decide (xs = ys))) := by
  refine ct_of Try.func84 rfl Try.ntmps84 rfl ?_
  refine S_sub [(0, vxs), (1, vys)] ⟨rfl, rfl, trivial⟩ ?_
  have E : Ext w w := Ext.refl w
  refine S_seq ?_
  refine S_reg [true] rfl rfl ?_
  refine J_st (R_assign rfl) rfl (J_done ?_)
  refine S_seq ?_
  refine S_seq ?_
  refine S_reg [true, true, true, true, true] rfl rfl ?_
  refine J_st (R_move rfl) rfl (J_st (R_len Try.underlying59 rfl (hxs.ext E).len) rfl (J_st (R_move rfl) rfl (J_st (R_len Try.underlying59 rfl (hys.ext E).len) rfl (J_st (R_neq rfl rfl) rfl (J_done ?_)))))
  refine S_cond rfl (fun hc1 => ?_) (fun hc1 => ?_)
  · have hc1n : ¬ xs.length = ys.length := by first | (have h := of_decide_eq_true hc1; omega) | (have h := hc1; simp at h; omega)
    refine S_seq ?_
    refine S_reg [true] rfl rfl ?_
    refine J_st (R_assign rfl) rfl (J_done ?_)
    refine S_ret (E_done1 rfl rfl E ?_)
    simp [eq_len hc1n]
  · have hc1n : xs.length = ys.length := by first | (have h := of_decide_eq_false hc1; omega) | (have h := hc1; simp at h; omega)
    refine S_skip ?_
    refine S_seq ?_
    refine S_seq ?_
    refine S_reg [true] rfl rfl ?_
    refine J_st (R_assign rfl) rfl (J_done ?_)
    refine S_block ?_
    refine S_loop (fun (k : Nat) => [(0, vxs), (1, vys), (4, .bool false), (5, .int .i64 ((k : Nat) : Int))]) (fun (k : Nat) w' => Ext w w' ∧ w.heap.size ≤ w'.heap.size ∧ k ≤ xs.length ∧ xs.take k = ys.take k) (fun (k : Nat) => xs.length - k) 0 ⟨rfl, rfl, rfl, rfl, trivial⟩ ⟨E, Nat.le_refl _, Nat.zero_le _, rfl⟩ ?_
    clear E
    rintro k w1 ⟨E, z1, hk, hp⟩
    refine S_seq ?_
    refine S_seq ?_
    refine S_reg [true, true, true, true] rfl rfl ?_
    refine J_st (R_move rfl) rfl (J_st (R_move rfl) rfl (J_st (R_len Try.underlying59 rfl (hxs.ext E).len) rfl (J_st (R_lss rfl rfl) rfl (J_done ?_))))
    refine S_cond rfl (fun hc2 => ?_) (fun hc2 => ?_)
    · have hc2n : k < xs.length := by first | (have h := of_decide_eq_true hc2; omega) | (have h := hc2; simp at h; omega)
      refine S_skip ?_
      refine S_seq ?_
      refine S_block ?_
      refine S_seq ?_
      refine S_regD mixed [(0, true), (1, true), (2, true), (3, true), (4, true), (5, true), (6, true), (7, true), (8, true)] (by decide +kernel) rfl (fun w2 e1 => ?_)
      replace E := E.trans e1
      have z2 := e1.size
      refine J_st (R_move rfl) rfl (J_st (R_move rfl) rfl ?_)
      have hi1 : k < xs.length := (by first | assumption | omega | (simp only [List.length_set]; first | assumption | omega) | (simp only [List.getElem_set_self, List.length_set]; first | assumption | omega) | (simp only [setW, setLk, List.length_set]; first | assumption | omega))
      refine J_st (R_index (i := k) sl59 rfl rfl (hxs.ext E) hi1) rfl (J_st (R_load sc4 rfl (((hxs.ext E).get hi1).one 0 rfl)) rfl (J_st (R_move rfl) rfl (J_st (R_move rfl) rfl ?_)))
      have hi2 : k < ys.length := (by first | assumption | omega | (simp only [List.length_set]; first | assumption | omega) | (simp only [List.getElem_set_self, List.length_set]; first | assumption | omega) | (simp only [setW, setLk, List.length_set]; first | assumption | omega))
      refine J_st (R_index (i := k) sl59 rfl rfl (hys.ext E) hi2) rfl (J_st (R_load sc4 rfl (((hys.ext E).get hi2).one 0 rfl)) rfl (J_st (R_neqB (Try.underlying4) rfl rfl) rfl (J_done ?_)))
      refine S_cond rfl (fun hc3 => ?_) (fun hc3 => ?_)
      · refine S_seq ?_
        refine S_reg [true] rfl rfl ?_
        refine J_st (R_assign rfl) rfl (J_done ?_)
        refine S_ret (E_inB_ret (E_lp_ret (E_inB_ret (E_done1 rfl rfl E ?_))))
        exact eqS_no (by omega) (by omega) (by simpa using hc3)
      · refine S_skip ?_
        refine S_nil (E_inB ?_)
        refine S_reg [true, true, true] rfl rfl ?_
        refine J_st (R_move rfl) rfl (J_st (R_add rfl rfl (add_one hc2n hxs.1)) rfl (J_st (R_assign rfl) rfl (J_done ?_)))
        refine S_nil (E_again (k + 1) (by omega) ⟨rfl, rfl, rfl, rfl, trivial⟩ ⟨E, (by omega), (by omega), eqS_step hp (by assumption) (by omega) (by simpa using hc3)⟩)
    · have hc2n : ¬ k < xs.length := by first | (have h := of_decide_eq_false hc2; omega) | (have h := hc2; simp at h; omega)
      refine S_exit (E_lp_exit (E_inB_exit ?_))
      refine S_seq ?_
      refine S_reg [true] rfl rfl ?_
      refine J_st (R_assign rfl) rfl (J_done ?_)
      refine S_ret (E_done1 rfl rfl E ?_)
      exact eqS_yes hp hc1n (by omega)

set_option maxRecDepth 20000 in
theorem c_eqDoneS (vxs : Value) (xs : List Done) (vys : Value) (ys : List Done) (w : World) (hxs : RdS w vxs xs) (hys : RdS w vys ys) : Ct Try.prog 85 [vxs, vys] w (fun v _ => v = .bool (decide (xs = ys))) := by
  refine ct_of Try.func85 rfl Try.ntmps85 rfl ?_
  refine S_sub [(0, vxs), (1, vys)] ⟨rfl, rfl, trivial⟩ ?_
  have E : Ext w w := Ext.refl w
  refine S_seq ?_
  refine S_reg [true] rfl rfl ?_
  refine J_st (R_assign rfl) rfl (J_done ?_)
  refine S_seq ?_
  refine S_seq ?_
  refine S_reg [true, true, true, true, true] rfl rfl ?_
  refine J_st (R_move rfl) rfl (J_st (R_len Try.underlying60 rfl (hxs.ext E).len) rfl (J_st (R_move rfl) rfl (J_st (R_len Try.underlying60 rfl (hys.ext E).len) rfl (J_st (R_neq rfl rfl) rfl (J_done ?_)))))
  refine S_cond rfl (fun hc1 => ?_) (fun hc1 => ?_)
  · have hc1n : ¬ xs.length = ys.length := by first | (have h := of_decide_eq_true hc1; omega) | (have h := hc1; simp at h; omega)
    refine S_seq ?_
    refine S_reg [true] rfl rfl ?_
    refine J_st (R_assign rfl) rfl (J_done ?_)
    refine S_ret (E_done1 rfl rfl E ?_)
    simp [eq_len hc1n]
  · have hc1n : xs.length = ys.length := by first | (have h := of_decide_eq_false hc1; omega) | (have h := hc1; simp at h; omega)
    refine S_skip ?_
    refine S_seq ?_
    refine S_seq ?_
    refine S_reg [true] rfl rfl ?_
    refine J_st (R_assign rfl) rfl (J_done ?_)
    refine S_block ?_
    refine S_loop (fun (k : Nat) => [(0, vxs), (1, vys), (4, .bool false), (5, .int .i64 ((k : Nat) : Int))]) (fun (k : Nat) w' => Ext w w' ∧ w.heap.size ≤ w'.heap.size ∧ k ≤ xs.length ∧ xs.take k = ys.take k) (fun (k : Nat) => xs.length - k) 0 ⟨rfl, rfl, rfl, rfl, trivial⟩ ⟨E, Nat.le_refl _, Nat.zero_le _, rfl⟩ ?_
    clear E
    rintro k w1 ⟨E, z1, hk, hp⟩
    refine S_seq ?_
    refine S_seq ?_
    refine S_reg [true, true, true, true] rfl rfl ?_
    refine J_st (R_move rfl) rfl (J_st (R_move rfl) rfl (J_st (R_len Try.underlying60 rfl (hxs.ext E).len) rfl (J_st (R_lss rfl rfl) rfl (J_done ?_))))
    refine S_cond rfl (fun hc2 => ?_) (fun hc2 => ?_)
    · have hc2n : k < xs.length := by first | (have h := of_decide_eq_true hc2; omega) | (have h := hc2; simp at h; omega)
      refine S_skip ?_
      refine S_seq ?_
      refine S_block ?_
      refine S_seq ?_
      refine S_regD mixed [(0, true), (1, true), (2, true), (3, true), (4, true), (5, true), (6, true), (7, true), (8, false), (9, true)] (by decide +kernel) rfl (fun w2 e1 => ?_)
      replace E := E.trans e1
      have z2 := e1.size
      refine J_st (R_move rfl) rfl (J_st (R_move rfl) rfl ?_)
      have hi1 : k < xs.length := (by first | assumption | omega | (simp only [List.length_set]; first | assumption | omega) | (simp only [List.getElem_set_self, List.length_set]; first | assumption | omega) | (simp only [setW, setLk, List.length_set]; first | assumption | omega))
      refine J_st (R_index (i := k) sl60 rfl rfl (hxs.ext E) hi1) rfl (J_st (R_loadS st121 rfl ((hxs.ext E).get hi1) rfl) rfl (J_st (R_move rfl) rfl (J_st (R_move rfl) rfl ?_)))
      have hi2 : k < ys.length := (by first | assumption | omega | (simp only [List.length_set]; first | assumption | omega) | (simp only [List.getElem_set_self, List.length_set]; first | assumption | omega) | (simp only [setW, setLk, List.length_set]; first | assumption | omega))
      refine J_st (R_index (i := k) sl60 rfl rfl (hys.ext E) hi2) rfl (J_st (R_loadS st121 rfl ((hys.ext E).get hi2) rfl) rfl ?_)
      refine J_call Try.call87 rfl (c_eqDone (xs[k]'hi1) (ys[k]'hi2) _ ) rfl (fun _ w3 e2 hv => ?_)
      subst hv
      replace E := E.trans e2
      have z3 := e2.size
      refine J_st (R_not rfl) rfl (J_done ?_)
      refine S_cond rfl (fun hc3 => ?_) (fun hc3 => ?_)
      · refine S_seq ?_
        refine S_reg [true] rfl rfl ?_
        refine J_st (R_assign rfl) rfl (J_done ?_)
        refine S_ret (E_inB_ret (E_lp_ret (E_inB_ret (E_done1 rfl rfl E ?_))))
        exact eqS_no (by omega) (by omega) (by simpa using hc3)
      · refine S_skip ?_
        refine S_nil (E_inB ?_)
        refine S_reg [true, true, true] rfl rfl ?_
        refine J_st (R_move rfl) rfl (J_st (R_add rfl rfl (add_one hc2n hxs.1)) rfl (J_st (R_assign rfl) rfl (J_done ?_)))
        refine S_nil (E_again (k + 1) (by omega) ⟨rfl, rfl, rfl, rfl, trivial⟩ ⟨E, (by omega), (by omega), eqS_step hp (by assumption) (by omega) (by simpa using hc3)⟩)
    · have hc2n : ¬ k < xs.length := by first | (have h := of_decide_eq_false hc2; omega) | (have h := hc2; simp at h; omega)
      refine S_exit (E_lp_exit (E_inB_exit ?_))
      refine S_seq ?_
      refine S_reg [true] rfl rfl ?_
      refine J_st (R_assign rfl) rfl (J_done ?_)
      refine S_ret (E_done1 rfl rfl E ?_)
      exact eqS_yes hp hc1n (by omega)

set_option maxHeartbeats 4000000 in
set_option maxRecDepth 20000 in
theorem c_eqWorker (cx : List Value) (x : Worker) (cy : List Value) (y : Worker) (w : World) (hx : Dat.R w 0 w.heap.size cx x) (hy : Dat.R w 0 w.heap.size cy y) : Ct Try.prog 64 [.agg cx.toArray, .agg cy.toArray] w (fun v _ => v = .bool (decide (x = y))) := by
  refine ct_of Try.func64 rfl Try.ntmps64 rfl ?_
  obtain ⟨o1, o2, o3, o4, o5, o6, o7, o8, rfl, hd1, hd2, hd3, hd4, hd5, hd6, hd7, hd8⟩ := Worker.op hx
  obtain ⟨o9, o10, o11, o12, o13, o14, o15, o16, rfl, hd9, hd10, hd11, hd12, hd13, hd14, hd15, hd16⟩ := Worker.op hy
  refine S_sub [(0, .agg [o1, o2, o3, o4, o5, o6, o7, o8].toArray), (1, .agg [o9, o10, o11, o12, o13, o14, o15, o16].toArray)] ⟨rfl, rfl, trivial⟩ ?_
  have E : Ext w w := Ext.refl w
  refine S_seq ?_
  refine S_reg [false, false, true] rfl rfl ?_
  refine J_box rfl rfl (fun b1 w1 e1 s1 h1 => ?_)
  have g_b1 : w.heap.size ≤ b1 := by have := E.size; omega
  have y_b1 := h1.lt
  replace E := E.trans e1
  have z1 := e1.size
  refine J_box rfl rfl (fun b2 w2 e2 s2 h2 => ?_)
  have g_b2 : w.heap.size ≤ b2 := by have := E.size; omega
  have y_b2 := h2.lt
  replace E := E.trans e2; replace h1 := h1.ext e2
  have z2 := e2.size
  refine J_st (R_assign rfl) rfl (J_done ?_)
  refine S_seq ?_
  refine S_seq ?_
  refine S_reg [true, true, true, true, false, true] rfl rfl ?_
  refine J_st (R_fieldAddr0 fl62_0 rfl) rfl (J_st (R_load sc40 rfl (h1.one 0 rfl)) rfl (J_st (R_fieldAddr0 fl62_0 rfl) rfl (J_st (R_load sc40 rfl (h2.one 0 rfl)) rfl ?_)))
  refine J_call Try.call12 rfl (c_eqRecordS o1 x.queue o9 y.queue _ (hd1.rd.ext E) (hd9.rd.ext E)) rfl (fun _ w3 e3 hv => ?_)
  subst hv
  replace E := E.trans e3; replace h1 := h1.ext e3; replace h2 := h2.ext e3
  have z3 := e3.size
  refine J_st (R_not rfl) rfl (J_done ?_)
  refine S_cond rfl (fun hc1 => ?_) (fun hc1 => ?_)
  · refine S_seq ?_
    refine S_reg [true] rfl rfl ?_
    refine J_st (R_assign rfl) rfl (J_done ?_)
    refine S_ret (E_done1 rfl rfl E ?_)
    cases x; cases y; simp_all
  · refine S_skip ?_
    refine S_seq ?_
    refine S_seq ?_
    refine S_reg [true, true, true, true, false, true] rfl rfl ?_
    refine J_st (R_fieldAddr0 fl62_1 rfl) rfl (J_st (R_load sc40 rfl (h1.one 1 rfl)) rfl (J_st (R_fieldAddr0 fl62_1 rfl) rfl (J_st (R_load sc40 rfl (h2.one 1 rfl)) rfl ?_)))
    refine J_call Try.call12 rfl (c_eqRecordS o2 x.staged o10 y.staged _ (hd2.rd.ext E) (hd10.rd.ext E)) rfl (fun _ w4 e4 hv => ?_)
    subst hv
    replace E := E.trans e4; replace h1 := h1.ext e4; replace h2 := h2.ext e4
    have z4 := e4.size
    refine J_st (R_not rfl) rfl (J_done ?_)
    refine S_cond rfl (fun hc2 => ?_) (fun hc2 => ?_)
    · refine S_seq ?_
      refine S_reg [true] rfl rfl ?_
      refine J_st (R_assign rfl) rfl (J_done ?_)
      refine S_ret (E_done1 rfl rfl E ?_)
      cases x; cases y; simp_all
    · refine S_skip ?_
      refine S_seq ?_
      refine S_seq ?_
      refine S_reg [true, true, true, true, false, true] rfl rfl ?_
      refine J_st (R_fieldAddr0 fl62_2 rfl) rfl (J_st (R_load sc40 rfl (h1.one 2 rfl)) rfl (J_st (R_fieldAddr0 fl62_2 rfl) rfl (J_st (R_load sc40 rfl (h2.one 2 rfl)) rfl ?_)))
      refine J_call Try.call12 rfl (c_eqRecordS o3 x.inputs o11 y.inputs _ (hd3.rd.ext E) (hd11.rd.ext E)) rfl (fun _ w5 e5 hv => ?_)
      subst hv
      replace E := E.trans e5; replace h1 := h1.ext e5; replace h2 := h2.ext e5
      have z5 := e5.size
      refine J_st (R_not rfl) rfl (J_done ?_)
      refine S_cond rfl (fun hc3 => ?_) (fun hc3 => ?_)
      · refine S_seq ?_
        refine S_reg [true] rfl rfl ?_
        refine J_st (R_assign rfl) rfl (J_done ?_)
        refine S_ret (E_done1 rfl rfl E ?_)
        cases x; cases y; simp_all
      · refine S_skip ?_
        refine S_seq ?_
        refine S_seq ?_
        refine S_reg [true, true, true, true, false, true] rfl rfl ?_
        refine J_st (R_fieldAddr0 fl62_3 rfl) rfl (J_st (R_load sc57 rfl (h1.one 3 rfl)) rfl (J_st (R_fieldAddr0 fl62_3 rfl) rfl (J_st (R_load sc57 rfl (h2.one 3 rfl)) rfl ?_)))
        refine J_call Try.call82 rfl (c_eqCellS o4 x.cells o12 y.cells _ (hd4.rd.ext E) (hd12.rd.ext E)) rfl (fun _ w6 e6 hv => ?_)
        subst hv
        replace E := E.trans e6; replace h1 := h1.ext e6; replace h2 := h2.ext e6
        have z6 := e6.size
        refine J_st (R_not rfl) rfl (J_done ?_)
        refine S_cond rfl (fun hc4 => ?_) (fun hc4 => ?_)
        · refine S_seq ?_
          refine S_reg [true] rfl rfl ?_
          refine J_st (R_assign rfl) rfl (J_done ?_)
          refine S_ret (E_done1 rfl rfl E ?_)
          cases x; cases y; simp_all
        · refine S_skip ?_
          refine S_seq ?_
          refine S_seq ?_
          refine S_reg [true, true, true, true, false, true] rfl rfl ?_
          refine J_st (R_fieldAddr0 fl62_4 rfl) rfl (J_st (R_load sc58 rfl (h1.one 4 rfl)) rfl (J_st (R_fieldAddr0 fl62_4 rfl) rfl (J_st (R_load sc58 rfl (h2.one 4 rfl)) rfl ?_)))
          refine J_call Try.call83 rfl (c_eqIntS o5 x.sums o13 y.sums _ (hd5.rd.ext E) (hd13.rd.ext E)) rfl (fun _ w7 e7 hv => ?_)
          subst hv
          replace E := E.trans e7; replace h1 := h1.ext e7; replace h2 := h2.ext e7
          have z7 := e7.size
          refine J_st (R_not rfl) rfl (J_done ?_)
          refine S_cond rfl (fun hc5 => ?_) (fun hc5 => ?_)
          · refine S_seq ?_
            refine S_reg [true] rfl rfl ?_
            refine J_st (R_assign rfl) rfl (J_done ?_)
            refine S_ret (E_done1 rfl rfl E ?_)
            cases x; cases y; simp_all
          · refine S_skip ?_
            refine S_seq ?_
            refine S_seq ?_
            refine S_reg [true, true, true, true, false, true] rfl rfl ?_
            refine J_st (R_fieldAddr0 fl62_5 rfl) rfl (J_st (R_load sc59 rfl (h1.one 5 rfl)) rfl (J_st (R_fieldAddr0 fl62_5 rfl) rfl (J_st (R_load sc59 rfl (h2.one 5 rfl)) rfl ?_)))
            refine J_call Try.call84 rfl (c_eqBoolS o6 x.black o14 y.black _ (hd6.rd.ext E) (hd14.rd.ext E)) rfl (fun _ w8 e8 hv => ?_)
            subst hv
            replace E := E.trans e8; replace h1 := h1.ext e8; replace h2 := h2.ext e8
            have z8 := e8.size
            refine J_st (R_not rfl) rfl (J_done ?_)
            refine S_cond rfl (fun hc6 => ?_) (fun hc6 => ?_)
            · refine S_seq ?_
              refine S_reg [true] rfl rfl ?_
              refine J_st (R_assign rfl) rfl (J_done ?_)
              refine S_ret (E_done1 rfl rfl E ?_)
              cases x; cases y; simp_all
            · refine S_skip ?_
              refine S_seq ?_
              refine S_seq ?_
              refine S_reg [true, true, true, true, false, true] rfl rfl ?_
              refine J_st (R_fieldAddr0 fl62_6 rfl) rfl (J_st (R_load sc59 rfl (h1.one 6 rfl)) rfl (J_st (R_fieldAddr0 fl62_6 rfl) rfl (J_st (R_load sc59 rfl (h2.one 6 rfl)) rfl ?_)))
              refine J_call Try.call84 rfl (c_eqBoolS o7 x.caps o15 y.caps _ (hd7.rd.ext E) (hd15.rd.ext E)) rfl (fun _ w9 e9 hv => ?_)
              subst hv
              replace E := E.trans e9; replace h1 := h1.ext e9; replace h2 := h2.ext e9
              have z9 := e9.size
              refine J_st (R_not rfl) rfl (J_done ?_)
              refine S_cond rfl (fun hc7 => ?_) (fun hc7 => ?_)
              · refine S_seq ?_
                refine S_reg [true] rfl rfl ?_
                refine J_st (R_assign rfl) rfl (J_done ?_)
                refine S_ret (E_done1 rfl rfl E ?_)
                cases x; cases y; simp_all
              · refine S_skip ?_
                refine S_seq ?_
                refine S_seq ?_
                refine S_reg [true, true, true, true, false, true] rfl rfl ?_
                refine J_st (R_fieldAddr0 fl62_7 rfl) rfl (J_st (R_load sc60 rfl (h1.one 7 rfl)) rfl (J_st (R_fieldAddr0 fl62_7 rfl) rfl (J_st (R_load sc60 rfl (h2.one 7 rfl)) rfl ?_)))
                refine J_call Try.call85 rfl (c_eqDoneS o8 x.dones o16 y.dones _ (hd8.rd.ext E) (hd16.rd.ext E)) rfl (fun _ w10 e10 hv => ?_)
                subst hv
                replace E := E.trans e10; replace h1 := h1.ext e10; replace h2 := h2.ext e10
                have z10 := e10.size
                refine J_st (R_not rfl) rfl (J_done ?_)
                refine S_cond rfl (fun hc8 => ?_) (fun hc8 => ?_)
                · refine S_seq ?_
                  refine S_reg [true] rfl rfl ?_
                  refine J_st (R_assign rfl) rfl (J_done ?_)
                  refine S_ret (E_done1 rfl rfl E ?_)
                  cases x; cases y; simp_all
                · refine S_skip ?_
                  refine S_seq ?_
                  refine S_reg [true] rfl rfl ?_
                  refine J_st (R_assign rfl) rfl (J_done ?_)
                  refine S_ret (E_done1 rfl rfl E ?_)
                  cases x; cases y; simp_all

set_option maxRecDepth 20000 in
theorem c_OfEpoch (vxs : Value) (xs : List Record) (e : Int) (w : World) (hxs : RdS w vxs xs) (hb : xs.length ≤ 1048576) : Ct Try.prog 29 [vxs, .int .i64 e] w (fun v w' => Own w' w.heap.size w'.heap.size 5 v (List.flatMap (Enc.enc (α := Record)) (xs.filter (ofE e)))) := by
  refine ct_of Try.func29 rfl Try.ntmps29 rfl ?_
  refine S_sub [(0, vxs), (1, .int .i64 e)] ⟨rfl, rfl, trivial⟩ ?_
  have E : Ext w w := Ext.refl w
  refine S_seq ?_
  refine S_reg [true] rfl rfl ?_
  refine J_st (R_assign rfl) rfl (J_done ?_)
  refine S_seq ?_
  refine S_reg [true] rfl rfl ?_
  refine J_st (R_assign rfl) rfl (J_done ?_)
  refine S_seq ?_
  refine S_seq ?_
  refine S_reg [true, true, true] rfl rfl ?_
  refine J_st (R_move rfl) rfl (J_st (R_len Try.underlying40 rfl (hxs.ext E).len) rfl (J_st (R_move rfl) rfl (J_done ?_)))
  refine S_block ?_
  refine S_loop (fun (xq : Nat × Value) => let ⟨k, vo⟩ := xq; [(1, .int .i64 e), (4, .slice none 0 0), (5, vo), (8, vxs), (9, .int .i64 ((xs.length : Nat) : Int)), (10, .int .i64 ((k : Nat) : Int))]) (fun (xq : Nat × Value) w' => let ⟨k, vo⟩ := xq; Ext w w' ∧ w.heap.size ≤ w'.heap.size ∧ k ≤ xs.length ∧ Own w' w.heap.size w'.heap.size 5 vo (List.flatMap (Enc.enc (α := Record)) ((xs.take k).filter (ofE e)))) (fun (xq : Nat × Value) => let ⟨k, vo⟩ := xq; xs.length - k) (0, .slice none 0 0) ⟨rfl, rfl, rfl, rfl, rfl, rfl, trivial⟩ ⟨E, Nat.le_refl _, Nat.zero_le _, Own.fin (Own.nil w w.heap.size w.heap.size _) (by have := E.size; omega) (by omega) rfl⟩ ?_
  clear E
  rintro ⟨k, vo⟩ w1 ⟨E, z1, hk, ho⟩
  refine S_sub [(1, .int .i64 e), (4, .slice none 0 0), (5, vo), (8, vxs), (9, .int .i64 ((xs.length : Nat) : Int)), (10, .int .i64 ((k : Nat) : Int))] ⟨rfl, rfl, rfl, rfl, rfl, rfl, trivial⟩ ?_
  refine S_seq ?_
  refine S_reg [true] rfl rfl ?_
  refine J_st (R_lss rfl rfl) rfl (J_done ?_)
  refine S_seq ?_
  refine S_cond rfl (fun hc1 => ?_) (fun hc1 => ?_)
  · have hc1n : k < xs.length := by first | (have h := of_decide_eq_true hc1; omega) | (have h := hc1; simp at h; omega)
    refine S_skip ?_
    refine S_seq ?_
    refine S_block ?_
    refine S_seq ?_
    refine S_reg [true, true, false, false] rfl rfl ?_
    have hi1 : k < xs.length := (by first | assumption | omega | (simp only [List.length_set]; first | assumption | omega) | (simp only [List.getElem_set_self, List.length_set]; first | assumption | omega) | (simp only [setW, setLk, List.length_set]; first | assumption | omega))
    refine J_st (R_index (i := k) sl40 rfl rfl (hxs.ext E) hi1) rfl (J_st (R_loadS st55 rfl ((hxs.ext E).get hi1) rfl) rfl ?_)
    refine J_alloc st55 rfl (fun b1 w2 e1 s1 h1 => ?_)
    have g_b1 : w.heap.size ≤ b1 := by have := E.size; omega
    have y_b1 := h1.lt
    replace E := E.trans e1; replace ho := ho.ext e1
    have z2 := e1.size
    refine J_storeS' (cs' := [.int .i64 ((xs[k]'hi1).op), .int .i64 (((xs[k]'hi1).stamp).epoch), .int .i64 (((xs[k]'hi1).stamp).turn), .int .i64 ((xs[k]'hi1).key), .int .i64 ((xs[k]'hi1).val)]) st55 rfl rfl rfl rfl h1 (Nat.le_of_ble_eq_true rfl) rfl (fun w3 m1 h1' => ?_)
    replace h1 := h1'
    replace E := E.step m1 (fun g hg => by cases hg; omega); replace ho := ho.mod m1 (fun g hg => by cases hg; omega)
    have z3 := m1.size
    refine J_done ?_
    refine S_seq ?_
    refine S_reg [true, true, true, true, true] rfl rfl ?_
    refine J_st (R_fieldAddr0 fl55_1 rfl) rfl (J_st (R_fieldAddr fl53_0 rfl) rfl (J_st (R_load sc3 rfl (h1.one 1 rfl)) rfl (J_st (R_move rfl) rfl (J_st (R_eql rfl rfl) rfl (J_done ?_)))))
    refine S_cond rfl (fun hc2 => ?_) (fun hc2 => ?_)
    · refine S_reg [true, true, false, false, true] rfl rfl ?_
      refine J_st (R_move rfl) rfl (J_st (R_loadS st55 rfl h1.at rfl) rfl ?_)
      refine J_buildSlice (vs := [.agg (Enc.enc (xs[k]'hi1)).toArray]) (css := [[.int .i64 ((xs[k]'hi1).op), .int .i64 (((xs[k]'hi1).stamp).epoch), .int .i64 (((xs[k]'hi1).stamp).turn), .int .i64 ((xs[k]'hi1).key), .int .i64 ((xs[k]'hi1).val)]]) sl40 rfl rfl ⟨⟨rfl, rfl⟩, trivial⟩ rfl rfl (fun b2 w4 e2 s2 h2 => ?_)
      replace h2 : Blk w4 b2 [.int .i64 ((xs[k]'hi1).op), .int .i64 (((xs[k]'hi1).stamp).epoch), .int .i64 (((xs[k]'hi1).stamp).turn), .int .i64 ((xs[k]'hi1).key), .int .i64 ((xs[k]'hi1).val)] := h2
      have g_b2 : w.heap.size ≤ b2 := by have := E.size; omega
      have y_b2 := h2.lt
      replace E := E.trans e2; replace ho := ho.ext e2; replace h1 := h1.ext e2
      have z4 := e2.size
      refine J_append sl40 rfl rfl ho (Src.ofBlk h2 rfl) rfl (by have h := filt_len xs (ofE e) k; simp only [show Enc.sz Record = 5 from rfl] at h; simp at h ⊢; omega) (by decide) (by omega) (by omega) rfl rfl (fun v1 w5 m2 ho1 => ?_)
      replace E := E.step m2 (fun g hg => by have := Own.blk ho g hg; omega); replace h1 := h1.mod m2 (fun g hg => by have := Own.blk ho g hg; omega)
      have z5 := m2.size
      refine J_st (R_assign rfl) rfl (J_done ?_)
      refine S_nil (E_inB ?_)
      refine S_reg [true, true] rfl rfl ?_
      refine J_st (R_add rfl rfl (add_one hc1n hxs.1)) rfl (J_st (R_move rfl) rfl (J_done ?_))
      refine S_nil (E_again (k + 1, v1) (by simp; omega) ⟨rfl, rfl, rfl, rfl, rfl, rfl, trivial⟩ ⟨E, (by omega), (by omega), Own.fin ho1 (Nat.le_refl _) (by omega) (filt_yes (by assumption) (by simpa [ofE] using hc2))⟩)
    · refine S_skip ?_
      refine S_nil (E_inB ?_)
      refine S_reg [true, true] rfl rfl ?_
      refine J_st (R_add rfl rfl (add_one hc1n hxs.1)) rfl (J_st (R_move rfl) rfl (J_done ?_))
      refine S_nil (E_again (k + 1, vo) (by simp; omega) ⟨rfl, rfl, rfl, rfl, rfl, rfl, trivial⟩ ⟨E, (by omega), (by omega), Own.fin ho (Nat.le_refl _) (by omega) (filt_no (by assumption) (by simpa [ofE] using hc2))⟩)
  · have hc1n : ¬ k < xs.length := by first | (have h := of_decide_eq_false hc1; omega) | (have h := hc1; simp at h; omega)
    refine S_exit (E_lp_exit (E_inB_exit ?_))
    refine S_seq ?_
    refine S_reg [true, true] rfl rfl ?_
    refine J_st (R_move rfl) rfl (J_st (R_assign rfl) rfl (J_done ?_))
    refine S_ret (E_done1 rfl rfl E ?_)
    exact Own.fin ho (by omega) (by omega) (filt_all (by omega))

set_option maxRecDepth 20000 in
theorem c_StampOk (s : Stamp) (w : World)  : Ct Try.prog 59 [.agg (Enc.enc s).toArray] w (fun v _ => v = .bool (stampOk s)) := by
  refine ct_of Try.func59 rfl Try.ntmps59 rfl ?_
  refine S_sub [(0, .agg (Enc.enc s).toArray)] ⟨rfl, trivial⟩ ?_
  have E : Ext w w := Ext.refl w
  refine S_seq ?_
  refine S_reg [false, true] rfl rfl ?_
  refine J_box rfl rfl (fun b1 w1 e1 s1 h1 => ?_)
  have g_b1 : w.heap.size ≤ b1 := by have := E.size; omega
  have y_b1 := h1.lt
  replace E := E.trans e1
  have z1 := e1.size
  refine J_st (R_assign rfl) rfl (J_done ?_)
  refine S_seq ?_
  refine S_reg [true, true, false, true, true, true, false, true, true] rfl rfl ?_
  refine J_st (R_fieldAddr0 fl53_0 rfl) rfl (J_st (R_load sc3 rfl (h1.one 0 rfl)) rfl ?_)
  refine J_call Try.call57 rfl (c_within s.epoch 0 3 _ ) rfl (fun _ w2 e2 hv => ?_)
  subst hv
  replace E := E.trans e2; replace h1 := h1.ext e2
  have z2 := e2.size
  refine J_st (R_move rfl) rfl ?_
  refine J_cut 4 [(0, .agg (Enc.enc s).toArray), (1, .pointer (some ⟨b1, 0, none⟩)), (2, .bool false), (10, .bool ((win s.epoch 0 3) && (win s.turn 0 6)))] (fun w' => Ext w w' ∧ w2.heap.size ≤ w'.heap.size ∧ Blk w' b1 (Enc.enc s)) ?_ ?_
  · refine J_if (gd := 6) rfl rfl (fun hg1 => ?_) (fun hg1 => ?_)
    · refine J_gd rfl rfl (R_fieldAddr0 fl53_1 rfl) rfl (J_gd rfl rfl (R_load sc3 rfl (h1.one 1 rfl)) rfl ?_)
      refine J_ung rfl rfl ?_
      refine J_call Try.call57 rfl (c_within s.turn 0 6 _ ) rfl (fun _ w4 e3 hv => ?_)
      subst hv
      replace E := E.trans e3; replace h1 := h1.ext e3
      have z3 := e3.size
      refine J_st (R_pickT rfl rfl) rfl (J_cutEnd ⟨rfl, rfl, rfl, congrArg (fun b => some (Value.bool b)) (show (win s.turn 0 6) = ((win s.epoch 0 3) && (win s.turn 0 6)) by first | (rw [hg1] <;> rfl) | (simp [hg1]; done) | (simp only [nat_nlt] <;> simp)), trivial⟩ ⟨E, (by omega), h1⟩)
    · refine J_gdno rfl rfl rfl rfl (J_gdno rfl rfl rfl rfl ?_)
      refine J_ungno rfl rfl rfl rfl ?_
      refine J_st (R_pickF rfl rfl) rfl (J_cutEnd ⟨rfl, rfl, rfl, congrArg (fun b => some (Value.bool b)) (show false = ((win s.epoch 0 3) && (win s.turn 0 6)) by first | (rw [hg1] <;> rfl) | (simp [hg1]; done) | (simp only [nat_nlt] <;> simp)), trivial⟩ ⟨E, (by omega), h1⟩)
  clear E h1
  rintro w3 ⟨E, z4, h1⟩
  refine J_st (R_assign rfl) rfl (J_done ?_)
  refine S_ret (E_done1 rfl rfl E ?_)
  rfl

end Go.Proofs.Ytcgfmicadcdinaa
