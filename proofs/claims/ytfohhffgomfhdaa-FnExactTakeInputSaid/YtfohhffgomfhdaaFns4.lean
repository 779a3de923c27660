/- What the functions that the laws call come to: a contract each; no condition. -/
import Derived.Test.YtfohhffgomfhdaaFns3
namespace Go.Proofs.Ytfohhffgomfhdaa
open Go Go.Proofs.Ytfohhffgomfhdaa.X Go.Proofs
set_option maxRecDepth 20000 in
theorem heldBoolS (vxs : Value) (xs : List Bool) (k : Nat) (w : World) (hxs : RdS w vxs xs) (hm : xs = mkL 1 mkBool k xs.length) (hb : k + xs.length * 1 ≤ 1099511627776) : Ct Try.prog 68 [vxs, .int .i64 ((k : Nat) : Int)] w (fun v _ => v = .int .i64 ((k + 1 * xs.length : Nat) : Int)) := by
  refine ct_of Try.func68 rfl Try.ntmps68 rfl ?_
  refine S_sub [(0, vxs), (1, .int .i64 ((k : Nat) : Int))] ⟨rfl, rfl, trivial⟩ ?_
  have E : Ext w w := Ext.refl w
  refine S_seq ?_
  refine S_reg [true] rfl rfl ?_
  refine J_st (R_assign rfl) rfl (J_done ?_)
  refine S_seq ?_
  refine S_seq ?_
  refine S_reg [true] rfl rfl ?_
  refine J_st (R_assign rfl) rfl (J_done ?_)
  refine S_block ?_
  refine S_loop (fun (xq : Nat × Nat) => let ⟨i, q⟩ := xq; [(0, vxs), (1, .int .i64 ((q : Nat) : Int)), (4, .int .i64 0), (5, .int .i64 ((i : Nat) : Int))]) (fun (xq : Nat × Nat) w' => let ⟨i, q⟩ := xq; Ext w w' ∧ w.heap.size ≤ w'.heap.size ∧ i ≤ xs.length ∧ q = k + 1 * i) (fun (xq : Nat × Nat) => let ⟨i, q⟩ := xq; xs.length - i) (0, k) ⟨rfl, rfl, rfl, rfl, trivial⟩ ⟨E, Nat.le_refl _, Nat.zero_le _, (by simp)⟩ ?_
  clear E
  rintro ⟨i, q⟩ w1 ⟨E, z1, hi, hq⟩
  refine S_sub [(0, vxs), (1, .int .i64 ((q : Nat) : Int)), (4, .int .i64 0), (5, .int .i64 ((i : Nat) : Int))] ⟨rfl, rfl, rfl, rfl, trivial⟩ ?_
  refine S_seq ?_
  refine S_seq ?_
  refine S_reg [true, true, true, true] rfl rfl ?_
  refine J_st (R_move rfl) rfl (J_st (R_move rfl) rfl (J_st (R_len Try.underlying54 rfl (hxs.ext E).len) rfl (J_st (R_lss rfl rfl) rfl (J_done ?_))))
  refine S_cond rfl (fun hc1 => ?_) (fun hc1 => ?_)
  · have hc1n : i < xs.length := by first | (have h := of_decide_eq_true hc1; omega) | (have h := hc1; simp at h; omega)
    refine S_skip ?_
    refine S_seq ?_
    refine S_block ?_
    refine S_seq ?_
    refine S_seq ?_
    refine S_reg [true, true, true, true, true, true, true, true] rfl rfl ?_
    refine J_st (R_move rfl) rfl (J_st (R_move rfl) rfl ?_)
    have hi1 : i < xs.length := (by first | assumption | omega)
    refine J_st (R_index (i := i) sl54 rfl rfl (hxs.ext E) hi1) rfl (J_st (R_load sc4 rfl (((hxs.ext E).get hi1).one 0 rfl)) rfl (J_st (R_move rfl) rfl (J_st (R_rem rfl rfl (by decide) rfl) rfl (J_st (R_eql rfl rfl) rfl (J_st (R_neqB (Try.underlying4) rfl rfl) rfl (J_done ?_))))))
    refine S_condFe rfl (by subst hq; rw [mkL_at hm (by omega)]; simp [mkBool]) ?_
    refine S_skip ?_
    refine S_reg [true, true, true] rfl rfl ?_
    refine J_st (R_move rfl) rfl (J_st (R_add rfl rfl (add_nat (by unfold maxLen; omega))) rfl (J_st (R_assign rfl) rfl (J_done ?_)))
    refine S_nil (E_inB ?_)
    refine S_reg [true, true, true] rfl rfl ?_
    refine J_st (R_move rfl) rfl (J_st (R_add rfl rfl (add_nat (by unfold maxLen; omega))) rfl (J_st (R_assign rfl) rfl (J_done ?_)))
    refine S_nil (E_again (i + 1, q + 1) (by simp; omega) ⟨rfl, rfl, rfl, rfl, trivial⟩ ⟨E, (by omega), (by omega), (by omega)⟩)
  · have hc1n : ¬ i < xs.length := by first | (have h := of_decide_eq_false hc1; omega) | (have h := hc1; simp at h; omega)
    refine S_exit (E_lp_exit (E_inB_exit ?_))
    refine S_seq ?_
    refine S_reg [true, true] rfl rfl ?_
    refine J_st (R_move rfl) rfl (J_st (R_assign rfl) rfl (J_done ?_))
    refine S_ret (E_done1 rfl rfl E ?_)
    subst hq; rw [show i = xs.length from by omega]

set_option maxRecDepth 20000 in
theorem markDoneS (vxs : Value) (lo hi : Nat) (xs : List Done) (k : Nat) (w : World) (hxs : Own w lo hi 2 vxs (List.flatMap (Enc.enc (α := Done)) xs)) (hb : k + xs.length * 2 ≤ 1099511627776) : CtR Try.prog 66 [vxs, .int .i64 ((k : Nat) : Int)] w lo hi (fun v w' => v = .int .i64 ((k + 2 * xs.length : Nat) : Int) ∧ Own w' lo hi 2 vxs (List.flatMap (Enc.enc (α := Done)) (mkL 2 mkDone k xs.length))) := by
  refine ctR_of Try.func66 rfl Try.ntmps66 rfl ?_
  refine S_sub [(0, vxs), (1, .int .i64 ((k : Nat) : Int))] ⟨rfl, rfl, trivial⟩ ?_
  have E : ModR w w lo hi := ModR.refl w lo hi
  refine S_seq ?_
  refine S_reg [true] rfl rfl ?_
  refine J_st (R_assign rfl) rfl (J_done ?_)
  refine S_seq ?_
  refine S_seq ?_
  refine S_reg [true] rfl rfl ?_
  refine J_st (R_assign rfl) rfl (J_done ?_)
  refine S_block ?_
  refine S_loop (fun (xq : Nat × Nat × List Done) => let ⟨i, q, bs⟩ := xq; [(0, vxs), (1, .int .i64 ((q : Nat) : Int)), (4, .int .i64 0), (5, .int .i64 ((i : Nat) : Int))]) (fun (xq : Nat × Nat × List Done) w' => let ⟨i, q, bs⟩ := xq; ModR w w' lo hi ∧ w.heap.size ≤ w'.heap.size ∧ i + bs.length = xs.length ∧ q = k + 2 * i ∧ Own w' lo hi 2 vxs (List.flatMap (Enc.enc (α := Done)) (mkL 2 mkDone k i ++ bs))) (fun (xq : Nat × Nat × List Done) => let ⟨i, q, bs⟩ := xq; xs.length - i) (0, k, xs) ⟨rfl, rfl, rfl, rfl, trivial⟩ ⟨E, Nat.le_refl _, (by simp), (by simp), (by simpa [mkL] using hxs)⟩ ?_
  clear E hxs
  rintro ⟨i, q, bs⟩ w1 ⟨E, z1, hi, hq, hxs⟩
  refine S_sub [(0, vxs), (1, .int .i64 ((q : Nat) : Int)), (4, .int .i64 0), (5, .int .i64 ((i : Nat) : Int))] ⟨rfl, rfl, rfl, rfl, trivial⟩ ?_
  refine S_seq ?_
  refine S_seq ?_
  refine S_reg [true, true, true, true] rfl rfl ?_
  refine J_st (R_move rfl) rfl (J_st (R_move rfl) rfl (J_st (R_len Try.underlying59 rfl (Own.lenE (by decide) hxs (by simp only [List.length_append, mkL_length, List.length_cons]; omega))) rfl (J_st (R_lss rfl rfl) rfl (J_done ?_))))
  refine S_cond rfl (fun hc1 => ?_) (fun hc1 => ?_)
  · rcases bs with _ | ⟨x, bs⟩
    · exact absurd hi (by have h := hc1; simp at h ⊢; omega)
    simp only [List.length_cons] at hi
    have hc1n : i < xs.length := by first | (have h := of_decide_eq_true hc1; omega) | (have h := hc1; simp at h; omega)
    refine S_skip ?_
    refine S_seq ?_
    refine S_block ?_
    refine S_seq ?_
    refine S_reg [true, true, true, true, true, false] rfl rfl ?_
    refine J_st (R_move rfl) rfl (J_st (R_move rfl) rfl (J_st (R_move rfl) rfl (J_st (R_index sl59 rfl rfl (Own.rd (by decide) hxs) (by simp only [List.length_append, mkL_length, List.length_cons]; omega)) rfl (J_st (R_fieldAddr fl126_0 rfl) rfl ?_))))
    refine J_storeOwn (α := Done) (i := i) (f := 0) (⟨((q : Nat) : Int), x.capped⟩ : Done) sc3 rfl rfl rfl rfl hxs (mkL_length _ _ _ _) (by decide) rfl (fun w2 m1 hxs' => ?_)
    have hq := hxs.blk
    replace hxs := hxs'
    replace E := E.mod m1 (fun g hg => by have := hq g hg; omega)
    have z2 := m1.size
    clear hq
    refine J_done ?_
    refine S_seq ?_
    refine S_reg [true, true, true] rfl rfl ?_
    refine J_st (R_move rfl) rfl (J_st (R_add rfl rfl (add_nat (by unfold maxLen; omega))) rfl (J_st (R_assign rfl) rfl (J_done ?_)))
    refine S_seq ?_
    refine S_reg [true, true, true, true, true, true, true, false] rfl rfl ?_
    refine J_st (R_move rfl) rfl (J_st (R_move rfl) rfl (J_st (R_move rfl) rfl (J_st (R_rem rfl rfl (by decide) rfl) rfl (J_st (R_eql rfl rfl) rfl (J_st (R_index sl59 rfl rfl (Own.rd (by decide) hxs) (by simp only [List.length_append, mkL_length, List.length_cons]; omega)) rfl (J_st (R_fieldAddr fl126_1 rfl) rfl ?_))))))
    refine J_storeOwn (α := Done) (i := i) (f := 1) (⟨((q : Nat) : Int), (Int.tmod ((q + 1 : Nat) : Int) 3) == 0⟩ : Done) sc4 rfl rfl rfl rfl hxs (mkL_length _ _ _ _) (by decide) rfl (fun w3 m2 hxs' => ?_)
    have hq := hxs.blk
    replace hxs := hxs'
    replace E := E.mod m2 (fun g hg => by have := hq g hg; omega)
    have z3 := m2.size
    clear hq
    refine J_done ?_
    refine S_reg [true, true, true] rfl rfl ?_
    refine J_st (R_move rfl) rfl (J_st (R_add rfl rfl (add_nat (by unfold maxLen; omega))) rfl (J_st (R_assign rfl) rfl (J_done ?_)))
    refine S_nil (E_inB ?_)
    refine S_reg [true, true, true] rfl rfl ?_
    refine J_st (R_move rfl) rfl (J_st (R_add rfl rfl (add_nat (by unfold maxLen; omega))) rfl (J_st (R_assign rfl) rfl (J_done ?_)))
    refine S_nil (E_again (i + 1, q + 1 + 1, bs) (by simp; omega) ⟨rfl, rfl, rfl, rfl, trivial⟩ ⟨E, (by omega), (by omega), (by omega), (by subst hq; rw [← mkL_succ]; exact hxs)⟩)
  · have hc1n : ¬ i < xs.length := by first | (have h := of_decide_eq_false hc1; omega) | (have h := hc1; simp at h; omega)
    refine S_exit (E_lp_exit (E_inB_exit ?_))
    refine S_seq ?_
    refine S_reg [true, true] rfl rfl ?_
    refine J_st (R_move rfl) rfl (J_st (R_assign rfl) rfl (J_done ?_))
    refine S_ret (E_done1 rfl rfl E ?_)
    exact ⟨by subst hq; rw [show i = xs.length from by omega], by obtain rfl : bs = [] := List.eq_nil_of_length_eq_zero (by omega); rw [show xs.length = i from by simp at hi; omega]; simpa using hxs⟩

set_option maxRecDepth 20000 in
theorem heldDoneS (vxs : Value) (xs : List Done) (k : Nat) (w : World) (hxs : RdS w vxs xs) (hm : xs = mkL 2 mkDone k xs.length) (hb : k + xs.length * 2 ≤ 1099511627776) : Ct Try.prog 69 [vxs, .int .i64 ((k : Nat) : Int)] w (fun v _ => v = .int .i64 ((k + 2 * xs.length : Nat) : Int)) := by
  refine ct_of Try.func69 rfl Try.ntmps69 rfl ?_
  refine S_sub [(0, vxs), (1, .int .i64 ((k : Nat) : Int))] ⟨rfl, rfl, trivial⟩ ?_
  have E : Ext w w := Ext.refl w
  refine S_seq ?_
  refine S_reg [true] rfl rfl ?_
  refine J_st (R_assign rfl) rfl (J_done ?_)
  refine S_seq ?_
  refine S_seq ?_
  refine S_reg [true] rfl rfl ?_
  refine J_st (R_assign rfl) rfl (J_done ?_)
  refine S_block ?_
  refine S_loop (fun (xq : Nat × Nat) => let ⟨i, q⟩ := xq; [(0, vxs), (1, .int .i64 ((q : Nat) : Int)), (4, .int .i64 0), (5, .int .i64 ((i : Nat) : Int))]) (fun (xq : Nat × Nat) w' => let ⟨i, q⟩ := xq; Ext w w' ∧ w.heap.size ≤ w'.heap.size ∧ i ≤ xs.length ∧ q = k + 2 * i) (fun (xq : Nat × Nat) => let ⟨i, q⟩ := xq; xs.length - i) (0, k) ⟨rfl, rfl, rfl, rfl, trivial⟩ ⟨E, Nat.le_refl _, Nat.zero_le _, (by simp)⟩ ?_
  clear E
  rintro ⟨i, q⟩ w1 ⟨E, z1, hi, hq⟩
  refine S_sub [(0, vxs), (1, .int .i64 ((q : Nat) : Int)), (4, .int .i64 0), (5, .int .i64 ((i : Nat) : Int))] ⟨rfl, rfl, rfl, rfl, trivial⟩ ?_
  refine S_seq ?_
  refine S_seq ?_
  refine S_reg [true, true, true, true] rfl rfl ?_
  refine J_st (R_move rfl) rfl (J_st (R_move rfl) rfl (J_st (R_len Try.underlying59 rfl (hxs.ext E).len) rfl (J_st (R_lss rfl rfl) rfl (J_done ?_))))
  refine S_cond rfl (fun hc1 => ?_) (fun hc1 => ?_)
  · have hc1n : i < xs.length := by first | (have h := of_decide_eq_true hc1; omega) | (have h := hc1; simp at h; omega)
    refine S_skip ?_
    refine S_seq ?_
    refine S_block ?_
    refine S_seq ?_
    refine S_seq ?_
    refine S_reg [true, true, true, true, true, true, true] rfl rfl ?_
    refine J_st (R_move rfl) rfl (J_st (R_move rfl) rfl ?_)
    have hi1 : i < xs.length := (by first | assumption | omega)
    refine J_st (R_index (i := i) sl59 rfl rfl (hxs.ext E) hi1) rfl (J_st (R_fieldAddr fl126_0 rfl) rfl (J_st (R_load sc3 rfl (((hxs.ext E).get hi1).one 0 rfl)) rfl (J_st (R_move rfl) rfl (J_st (R_neq rfl rfl) rfl (J_done ?_)))))
    refine S_condFe rfl (by subst hq; rw [mkL_at hm (by omega)]; simp [mkDone]) ?_
    refine S_skip ?_
    refine S_seq ?_
    refine S_reg [true, true, true] rfl rfl ?_
    refine J_st (R_move rfl) rfl (J_st (R_add rfl rfl (add_nat (by unfold maxLen; omega))) rfl (J_st (R_assign rfl) rfl (J_done ?_)))
    refine S_seq ?_
    refine S_seq ?_
    refine S_reg [true, true, true, true, true, true, true, true, true] rfl rfl ?_
    refine J_st (R_move rfl) rfl (J_st (R_move rfl) rfl (J_st (R_index (i := i) sl59 rfl rfl (hxs.ext E) hi1) rfl (J_st (R_fieldAddr fl126_1 rfl) rfl (J_st (R_load sc4 rfl (((hxs.ext E).get hi1).one 1 rfl)) rfl (J_st (R_move rfl) rfl (J_st (R_rem rfl rfl (by decide) rfl) rfl (J_st (R_eql rfl rfl) rfl (J_st (R_neqB (Try.underlying4) rfl rfl) rfl (J_done ?_)))))))))
    refine S_condFe rfl (by subst hq; rw [mkL_at hm (by omega)]; simp [mkDone]) ?_
    refine S_skip ?_
    refine S_reg [true, true, true] rfl rfl ?_
    refine J_st (R_move rfl) rfl (J_st (R_add rfl rfl (add_nat (by unfold maxLen; omega))) rfl (J_st (R_assign rfl) rfl (J_done ?_)))
    refine S_nil (E_inB ?_)
    refine S_reg [true, true, true] rfl rfl ?_
    refine J_st (R_move rfl) rfl (J_st (R_add rfl rfl (add_nat (by unfold maxLen; omega))) rfl (J_st (R_assign rfl) rfl (J_done ?_)))
    refine S_nil (E_again (i + 1, q + 1 + 1) (by simp; omega) ⟨rfl, rfl, rfl, rfl, trivial⟩ ⟨E, (by omega), (by omega), (by omega)⟩)
  · have hc1n : ¬ i < xs.length := by first | (have h := of_decide_eq_false hc1; omega) | (have h := hc1; simp at h; omega)
    refine S_exit (E_lp_exit (E_inB_exit ?_))
    refine S_seq ?_
    refine S_reg [true, true] rfl rfl ?_
    refine J_st (R_move rfl) rfl (J_st (R_assign rfl) rfl (J_done ?_))
    refine S_ret (E_done1 rfl rfl E ?_)
    subst hq; rw [show i = xs.length from by omega]

set_option maxRecDepth 20000 in
theorem markWorker (cx : List Value) (lo hi : Nat) (x : Worker) (k : Nat) (w : World) (hx : Own1.O w lo hi cx x) (hhi : hi ≤ w.heap.size) (hb : k + 5 * cntWorker x ≤ 1099511627776) : CtR Try.prog 25 [.agg cx.toArray, .int .i64 ((k : Nat) : Int)] w lo hi (fun v w' => v = .int .i64 ((numW k x : Nat) : Int) ∧ Own1.O w' lo hi cx (markW k x)) := by
  unfold cntWorker at hb
  refine ctR_of Try.func25 rfl Try.ntmps25 rfl ?_
  obtain ⟨o1, o2, o3, o4, o5, o6, o7, o8, rfl, sp1, hw1, hw2, hw3, hw4, hw5, hw6, hw7, hw8⟩ := Worker.opO hx
  refine S_sub [(0, .agg [o1, o2, o3, o4, o5, o6, o7, o8].toArray), (1, .int .i64 ((k : Nat) : Int))] ⟨rfl, rfl, trivial⟩ ?_
  have E : ModR w w lo hi := ModR.refl w lo hi
  refine S_seq ?_
  refine S_reg [false, true] rfl rfl ?_
  refine J_box rfl rfl (fun b1 w1 e1 s1 h1 => ?_)
  have g_b1 : w.heap.size ≤ b1 := by have := E.size; omega
  have y_b1 := h1.lt
  replace E := E.ext e1; replace hw1 := hw1.ext e1; replace hw2 := hw2.ext e1; replace hw3 := hw3.ext e1; replace hw4 := hw4.ext e1; replace hw5 := hw5.ext e1; replace hw6 := hw6.ext e1; replace hw7 := hw7.ext e1; replace hw8 := hw8.ext e1
  have z1 := e1.size
  refine J_st (R_assign rfl) rfl (J_done ?_)
  refine S_seq ?_
  refine S_reg [true, true, true, false, true] rfl rfl ?_
  refine J_st (R_fieldAddr0 fl61_0 rfl) rfl (J_st (R_load sc33 rfl (h1.one 0 rfl)) rfl (J_st (R_move rfl) rfl ?_))
  refine J_callR Try.call17 rfl rfl (markRecordS o1 (bl o1) (bh o1) x.queue k _ (Own.tight hw1) (by first | omega | (simp only [mkL_length]; omega) | (rw [mkL_length]; done) | (simp only [mkL_length]; done))) rfl (fun _ w2 e2 hv => ?_)
  obtain ⟨rfl, hw1'⟩ := hv
  have e2c := ModR.loose e2 (Own.blk hw1)
  replace hw1 := Own.loose hw1' (Own.blk hw1)
  clear hw1'
  replace E := E.trans e2c (by omega) (by omega); replace hw2 := Own.modRS hw2 e2 sp1.1.1; replace hw3 := Own.modRS hw3 e2 sp1.1.2.1; replace hw4 := Own.modRS hw4 e2 sp1.1.2.2.1; replace hw5 := Own.modRS hw5 e2 sp1.1.2.2.2.1; replace hw6 := Own.modRS hw6 e2 sp1.1.2.2.2.2.1; replace hw7 := Own.modRS hw7 e2 sp1.1.2.2.2.2.2.1; replace hw8 := Own.modRS hw8 e2 sp1.1.2.2.2.2.2.2.1; replace h1 := h1.modR e2c (by omega)
  have z2 := e2c.size
  refine J_st (R_assign rfl) rfl (J_done ?_)
  refine S_seq ?_
  refine S_reg [true, true, true, false, true] rfl rfl ?_
  refine J_st (R_fieldAddr0 fl61_1 rfl) rfl (J_st (R_load sc33 rfl (h1.one 1 rfl)) rfl (J_st (R_move rfl) rfl ?_))
  refine J_callR Try.call17 rfl rfl (markRecordS o2 (bl o2) (bh o2) x.staged (k + 5 * x.queue.length) _ (Own.tight hw2) (by first | omega | (simp only [mkL_length]; omega) | (rw [mkL_length]; done) | (simp only [mkL_length]; done))) rfl (fun _ w3 e3 hv => ?_)
  obtain ⟨rfl, hw2'⟩ := hv
  have e3c := ModR.loose e3 (Own.blk hw2)
  replace hw2 := Own.loose hw2' (Own.blk hw2)
  clear hw2'
  replace E := E.trans e3c (by omega) (by omega); replace hw1 := Own.modRS hw1 e3 (sp1.1.1).symm; replace hw3 := Own.modRS hw3 e3 sp1.2.1.1; replace hw4 := Own.modRS hw4 e3 sp1.2.1.2.1; replace hw5 := Own.modRS hw5 e3 sp1.2.1.2.2.1; replace hw6 := Own.modRS hw6 e3 sp1.2.1.2.2.2.1; replace hw7 := Own.modRS hw7 e3 sp1.2.1.2.2.2.2.1; replace hw8 := Own.modRS hw8 e3 sp1.2.1.2.2.2.2.2.1; replace h1 := h1.modR e3c (by omega)
  have z3 := e3c.size
  refine J_st (R_assign rfl) rfl (J_done ?_)
  refine S_seq ?_
  refine S_reg [true, true, true, false, true] rfl rfl ?_
  refine J_st (R_fieldAddr0 fl61_2 rfl) rfl (J_st (R_load sc33 rfl (h1.one 2 rfl)) rfl (J_st (R_move rfl) rfl ?_))
  refine J_callR Try.call17 rfl rfl (markRecordS o3 (bl o3) (bh o3) x.inputs ((k + 5 * x.queue.length) + 5 * x.staged.length) _ (Own.tight hw3) (by first | omega | (simp only [mkL_length]; omega) | (rw [mkL_length]; done) | (simp only [mkL_length]; done))) rfl (fun _ w4 e4 hv => ?_)
  obtain ⟨rfl, hw3'⟩ := hv
  have e4c := ModR.loose e4 (Own.blk hw3)
  replace hw3 := Own.loose hw3' (Own.blk hw3)
  clear hw3'
  replace E := E.trans e4c (by omega) (by omega); replace hw1 := Own.modRS hw1 e4 (sp1.1.2.1).symm; replace hw2 := Own.modRS hw2 e4 (sp1.2.1.1).symm; replace hw4 := Own.modRS hw4 e4 sp1.2.2.1.1; replace hw5 := Own.modRS hw5 e4 sp1.2.2.1.2.1; replace hw6 := Own.modRS hw6 e4 sp1.2.2.1.2.2.1; replace hw7 := Own.modRS hw7 e4 sp1.2.2.1.2.2.2.1; replace hw8 := Own.modRS hw8 e4 sp1.2.2.1.2.2.2.2.1; replace h1 := h1.modR e4c (by omega)
  have z4 := e4c.size
  refine J_st (R_assign rfl) rfl (J_done ?_)
  refine S_seq ?_
  refine S_reg [true, true, true, false, true] rfl rfl ?_
  refine J_st (R_fieldAddr0 fl61_3 rfl) rfl (J_st (R_load sc32 rfl (h1.one 3 rfl)) rfl (J_st (R_move rfl) rfl ?_))
  refine J_callR Try.call16 rfl rfl (markCellS o4 (bl o4) (bh o4) x.cells (((k + 5 * x.queue.length) + 5 * x.staged.length) + 5 * x.inputs.length) _ (Own.tight hw4) (by first | omega | (simp only [mkL_length]; omega) | (rw [mkL_length]; done) | (simp only [mkL_length]; done))) rfl (fun _ w5 e5 hv => ?_)
  obtain ⟨rfl, hw4'⟩ := hv
  have e5c := ModR.loose e5 (Own.blk hw4)
  replace hw4 := Own.loose hw4' (Own.blk hw4)
  clear hw4'
  replace E := E.trans e5c (by omega) (by omega); replace hw1 := Own.modRS hw1 e5 (sp1.1.2.2.1).symm; replace hw2 := Own.modRS hw2 e5 (sp1.2.1.2.1).symm; replace hw3 := Own.modRS hw3 e5 (sp1.2.2.1.1).symm; replace hw5 := Own.modRS hw5 e5 sp1.2.2.2.1.1; replace hw6 := Own.modRS hw6 e5 sp1.2.2.2.1.2.1; replace hw7 := Own.modRS hw7 e5 sp1.2.2.2.1.2.2.1; replace hw8 := Own.modRS hw8 e5 sp1.2.2.2.1.2.2.2.1; replace h1 := h1.modR e5c (by omega)
  have z5 := e5c.size
  refine J_st (R_assign rfl) rfl (J_done ?_)
  refine S_seq ?_
  refine S_reg [true, true, true, false, true] rfl rfl ?_
  refine J_st (R_fieldAddr0 fl61_4 rfl) rfl (J_st (R_load sc53 rfl (h1.one 4 rfl)) rfl (J_st (R_move rfl) rfl ?_))
  refine J_callR Try.call64 rfl rfl (markIntS o5 (bl o5) (bh o5) x.sums ((((k + 5 * x.queue.length) + 5 * x.staged.length) + 5 * x.inputs.length) + 4 * x.cells.length) _ (Own.tight hw5) (by first | omega | (simp only [mkL_length]; omega) | (rw [mkL_length]; done) | (simp only [mkL_length]; done))) rfl (fun _ w6 e6 hv => ?_)
  obtain ⟨rfl, hw5'⟩ := hv
  have e6c := ModR.loose e6 (Own.blk hw5)
  replace hw5 := Own.loose hw5' (Own.blk hw5)
  clear hw5'
  replace E := E.trans e6c (by omega) (by omega); replace hw1 := Own.modRS hw1 e6 (sp1.1.2.2.2.1).symm; replace hw2 := Own.modRS hw2 e6 (sp1.2.1.2.2.1).symm; replace hw3 := Own.modRS hw3 e6 (sp1.2.2.1.2.1).symm; replace hw4 := Own.modRS hw4 e6 (sp1.2.2.2.1.1).symm; replace hw6 := Own.modRS hw6 e6 sp1.2.2.2.2.1.1; replace hw7 := Own.modRS hw7 e6 sp1.2.2.2.2.1.2.1; replace hw8 := Own.modRS hw8 e6 sp1.2.2.2.2.1.2.2.1; replace h1 := h1.modR e6c (by omega)
  have z6 := e6c.size
  refine J_st (R_assign rfl) rfl (J_done ?_)
  refine S_seq ?_
  refine S_reg [true, true, true, false, true] rfl rfl ?_
  refine J_st (R_fieldAddr0 fl61_5 rfl) rfl (J_st (R_load sc54 rfl (h1.one 5 rfl)) rfl (J_st (R_move rfl) rfl ?_))
  refine J_callR Try.call65 rfl rfl (markBoolS o6 (bl o6) (bh o6) x.black (((((k + 5 * x.queue.length) + 5 * x.staged.length) + 5 * x.inputs.length) + 4 * x.cells.length) + 1 * x.sums.length) _ (Own.tight hw6) (by first | omega | (simp only [mkL_length]; omega) | (rw [mkL_length]; done) | (simp only [mkL_length]; done))) rfl (fun _ w7 e7 hv => ?_)
  obtain ⟨rfl, hw6'⟩ := hv
  have e7c := ModR.loose e7 (Own.blk hw6)
  replace hw6 := Own.loose hw6' (Own.blk hw6)
  clear hw6'
  replace E := E.trans e7c (by omega) (by omega); replace hw1 := Own.modRS hw1 e7 (sp1.1.2.2.2.2.1).symm; replace hw2 := Own.modRS hw2 e7 (sp1.2.1.2.2.2.1).symm; replace hw3 := Own.modRS hw3 e7 (sp1.2.2.1.2.2.1).symm; replace hw4 := Own.modRS hw4 e7 (sp1.2.2.2.1.2.1).symm; replace hw5 := Own.modRS hw5 e7 (sp1.2.2.2.2.1.1).symm; replace hw7 := Own.modRS hw7 e7 sp1.2.2.2.2.2.1.1; replace hw8 := Own.modRS hw8 e7 sp1.2.2.2.2.2.1.2.1; replace h1 := h1.modR e7c (by omega)
  have z7 := e7c.size
  refine J_st (R_assign rfl) rfl (J_done ?_)
  refine S_seq ?_
  refine S_reg [true, true, true, false, true] rfl rfl ?_
  refine J_st (R_fieldAddr0 fl61_6 rfl) rfl (J_st (R_load sc54 rfl (h1.one 6 rfl)) rfl (J_st (R_move rfl) rfl ?_))
  refine J_callR Try.call65 rfl rfl (markBoolS o7 (bl o7) (bh o7) x.caps ((((((k + 5 * x.queue.length) + 5 * x.staged.length) + 5 * x.inputs.length) + 4 * x.cells.length) + 1 * x.sums.length) + 1 * x.black.length) _ (Own.tight hw7) (by first | omega | (simp only [mkL_length]; omega) | (rw [mkL_length]; done) | (simp only [mkL_length]; done))) rfl (fun _ w8 e8 hv => ?_)
  obtain ⟨rfl, hw7'⟩ := hv
  have e8c := ModR.loose e8 (Own.blk hw7)
  replace hw7 := Own.loose hw7' (Own.blk hw7)
  clear hw7'
  replace E := E.trans e8c (by omega) (by omega); replace hw1 := Own.modRS hw1 e8 (sp1.1.2.2.2.2.2.1).symm; replace hw2 := Own.modRS hw2 e8 (sp1.2.1.2.2.2.2.1).symm; replace hw3 := Own.modRS hw3 e8 (sp1.2.2.1.2.2.2.1).symm; replace hw4 := Own.modRS hw4 e8 (sp1.2.2.2.1.2.2.1).symm; replace hw5 := Own.modRS hw5 e8 (sp1.2.2.2.2.1.2.1).symm; replace hw6 := Own.modRS hw6 e8 (sp1.2.2.2.2.2.1.1).symm; replace hw8 := Own.modRS hw8 e8 sp1.2.2.2.2.2.2.1.1; replace h1 := h1.modR e8c (by omega)
  have z8 := e8c.size
  refine J_st (R_assign rfl) rfl (J_done ?_)
  refine S_seq ?_
  refine S_reg [true, true, true, false, true] rfl rfl ?_
  refine J_st (R_fieldAddr0 fl61_7 rfl) rfl (J_st (R_load sc59 rfl (h1.one 7 rfl)) rfl (J_st (R_move rfl) rfl ?_))
  refine J_callR Try.call66 rfl rfl (markDoneS o8 (bl o8) (bh o8) x.dones (((((((k + 5 * x.queue.length) + 5 * x.staged.length) + 5 * x.inputs.length) + 4 * x.cells.length) + 1 * x.sums.length) + 1 * x.black.length) + 1 * x.caps.length) _ (Own.tight hw8) (by first | omega | (simp only [mkL_length]; omega) | (rw [mkL_length]; done) | (simp only [mkL_length]; done))) rfl (fun _ w9 e9 hv => ?_)
  obtain ⟨rfl, hw8'⟩ := hv
  have e9c := ModR.loose e9 (Own.blk hw8)
  replace hw8 := Own.loose hw8' (Own.blk hw8)
  clear hw8'
  replace E := E.trans e9c (by omega) (by omega); replace hw1 := Own.modRS hw1 e9 (sp1.1.2.2.2.2.2.2.1).symm; replace hw2 := Own.modRS hw2 e9 (sp1.2.1.2.2.2.2.2.1).symm; replace hw3 := Own.modRS hw3 e9 (sp1.2.2.1.2.2.2.2.1).symm; replace hw4 := Own.modRS hw4 e9 (sp1.2.2.2.1.2.2.2.1).symm; replace hw5 := Own.modRS hw5 e9 (sp1.2.2.2.2.1.2.2.1).symm; replace hw6 := Own.modRS hw6 e9 (sp1.2.2.2.2.2.1.2.1).symm; replace hw7 := Own.modRS hw7 e9 (sp1.2.2.2.2.2.2.1.1).symm; replace h1 := h1.modR e9c (by omega)
  have z9 := e9c.size
  refine J_st (R_assign rfl) rfl (J_done ?_)
  refine S_seq ?_
  refine S_reg [true, true] rfl rfl ?_
  refine J_st (R_move rfl) rfl (J_st (R_assign rfl) rfl (J_done ?_))
  refine S_ret (E_done1 rfl rfl E ?_)
  exact ⟨rfl, Worker.mkO (markW k x) sp1 hw1 hw2 hw3 hw4 hw5 hw6 hw7 hw8⟩

set_option maxHeartbeats 4000000 in
set_option maxRecDepth 20000 in
theorem heldWorker (cx : List Value) (x : Worker) (k : Nat) (w : World) (hx : Dat.R w 0 w.heap.size cx x) (hm : x = markW k x) (hb : k + 5 * cntWorker x ≤ 1099511627776) : Ct Try.prog 26 [.agg cx.toArray, .int .i64 ((k : Nat) : Int)] w (fun v _ => v = .int .i64 ((numW k x : Nat) : Int)) := by
  unfold cntWorker at hb
  refine ct_of Try.func26 rfl Try.ntmps26 rfl ?_
  obtain ⟨o1, o2, o3, o4, o5, o6, o7, o8, rfl, hd1, hd2, hd3, hd4, hd5, hd6, hd7, hd8⟩ := Worker.op hx
  refine S_sub [(0, .agg [o1, o2, o3, o4, o5, o6, o7, o8].toArray), (1, .int .i64 ((k : Nat) : Int))] ⟨rfl, rfl, trivial⟩ ?_
  have E : Ext w w := Ext.refl w
  refine S_seq ?_
  refine S_reg [false, true] rfl rfl ?_
  refine J_box rfl rfl (fun b1 w1 e1 s1 h1 => ?_)
  have g_b1 : w.heap.size ≤ b1 := by have := E.size; omega
  have y_b1 := h1.lt
  replace E := E.trans e1
  have z1 := e1.size
  refine J_st (R_assign rfl) rfl (J_done ?_)
  refine S_seq ?_
  refine S_reg [true, true, true, false, true] rfl rfl ?_
  refine J_st (R_fieldAddr0 fl61_0 rfl) rfl (J_st (R_load sc33 rfl (h1.one 0 rfl)) rfl (J_st (R_move rfl) rfl ?_))
  refine J_call Try.call19 rfl (heldRecordS o1 x.queue k _ (hd1.rd.ext E) (congrArg Worker.queue hm) (by omega)) rfl (fun _ w2 e2 hv => ?_)
  subst hv
  replace E := E.trans e2; replace h1 := h1.ext e2
  have z2 := e2.size
  refine J_st (R_assign rfl) rfl (J_done ?_)
  refine S_seq ?_
  refine S_seq ?_
  refine S_reg [true, true] rfl rfl ?_
  refine J_st (R_move rfl) rfl (J_st (R_lss rfl rfl) rfl (J_done ?_))
  refine S_condFe rfl (by first | (simp; done) | (simp only [nat_nlt] <;> simp) | (simp only [mkL_length, nat_nlt] <;> simp) | (simp only [mkL_length] <;> simp)) ?_
  refine S_skip ?_
  refine S_seq ?_
  refine S_reg [true, true, true, false, true] rfl rfl ?_
  refine J_st (R_fieldAddr0 fl61_1 rfl) rfl (J_st (R_load sc33 rfl (h1.one 1 rfl)) rfl (J_st (R_move rfl) rfl ?_))
  refine J_call Try.call19 rfl (heldRecordS o2 x.staged (k + 5 * x.queue.length) _ (hd2.rd.ext E) (congrArg Worker.staged hm) (by omega)) rfl (fun _ w3 e3 hv => ?_)
  subst hv
  replace E := E.trans e3; replace h1 := h1.ext e3
  have z3 := e3.size
  refine J_st (R_assign rfl) rfl (J_done ?_)
  refine S_seq ?_
  refine S_seq ?_
  refine S_reg [true, true] rfl rfl ?_
  refine J_st (R_move rfl) rfl (J_st (R_lss rfl rfl) rfl (J_done ?_))
  refine S_condFe rfl (by first | (simp; done) | (simp only [nat_nlt] <;> simp) | (simp only [mkL_length, nat_nlt] <;> simp) | (simp only [mkL_length] <;> simp)) ?_
  refine S_skip ?_
  refine S_seq ?_
  refine S_reg [true, true, true, false, true] rfl rfl ?_
  refine J_st (R_fieldAddr0 fl61_2 rfl) rfl (J_st (R_load sc33 rfl (h1.one 2 rfl)) rfl (J_st (R_move rfl) rfl ?_))
  refine J_call Try.call19 rfl (heldRecordS o3 x.inputs ((k + 5 * x.queue.length) + 5 * x.staged.length) _ (hd3.rd.ext E) (congrArg Worker.inputs hm) (by omega)) rfl (fun _ w4 e4 hv => ?_)
  subst hv
  replace E := E.trans e4; replace h1 := h1.ext e4
  have z4 := e4.size
  refine J_st (R_assign rfl) rfl (J_done ?_)
  refine S_seq ?_
  refine S_seq ?_
  refine S_reg [true, true] rfl rfl ?_
  refine J_st (R_move rfl) rfl (J_st (R_lss rfl rfl) rfl (J_done ?_))
  refine S_condFe rfl (by first | (simp; done) | (simp only [nat_nlt] <;> simp) | (simp only [mkL_length, nat_nlt] <;> simp) | (simp only [mkL_length] <;> simp)) ?_
  refine S_skip ?_
  refine S_seq ?_
  refine S_reg [true, true, true, false, true] rfl rfl ?_
  refine J_st (R_fieldAddr0 fl61_3 rfl) rfl (J_st (R_load sc32 rfl (h1.one 3 rfl)) rfl (J_st (R_move rfl) rfl ?_))
  refine J_call Try.call18 rfl (heldCellS o4 x.cells (((k + 5 * x.queue.length) + 5 * x.staged.length) + 5 * x.inputs.length) _ (hd4.rd.ext E) (congrArg Worker.cells hm) (by omega)) rfl (fun _ w5 e5 hv => ?_)
  subst hv
  replace E := E.trans e5; replace h1 := h1.ext e5
  have z5 := e5.size
  refine J_st (R_assign rfl) rfl (J_done ?_)
  refine S_seq ?_
  refine S_seq ?_
  refine S_reg [true, true] rfl rfl ?_
  refine J_st (R_move rfl) rfl (J_st (R_lss rfl rfl) rfl (J_done ?_))
  refine S_condFe rfl (by first | (simp; done) | (simp only [nat_nlt] <;> simp) | (simp only [mkL_length, nat_nlt] <;> simp) | (simp only [mkL_length] <;> simp)) ?_
  refine S_skip ?_
  refine S_seq ?_
  refine S_reg [true, true, true, false, true] rfl rfl ?_
  refine J_st (R_fieldAddr0 fl61_4 rfl) rfl (J_st (R_load sc53 rfl (h1.one 4 rfl)) rfl (J_st (R_move rfl) rfl ?_))
  refine J_call Try.call67 rfl (heldIntS o5 x.sums ((((k + 5 * x.queue.length) + 5 * x.staged.length) + 5 * x.inputs.length) + 4 * x.cells.length) _ (hd5.rd.ext E) (congrArg Worker.sums hm) (by omega)) rfl (fun _ w6 e6 hv => ?_)
  subst hv
  replace E := E.trans e6; replace h1 := h1.ext e6
  have z6 := e6.size
  refine J_st (R_assign rfl) rfl (J_done ?_)
  refine S_seq ?_
  refine S_seq ?_
  refine S_reg [true, true] rfl rfl ?_
  refine J_st (R_move rfl) rfl (J_st (R_lss rfl rfl) rfl (J_done ?_))
  refine S_condFe rfl (by first | (simp; done) | (simp only [nat_nlt] <;> simp) | (simp only [mkL_length, nat_nlt] <;> simp) | (simp only [mkL_length] <;> simp)) ?_
  refine S_skip ?_
  refine S_seq ?_
  refine S_reg [true, true, true, false, true] rfl rfl ?_
  refine J_st (R_fieldAddr0 fl61_5 rfl) rfl (J_st (R_load sc54 rfl (h1.one 5 rfl)) rfl (J_st (R_move rfl) rfl ?_))
  refine J_call Try.call68 rfl (heldBoolS o6 x.black (((((k + 5 * x.queue.length) + 5 * x.staged.length) + 5 * x.inputs.length) + 4 * x.cells.length) + 1 * x.sums.length) _ (hd6.rd.ext E) (congrArg Worker.black hm) (by omega)) rfl (fun _ w7 e7 hv => ?_)
  subst hv
  replace E := E.trans e7; replace h1 := h1.ext e7
  have z7 := e7.size
  refine J_st (R_assign rfl) rfl (J_done ?_)
  refine S_seq ?_
  refine S_seq ?_
  refine S_reg [true, true] rfl rfl ?_
  refine J_st (R_move rfl) rfl (J_st (R_lss rfl rfl) rfl (J_done ?_))
  refine S_condFe rfl (by first | (simp; done) | (simp only [nat_nlt] <;> simp) | (simp only [mkL_length, nat_nlt] <;> simp) | (simp only [mkL_length] <;> simp)) ?_
  refine S_skip ?_
  refine S_seq ?_
  refine S_reg [true, true, true, false, true] rfl rfl ?_
  refine J_st (R_fieldAddr0 fl61_6 rfl) rfl (J_st (R_load sc54 rfl (h1.one 6 rfl)) rfl (J_st (R_move rfl) rfl ?_))
  refine J_call Try.call68 rfl (heldBoolS o7 x.caps ((((((k + 5 * x.queue.length) + 5 * x.staged.length) + 5 * x.inputs.length) + 4 * x.cells.length) + 1 * x.sums.length) + 1 * x.black.length) _ (hd7.rd.ext E) (congrArg Worker.caps hm) (by omega)) rfl (fun _ w8 e8 hv => ?_)
  subst hv
  replace E := E.trans e8; replace h1 := h1.ext e8
  have z8 := e8.size
  refine J_st (R_assign rfl) rfl (J_done ?_)
  refine S_seq ?_
  refine S_seq ?_
  refine S_reg [true, true] rfl rfl ?_
  refine J_st (R_move rfl) rfl (J_st (R_lss rfl rfl) rfl (J_done ?_))
  refine S_condFe rfl (by first | (simp; done) | (simp only [nat_nlt] <;> simp) | (simp only [mkL_length, nat_nlt] <;> simp) | (simp only [mkL_length] <;> simp)) ?_
  refine S_skip ?_
  refine S_seq ?_
  refine S_reg [true, true, true, false, true] rfl rfl ?_
  refine J_st (R_fieldAddr0 fl61_7 rfl) rfl (J_st (R_load sc59 rfl (h1.one 7 rfl)) rfl (J_st (R_move rfl) rfl ?_))
  refine J_call Try.call69 rfl (heldDoneS o8 x.dones (((((((k + 5 * x.queue.length) + 5 * x.staged.length) + 5 * x.inputs.length) + 4 * x.cells.length) + 1 * x.sums.length) + 1 * x.black.length) + 1 * x.caps.length) _ (hd8.rd.ext E) (congrArg Worker.dones hm) (by omega)) rfl (fun _ w9 e9 hv => ?_)
  subst hv
  replace E := E.trans e9; replace h1 := h1.ext e9
  have z9 := e9.size
  refine J_st (R_assign rfl) rfl (J_done ?_)
  refine S_seq ?_
  refine S_seq ?_
  refine S_reg [true, true] rfl rfl ?_
  refine J_st (R_move rfl) rfl (J_st (R_lss rfl rfl) rfl (J_done ?_))
  refine S_condFe rfl (by first | (simp; done) | (simp only [nat_nlt] <;> simp) | (simp only [mkL_length, nat_nlt] <;> simp) | (simp only [mkL_length] <;> simp)) ?_
  refine S_skip ?_
  refine S_seq ?_
  refine S_reg [true, true] rfl rfl ?_
  refine J_st (R_move rfl) rfl (J_st (R_assign rfl) rfl (J_done ?_))
  refine S_ret (E_done1 rfl rfl E ?_)
  rfl

set_option maxRecDepth 20000 in
theorem c_copyRecords (vxs : Value) (xs : List Record) (w : World) (hxs : RdS w vxs xs) (hb : xs.length ≤ 4194304) : Ct Try.prog 91 [vxs] w (fun v w' => Own w' w.heap.size w'.heap.size 5 v (List.flatMap (Enc.enc (α := Record)) xs)) := by
  refine ct_of Try.func91 rfl Try.ntmps91 rfl ?_
  refine S_sub [(0, vxs)] ⟨rfl, trivial⟩ ?_
  have E : Ext w w := Ext.refl w
  refine S_seq ?_
  refine S_reg [true] rfl rfl ?_
  refine J_st (R_assign rfl) rfl (J_done ?_)
  refine S_seq ?_
  refine S_reg [true, false, true] rfl rfl ?_
  refine J_st (R_move rfl) rfl ?_
  refine J_append sl33 rfl rfl (Own.nil w w.heap.size w.heap.size 5) (RdS.src (hxs.ext E)) (flat_one _) (by simp only [sum_flat, List.length_nil]; simp only [Enc.sz]; omega) (by decide) (by omega) (by omega) rfl rfl (fun v1 w1 m1 ho1 => ?_)
  replace E := E.step m1 (fun g hg => by have := Own.blk (Own.nil w w.heap.size w.heap.size 5) g hg; omega)
  have z1 := m1.size
  refine J_st (R_assign rfl) rfl (J_done ?_)
  refine S_ret (E_done1 rfl rfl E ?_)
  exact Own.fin ho1 (by have := E.size; omega) (by omega) (by simp [*])

set_option maxRecDepth 20000 in
theorem c_copyCells (vxs : Value) (xs : List Cell) (w : World) (hxs : RdS w vxs xs) (hb : xs.length ≤ 4194304) : Ct Try.prog 41 [vxs] w (fun v w' => Own w' w.heap.size w'.heap.size 4 v (List.flatMap (Enc.enc (α := Cell)) xs)) := by
  refine ct_of Try.func41 rfl Try.ntmps41 rfl ?_
  refine S_sub [(0, vxs)] ⟨rfl, trivial⟩ ?_
  have E : Ext w w := Ext.refl w
  refine S_seq ?_
  refine S_reg [true] rfl rfl ?_
  refine J_st (R_assign rfl) rfl (J_done ?_)
  refine S_seq ?_
  refine S_reg [true, false, true] rfl rfl ?_
  refine J_st (R_move rfl) rfl ?_
  refine J_append sl32 rfl rfl (Own.nil w w.heap.size w.heap.size 4) (RdS.src (hxs.ext E)) (flat_one _) (by simp only [sum_flat, List.length_nil]; simp only [Enc.sz]; omega) (by decide) (by omega) (by omega) rfl rfl (fun v1 w1 m1 ho1 => ?_)
  replace E := E.step m1 (fun g hg => by have := Own.blk (Own.nil w w.heap.size w.heap.size 4) g hg; omega)
  have z1 := m1.size
  refine J_st (R_assign rfl) rfl (J_done ?_)
  refine S_ret (E_done1 rfl rfl E ?_)
  exact Own.fin ho1 (by have := E.size; omega) (by omega) (by simp [*])

set_option maxRecDepth 20000 in
theorem c_copyWorker (cx : List Value) (x : Worker) (w : World) (hx : Dat.R w 0 w.heap.size cx x) (hb : cntWorker x ≤ 1048576) : Ct Try.prog 59 [.agg cx.toArray] w (fun v w' => ∃ cs, v = .agg cs.toArray ∧ Own1.O w' w.heap.size w'.heap.size cs x) := by
  unfold cntWorker at hb
  refine ct_of Try.func59 rfl Try.ntmps59 rfl ?_
  obtain ⟨o1, o2, o3, o4, o5, o6, o7, o8, rfl, hd1, hd2, hd3, hd4, hd5, hd6, hd7, hd8⟩ := Worker.op hx
  refine S_sub [(0, .agg [o1, o2, o3, o4, o5, o6, o7, o8].toArray)] ⟨rfl, trivial⟩ ?_
  have E : Ext w w := Ext.refl w
  refine S_seq ?_
  refine S_reg [false, false] rfl rfl ?_
  refine J_box rfl rfl (fun b1 w1 e1 s1 h1 => ?_)
  have g_b1 : w.heap.size ≤ b1 := by have := E.size; omega
  have y_b1 := h1.lt
  replace E := E.trans e1
  have z1 := e1.size
  refine J_alloc st61 rfl (fun b2 w2 e2 s2 h2 => ?_)
  have g_b2 : w.heap.size ≤ b2 := by have := E.size; omega
  have y_b2 := h2.lt
  replace E := E.trans e2; replace h1 := h1.ext e2
  have z2 := e2.size
  refine J_done ?_
  refine S_seq ?_
  refine S_regD mixed [(0, true), (1, true), (3, true), (4, true), (6, true), (7, true), (9, true), (10, true), (12, true), (13, true), (15, true), (16, true), (18, true), (19, true), (21, true), (22, true), (2, false), (5, false), (8, false), (11, false), (14, false), (17, false), (20, false), (23, false), (24, true), (25, false)] (by decide +kernel) rfl (fun w3 e3 => ?_)
  replace E := E.trans e3; replace h1 := h1.ext e3; replace h2 := h2.ext e3
  have z3 := e3.size
  refine J_st (R_fieldAddr0 fl61_0 rfl) rfl (J_st (R_load sc33 rfl (h1.one 0 rfl)) rfl (J_st (R_fieldAddr0 fl61_1 rfl) rfl (J_st (R_load sc33 rfl (h1.one 1 rfl)) rfl (J_st (R_fieldAddr0 fl61_2 rfl) rfl (J_st (R_load sc33 rfl (h1.one 2 rfl)) rfl (J_st (R_fieldAddr0 fl61_3 rfl) rfl (J_st (R_load sc32 rfl (h1.one 3 rfl)) rfl (J_st (R_fieldAddr0 fl61_4 rfl) rfl (J_st (R_load sc53 rfl (h1.one 4 rfl)) rfl (J_st (R_fieldAddr0 fl61_5 rfl) rfl (J_st (R_load sc54 rfl (h1.one 5 rfl)) rfl (J_st (R_fieldAddr0 fl61_6 rfl) rfl (J_st (R_load sc54 rfl (h1.one 6 rfl)) rfl (J_st (R_fieldAddr0 fl61_7 rfl) rfl (J_st (R_load sc59 rfl (h1.one 7 rfl)) rfl ?_)))))))))))))))
  refine J_call Try.call91 rfl (c_copyRecords o1 x.queue _ (hd1.rd.ext E) (by first | omega | (simp only [mkL_length]; omega) | (rw [mkL_length]; done) | (simp only [mkL_length]; done))) rfl (fun v1 w4 e4 ho1 => ?_)
  have g_ho1 : w.heap.size ≤ w3.heap.size := E.size
  replace E := E.trans e4; replace h1 := h1.ext e4; replace h2 := h2.ext e4
  have z4 := e4.size
  refine J_call Try.call91 rfl (c_copyRecords o2 x.staged _ (hd2.rd.ext E) (by first | omega | (simp only [mkL_length]; omega) | (rw [mkL_length]; done) | (simp only [mkL_length]; done))) rfl (fun v2 w5 e5 ho2 => ?_)
  have g_ho2 : w.heap.size ≤ w4.heap.size := E.size
  replace E := E.trans e5; replace h1 := h1.ext e5; replace h2 := h2.ext e5; replace ho1 := ho1.ext e5
  have z5 := e5.size
  refine J_call Try.call91 rfl (c_copyRecords o3 x.inputs _ (hd3.rd.ext E) (by first | omega | (simp only [mkL_length]; omega) | (rw [mkL_length]; done) | (simp only [mkL_length]; done))) rfl (fun v3 w6 e6 ho3 => ?_)
  have g_ho3 : w.heap.size ≤ w5.heap.size := E.size
  replace E := E.trans e6; replace h1 := h1.ext e6; replace h2 := h2.ext e6; replace ho1 := ho1.ext e6; replace ho2 := ho2.ext e6
  have z6 := e6.size
  refine J_call Try.call41 rfl (c_copyCells o4 x.cells _ (hd4.rd.ext E) (by first | omega | (simp only [mkL_length]; omega) | (rw [mkL_length]; done) | (simp only [mkL_length]; done))) rfl (fun v4 w7 e7 ho4 => ?_)
  have g_ho4 : w.heap.size ≤ w6.heap.size := E.size
  replace E := E.trans e7; replace h1 := h1.ext e7; replace h2 := h2.ext e7; replace ho1 := ho1.ext e7; replace ho2 := ho2.ext e7; replace ho3 := ho3.ext e7
  have z7 := e7.size
  refine J_appendD sl53 rfl rfl (Own.nil w7 w7.heap.size w7.heap.size 1) ⟨_, _, rfl⟩ (RdS.src (hd5.rd.ext E)) (flat_one _) (by simp only [sum_flat, List.length_nil]; simp only [Enc.sz]; omega) (by decide) (by omega) (by omega) rfl (fun v5 w8 e8 ho5 hb_ho5 => ?_)
  replace E := E.trans e8; replace h1 := h1.ext e8; replace h2 := h2.ext e8; replace ho1 := ho1.ext e8; replace ho2 := ho2.ext e8; replace ho3 := ho3.ext e8; replace ho4 := ho4.ext e8
  have z8 := e8.size
  have g_ho5 : w.heap.size ≤ w7.heap.size := by have := E.size; omega
  replace ho5 : Own w8 w7.heap.size w8.heap.size 1 v5 (List.flatMap (Enc.enc (α := Int)) x.sums) := ho5
  refine J_appendD sl54 rfl rfl (Own.nil w8 w8.heap.size w8.heap.size 1) ⟨_, _, rfl⟩ (RdS.src (hd6.rd.ext E)) (flat_one _) (by simp only [sum_flat, List.length_nil]; simp only [Enc.sz]; omega) (by decide) (by omega) (by omega) rfl (fun v6 w9 e9 ho6 hb_ho6 => ?_)
  replace E := E.trans e9; replace h1 := h1.ext e9; replace h2 := h2.ext e9; replace ho1 := ho1.ext e9; replace ho2 := ho2.ext e9; replace ho3 := ho3.ext e9; replace ho4 := ho4.ext e9; replace ho5 := ho5.ext e9
  have z9 := e9.size
  have g_ho6 : w.heap.size ≤ w8.heap.size := by have := E.size; omega
  replace ho6 : Own w9 w8.heap.size w9.heap.size 1 v6 (List.flatMap (Enc.enc (α := Bool)) x.black) := ho6
  refine J_appendD sl54 rfl rfl (Own.nil w9 w9.heap.size w9.heap.size 1) ⟨_, _, rfl⟩ (RdS.src (hd7.rd.ext E)) (flat_one _) (by simp only [sum_flat, List.length_nil]; simp only [Enc.sz]; omega) (by decide) (by omega) (by omega) rfl (fun v7 w10 e10 ho7 hb_ho7 => ?_)
  replace E := E.trans e10; replace h1 := h1.ext e10; replace h2 := h2.ext e10; replace ho1 := ho1.ext e10; replace ho2 := ho2.ext e10; replace ho3 := ho3.ext e10; replace ho4 := ho4.ext e10; replace ho5 := ho5.ext e10; replace ho6 := ho6.ext e10
  have z10 := e10.size
  have g_ho7 : w.heap.size ≤ w9.heap.size := by have := E.size; omega
  replace ho7 : Own w10 w9.heap.size w10.heap.size 1 v7 (List.flatMap (Enc.enc (α := Bool)) x.caps) := ho7
  refine J_appendD sl59 rfl rfl (Own.nil w10 w10.heap.size w10.heap.size 2) ⟨_, _, rfl⟩ (RdS.src (hd8.rd.ext E)) (flat_one _) (by simp only [sum_flat, List.length_nil]; simp only [Enc.sz]; omega) (by decide) (by omega) (by omega) rfl (fun v8 w11 e11 ho8 hb_ho8 => ?_)
  replace E := E.trans e11; replace h1 := h1.ext e11; replace h2 := h2.ext e11; replace ho1 := ho1.ext e11; replace ho2 := ho2.ext e11; replace ho3 := ho3.ext e11; replace ho4 := ho4.ext e11; replace ho5 := ho5.ext e11; replace ho6 := ho6.ext e11; replace ho7 := ho7.ext e11
  have z11 := e11.size
  have g_ho8 : w.heap.size ≤ w10.heap.size := by have := E.size; omega
  replace ho8 : Own w11 w10.heap.size w11.heap.size 2 v8 (List.flatMap (Enc.enc (α := Done)) x.dones) := ho8
  have hbl1 : ∀ w, (Instr.build 61 ([(0, v1), (1, v2), (2, v3), (3, v4), (4, v5), (5, v6), (6, v7), (7, v8)]).toArray).run Try.prog w = .ok (.agg [v1, v2, v3, v4, v5, v6, v7, v8].toArray) w := by clear E; obtain ⟨_, _, _, rfl⟩ := Own.shape ho1; obtain ⟨_, _, _, rfl⟩ := Own.shape ho2; obtain ⟨_, _, _, rfl⟩ := Own.shape ho3; obtain ⟨_, _, _, rfl⟩ := Own.shape ho4; obtain ⟨_, _, _, rfl⟩ := Own.shape ho5; obtain ⟨_, _, _, rfl⟩ := Own.shape ho6; obtain ⟨_, _, _, rfl⟩ := Own.shape ho7; obtain ⟨_, _, _, rfl⟩ := Own.shape ho8; intro w; kernel_rfl
  refine J_st (R_buildC [v1, v2, v3, v4, v5, v6, v7, v8] rfl hbl1) rfl ?_
  refine J_storeS' (cs' := [v1, v2, v3, v4, v5, v6, v7, v8]) st61 rfl rfl rfl (all_cons ho1.one (all_cons ho2.one (all_cons ho3.one (all_cons ho4.one (all_cons ho5.one (all_cons ho6.one (all_cons ho7.one (all_cons ho8.one rfl)))))))) h2 (Nat.le_of_ble_eq_true rfl) rfl (fun w12 m1 h2' => ?_)
  replace h2 := h2'
  replace E := E.step m1 (fun g hg => by cases hg; omega); replace h1 := h1.mod m1 (fun g hg => by cases hg; omega); replace ho1 := ho1.mod m1 (fun g hg => by cases hg; omega); replace ho2 := ho2.mod m1 (fun g hg => by cases hg; omega); replace ho3 := ho3.mod m1 (fun g hg => by cases hg; omega); replace ho4 := ho4.mod m1 (fun g hg => by cases hg; omega); replace ho5 := ho5.mod m1 (fun g hg => by cases hg; omega); replace ho6 := ho6.mod m1 (fun g hg => by cases hg; omega); replace ho7 := ho7.mod m1 (fun g hg => by cases hg; omega); replace ho8 := ho8.mod m1 (fun g hg => by cases hg; omega)
  have z12 := m1.size
  refine J_done ?_
  refine S_ret (E_doneC rfl rfl (run_loadVar_st st61 h2.at rfl) E ?_)
  exact ⟨_, rfl, Worker.mkO x ⟨⟨(Own.sep ho1 ho2 (by omega)), ⟨(Own.sep ho1 ho3 (by omega)), ⟨(Own.sep ho1 ho4 (by omega)), ⟨(Own.sep ho1 ho5 (by omega)), ⟨(Own.sep ho1 ho6 (by omega)), ⟨(Own.sep ho1 ho7 (by omega)), ⟨(Own.sep ho1 ho8 (by omega)), trivial⟩⟩⟩⟩⟩⟩⟩, ⟨⟨(Own.sep ho2 ho3 (by omega)), ⟨(Own.sep ho2 ho4 (by omega)), ⟨(Own.sep ho2 ho5 (by omega)), ⟨(Own.sep ho2 ho6 (by omega)), ⟨(Own.sep ho2 ho7 (by omega)), ⟨(Own.sep ho2 ho8 (by omega)), trivial⟩⟩⟩⟩⟩⟩, ⟨⟨(Own.sep ho3 ho4 (by omega)), ⟨(Own.sep ho3 ho5 (by omega)), ⟨(Own.sep ho3 ho6 (by omega)), ⟨(Own.sep ho3 ho7 (by omega)), ⟨(Own.sep ho3 ho8 (by omega)), trivial⟩⟩⟩⟩⟩, ⟨⟨(Own.sep ho4 ho5 (by omega)), ⟨(Own.sep ho4 ho6 (by omega)), ⟨(Own.sep ho4 ho7 (by omega)), ⟨(Own.sep ho4 ho8 (by omega)), trivial⟩⟩⟩⟩, ⟨⟨(Own.sep ho5 ho6 (by omega)), ⟨(Own.sep ho5 ho7 (by omega)), ⟨(Own.sep ho5 ho8 (by omega)), trivial⟩⟩⟩, ⟨⟨(Own.sep ho6 ho7 (by omega)), ⟨(Own.sep ho6 ho8 (by omega)), trivial⟩⟩, ⟨⟨(Own.sep ho7 ho8 (by omega)), trivial⟩, ⟨trivial, trivial⟩⟩⟩⟩⟩⟩⟩⟩ (Own.widen ho1 (by omega) (by omega)) (Own.widen ho2 (by omega) (by omega)) (Own.widen ho3 (by omega) (by omega)) (Own.widen ho4 (by omega) (by omega)) (Own.widen ho5 (by omega) (by omega)) (Own.widen ho6 (by omega) (by omega)) (Own.widen ho7 (by omega) (by omega)) (Own.widen ho8 (by omega) (by omega))⟩

set_option maxHeartbeats 4000000 in
set_option maxRecDepth 20000 in
theorem s_l12Copy (cx : List Value) (x : Worker) (w : World) (hx : Dat.R w 0 w.heap.size cx x) (hb : cntWorker x ≤ 1048576) : Ct Try.prog 53 [.agg cx.toArray] w (fun v w' => ∃ cs, v = .agg cs.toArray ∧ Own1.O w' w.heap.size w'.heap.size cs x) := by
  unfold cntWorker at hb
  refine ct_of Try.func53 rfl Try.ntmps53 rfl ?_
  obtain ⟨o1, o2, o3, o4, o5, o6, o7, o8, rfl, hd1, hd2, hd3, hd4, hd5, hd6, hd7, hd8⟩ := Worker.op hx
  refine S_sub [(0, .agg [o1, o2, o3, o4, o5, o6, o7, o8].toArray)] ⟨rfl, trivial⟩ ?_
  have E : Ext w w := Ext.refl w
  refine S_seq ?_
  refine S_reg [false, false] rfl rfl ?_
  refine J_box rfl rfl (fun b1 w1 e1 s1 h1 => ?_)
  have g_b1 : w.heap.size ≤ b1 := by have := E.size; omega
  have y_b1 := h1.lt
  replace E := E.trans e1
  have z1 := e1.size
  refine J_alloc st61 rfl (fun b2 w2 e2 s2 h2 => ?_)
  have g_b2 : w.heap.size ≤ b2 := by have := E.size; omega
  have y_b2 := h2.lt
  replace E := E.trans e2; replace h1 := h1.ext e2
  have z2 := e2.size
  refine J_done ?_
  refine S_seq ?_
  refine S_regP mixed [(1, true), (2, true), (5, true), (6, true), (9, true), (10, true), (13, true), (14, true), (17, true), (18, true), (21, true), (22, true), (25, true), (26, true), (29, true), (30, true)] [⟨0, 3, 5, [], true, none⟩, ⟨3, 6, 5, List.flatMap (Enc.enc (α := Record)) x.queue, false, some (0, 3)⟩, ⟨4, 7, 5, [], true, none⟩, ⟨7, 10, 5, List.flatMap (Enc.enc (α := Record)) x.staged, false, some (4, 7)⟩, ⟨8, 11, 5, [], true, none⟩, ⟨11, 14, 5, List.flatMap (Enc.enc (α := Record)) x.inputs, false, some (8, 11)⟩, ⟨12, 15, 4, [], true, none⟩, ⟨15, 18, 4, List.flatMap (Enc.enc (α := Cell)) x.cells, false, some (12, 15)⟩, ⟨16, 19, 1, [], true, none⟩, ⟨19, 22, 1, List.flatMap (Enc.enc (α := Int)) x.sums, false, some (16, 19)⟩, ⟨20, 23, 1, [], true, none⟩, ⟨23, 26, 1, List.flatMap (Enc.enc (α := Bool)) x.black, false, some (20, 23)⟩, ⟨24, 27, 1, [], true, none⟩, ⟨27, 30, 1, List.flatMap (Enc.enc (α := Bool)) x.caps, false, some (24, 27)⟩, ⟨28, 31, 2, [], true, none⟩, ⟨31, 34, 2, List.flatMap (Enc.enc (α := Done)) x.dones, false, some (28, 31)⟩] [(32, true), (33, false)] (by kernel_rfl) rfl rfl [(0, .agg [o1, o2, o3, o4, o5, o6, o7, o8].toArray), (1, .pointer (some ⟨b1, 0, none⟩)), (2, .pointer (some ⟨b2, 0, none⟩)), (4, .pointer (some ⟨b1, 0, none⟩)), (5, o1), (8, .pointer (some ⟨b1, 1, none⟩)), (9, o2), (12, .pointer (some ⟨b1, 2, none⟩)), (13, o3), (16, .pointer (some ⟨b1, 3, none⟩)), (17, o4), (20, .pointer (some ⟨b1, 4, none⟩)), (21, o5), (24, .pointer (some ⟨b1, 5, none⟩)), (25, o6), (28, .pointer (some ⟨b1, 6, none⟩)), (29, o7), (32, .pointer (some ⟨b1, 7, none⟩)), (33, o8)] (fun w' => Ext w w' ∧ w2.heap.size ≤ w'.heap.size ∧ Blk w' b1 ([o1, o2, o3, o4, o5, o6, o7, o8]) ∧ Blk w' b2 [.slice none 0 0, .slice none 0 0, .slice none 0 0, .slice none 0 0, .slice none 0 0, .slice none 0 0, .slice none 0 0, .slice none 0 0]) (fun w3 e3 => ?_) (fun w3 hphi_w3 => ?_)
  · replace E := E.trans e3; replace h1 := h1.ext e3; replace h2 := h2.ext e3
    have z3 := e3.size
    refine J_st (R_fieldAddr0 fl61_0 rfl) rfl (J_st (R_load sc33 rfl (h1.one 0 rfl)) rfl (J_st (R_fieldAddr0 fl61_1 rfl) rfl (J_st (R_load sc33 rfl (h1.one 1 rfl)) rfl (J_st (R_fieldAddr0 fl61_2 rfl) rfl (J_st (R_load sc33 rfl (h1.one 2 rfl)) rfl (J_st (R_fieldAddr0 fl61_3 rfl) rfl (J_st (R_load sc32 rfl (h1.one 3 rfl)) rfl (J_st (R_fieldAddr0 fl61_4 rfl) rfl (J_st (R_load sc53 rfl (h1.one 4 rfl)) rfl (J_st (R_fieldAddr0 fl61_5 rfl) rfl (J_st (R_load sc54 rfl (h1.one 5 rfl)) rfl (J_st (R_fieldAddr0 fl61_6 rfl) rfl (J_st (R_load sc54 rfl (h1.one 6 rfl)) rfl (J_st (R_fieldAddr0 fl61_7 rfl) rfl (J_st (R_load sc59 rfl (h1.one 7 rfl)) rfl (J_cutEnd ⟨rfl, rfl, rfl, rfl, rfl, rfl, rfl, rfl, rfl, rfl, rfl, rfl, rfl, rfl, rfl, rfl, rfl, rfl, rfl, trivial⟩ ⟨E, (by omega), h1, h2⟩))))))))))))))))
  clear E h1 h2
  obtain ⟨E, z4, h1, h2⟩ := hphi_w3
  refine ⟨⟨⟨_, rfl, rfl, rfl, rfl, ?_⟩, ⟨_, rfl, rfl, rfl, rfl, ?_⟩, ⟨_, rfl, rfl, rfl, rfl, ?_⟩, ⟨_, rfl, rfl, rfl, rfl, ?_⟩, ⟨_, rfl, rfl, rfl, rfl, ?_⟩, ⟨_, rfl, rfl, rfl, rfl, ?_⟩, ⟨_, rfl, rfl, rfl, rfl, ?_⟩, ⟨_, rfl, rfl, rfl, rfl, ?_⟩, ⟨_, rfl, rfl, rfl, rfl, ?_⟩, ⟨_, rfl, rfl, rfl, rfl, ?_⟩, ⟨_, rfl, rfl, rfl, rfl, ?_⟩, ⟨_, rfl, rfl, rfl, rfl, ?_⟩, ⟨_, rfl, rfl, rfl, rfl, ?_⟩, ⟨_, rfl, rfl, rfl, rfl, ?_⟩, ⟨_, rfl, rfl, rfl, rfl, ?_⟩, ⟨_, rfl, rfl, rfl, rfl, ?_⟩, trivial⟩, fun w4 e4 => ?_⟩
  · exact step_lit sl33
  · exact step_app sl33 rfl (fun _ eX => RdS.src (RdS.ext (hd1.rd.ext E) eX)) (flat_one _) (by simp only [sum_flat, List.length_nil]; simp only [Enc.sz]; omega) (by decide)
  · exact step_lit sl33
  · exact step_app sl33 rfl (fun _ eX => RdS.src (RdS.ext (hd2.rd.ext E) eX)) (flat_one _) (by simp only [sum_flat, List.length_nil]; simp only [Enc.sz]; omega) (by decide)
  · exact step_lit sl33
  · exact step_app sl33 rfl (fun _ eX => RdS.src (RdS.ext (hd3.rd.ext E) eX)) (flat_one _) (by simp only [sum_flat, List.length_nil]; simp only [Enc.sz]; omega) (by decide)
  · exact step_lit sl32
  · exact step_app sl32 rfl (fun _ eX => RdS.src (RdS.ext (hd4.rd.ext E) eX)) (flat_one _) (by simp only [sum_flat, List.length_nil]; simp only [Enc.sz]; omega) (by decide)
  · exact step_lit sl53
  · exact step_app sl53 rfl (fun _ eX => RdS.src (RdS.ext (hd5.rd.ext E) eX)) (flat_one _) (by simp only [sum_flat, List.length_nil]; simp only [Enc.sz]; omega) (by decide)
  · exact step_lit sl54
  · exact step_app sl54 rfl (fun _ eX => RdS.src (RdS.ext (hd6.rd.ext E) eX)) (flat_one _) (by simp only [sum_flat, List.length_nil]; simp only [Enc.sz]; omega) (by decide)
  · exact step_lit sl54
  · exact step_app sl54 rfl (fun _ eX => RdS.src (RdS.ext (hd7.rd.ext E) eX)) (flat_one _) (by simp only [sum_flat, List.length_nil]; simp only [Enc.sz]; omega) (by decide)
  · exact step_lit sl59
  · exact step_app sl59 rfl (fun _ eX => RdS.src (RdS.ext (hd8.rd.ext E) eX)) (flat_one _) (by simp only [sum_flat, List.length_nil]; simp only [Enc.sz]; omega) (by decide)
  intro v1 ho1 v2 ho2 v3 ho3 v4 ho4 v5 ho5 v6 ho6 v7 ho7 v8 ho8 v9 ho9 v10 ho10 v11 ho11 v12 ho12 v13 ho13 v14 ho14 v15 ho15 v16 ho16 sp1
  replace sp1 : SepL [v2, v4, v6, v8, v10, v12, v14, v16] := sp1
  have g_sp1 : w.heap.size ≤ w3.heap.size := E.size
  replace E := E.trans e4; replace h1 := h1.ext e4; replace h2 := h2.ext e4
  have z5 := e4.size
  clear ho1
  replace ho2 : Own w4 w3.heap.size w4.heap.size 5 v2 (List.flatMap (Enc.enc (α := Record)) x.queue) := ho2
  clear ho3
  replace ho4 : Own w4 w3.heap.size w4.heap.size 5 v4 (List.flatMap (Enc.enc (α := Record)) x.staged) := ho4
  clear ho5
  replace ho6 : Own w4 w3.heap.size w4.heap.size 5 v6 (List.flatMap (Enc.enc (α := Record)) x.inputs) := ho6
  clear ho7
  replace ho8 : Own w4 w3.heap.size w4.heap.size 4 v8 (List.flatMap (Enc.enc (α := Cell)) x.cells) := ho8
  clear ho9
  replace ho10 : Own w4 w3.heap.size w4.heap.size 1 v10 (List.flatMap (Enc.enc (α := Int)) x.sums) := ho10
  clear ho11
  replace ho12 : Own w4 w3.heap.size w4.heap.size 1 v12 (List.flatMap (Enc.enc (α := Bool)) x.black) := ho12
  clear ho13
  replace ho14 : Own w4 w3.heap.size w4.heap.size 1 v14 (List.flatMap (Enc.enc (α := Bool)) x.caps) := ho14
  clear ho15
  replace ho16 : Own w4 w3.heap.size w4.heap.size 2 v16 (List.flatMap (Enc.enc (α := Done)) x.dones) := ho16
  refine J_sub [(0, .agg [o1, o2, o3, o4, o5, o6, o7, o8].toArray), (1, .pointer (some ⟨b1, 0, none⟩)), (2, .pointer (some ⟨b2, 0, none⟩)), (4, .pointer (some ⟨b1, 0, none⟩)), (5, o1), (6, v2), (8, .pointer (some ⟨b1, 1, none⟩)), (9, o2), (10, v4), (12, .pointer (some ⟨b1, 2, none⟩)), (13, o3), (14, v6), (16, .pointer (some ⟨b1, 3, none⟩)), (17, o4), (18, v8), (20, .pointer (some ⟨b1, 4, none⟩)), (21, o5), (22, v10), (24, .pointer (some ⟨b1, 5, none⟩)), (25, o6), (26, v12), (28, .pointer (some ⟨b1, 6, none⟩)), (29, o7), (30, v14), (32, .pointer (some ⟨b1, 7, none⟩)), (33, o8), (34, v16)] ⟨rfl, rfl, rfl, rfl, rfl, rfl, rfl, rfl, rfl, rfl, rfl, rfl, rfl, rfl, rfl, rfl, rfl, rfl, rfl, rfl, rfl, rfl, rfl, rfl, rfl, rfl, rfl, trivial⟩ ?_
  have hbl1 : ∀ w, (Instr.build 61 ([(0, v2), (1, v4), (2, v6), (3, v8), (4, v10), (5, v12), (6, v14), (7, v16)]).toArray).run Try.prog w = .ok (.agg [v2, v4, v6, v8, v10, v12, v14, v16].toArray) w := by clear E; obtain ⟨_, _, _, rfl⟩ := Own.shape ho2; obtain ⟨_, _, _, rfl⟩ := Own.shape ho4; obtain ⟨_, _, _, rfl⟩ := Own.shape ho6; obtain ⟨_, _, _, rfl⟩ := Own.shape ho8; obtain ⟨_, _, _, rfl⟩ := Own.shape ho10; obtain ⟨_, _, _, rfl⟩ := Own.shape ho12; obtain ⟨_, _, _, rfl⟩ := Own.shape ho14; obtain ⟨_, _, _, rfl⟩ := Own.shape ho16; intro w; kernel_rfl
  refine J_st (R_buildC [v2, v4, v6, v8, v10, v12, v14, v16] rfl hbl1) rfl ?_
  refine J_storeS' (cs' := [v2, v4, v6, v8, v10, v12, v14, v16]) st61 rfl rfl rfl (all_cons ho2.one (all_cons ho4.one (all_cons ho6.one (all_cons ho8.one (all_cons ho10.one (all_cons ho12.one (all_cons ho14.one (all_cons ho16.one rfl)))))))) h2 (Nat.le_of_ble_eq_true rfl) rfl (fun w5 m1 h2' => ?_)
  replace h2 := h2'
  replace E := E.step m1 (fun g hg => by cases hg; omega); replace h1 := h1.mod m1 (fun g hg => by cases hg; omega); replace ho2 := ho2.mod m1 (fun g hg => by cases hg; omega); replace ho4 := ho4.mod m1 (fun g hg => by cases hg; omega); replace ho6 := ho6.mod m1 (fun g hg => by cases hg; omega); replace ho8 := ho8.mod m1 (fun g hg => by cases hg; omega); replace ho10 := ho10.mod m1 (fun g hg => by cases hg; omega); replace ho12 := ho12.mod m1 (fun g hg => by cases hg; omega); replace ho14 := ho14.mod m1 (fun g hg => by cases hg; omega); replace ho16 := ho16.mod m1 (fun g hg => by cases hg; omega)
  have z6 := m1.size
  refine J_done ?_
  refine S_ret (E_doneC rfl rfl (run_loadVar_st st61 h2.at rfl) E ?_)
  exact ⟨_, rfl, Worker.mkO x sp1 (Own.widen ho2 (by omega) (by omega)) (Own.widen ho4 (by omega) (by omega)) (Own.widen ho6 (by omega) (by omega)) (Own.widen ho8 (by omega) (by omega)) (Own.widen ho10 (by omega) (by omega)) (Own.widen ho12 (by omega) (by omega)) (Own.widen ho14 (by omega) (by omega)) (Own.widen ho16 (by omega) (by omega))⟩

set_option maxRecDepth 20000 in
theorem markNodeS (vxs : Value) (lo hi : Nat) (xs : List Node) (k : Nat) (w : World) (hxs : OwS w lo hi vxs xs) (hhi : hi ≤ w.heap.size) (hb : k + 4 * cntL cntNode xs ≤ 1099511627776) : CtR Try.prog 48 [vxs, .int .i64 ((k : Nat) : Int)] w lo hi (fun v w' => v = .int .i64 ((numNs k xs : Nat) : Int) ∧ OwS w' lo hi vxs (markNs k xs)) := by
  have hmx : xs.length ≤ maxLen := hxs.rd.1.1
  unfold maxLen at hmx
  refine ctR_of Try.func48 rfl Try.ntmps48 rfl ?_
  refine S_sub [(0, vxs), (1, .int .i64 ((k : Nat) : Int))] ⟨rfl, rfl, trivial⟩ ?_
  have E : ModR w w lo hi := ModR.refl w lo hi
  refine S_seq ?_
  refine S_reg [true] rfl rfl ?_
  refine J_st (R_assign rfl) rfl (J_done ?_)
  refine S_seq ?_
  refine S_seq ?_
  refine S_reg [true] rfl rfl ?_
  refine J_st (R_assign rfl) rfl (J_done ?_)
  refine S_block ?_
  refine S_loop (fun (xq : Nat × Nat) => let ⟨i, q⟩ := xq; [(0, vxs), (1, .int .i64 ((q : Nat) : Int)), (4, .int .i64 0), (5, .int .i64 ((i : Nat) : Int))]) (fun (xq : Nat × Nat) w' => let ⟨i, q⟩ := xq; ModR w w' lo hi ∧ w.heap.size ≤ w'.heap.size ∧ i ≤ xs.length ∧ q = numNs k (xs.take i) ∧ OwS w' lo hi vxs (markNs k (xs.take i) ++ xs.drop i)) (fun (xq : Nat × Nat) => let ⟨i, q⟩ := xq; xs.length - i) (0, k) ⟨rfl, rfl, rfl, rfl, trivial⟩ ⟨E, Nat.le_refl _, Nat.zero_le _, rfl, (by simpa [markNs] using hxs)⟩ ?_
  clear E hxs
  rintro ⟨i, q⟩ w1 ⟨E, z1, hi0, hq, hxs⟩
  refine S_sub [(0, vxs), (1, .int .i64 ((q : Nat) : Int)), (4, .int .i64 0), (5, .int .i64 ((i : Nat) : Int))] ⟨rfl, rfl, rfl, rfl, trivial⟩ ?_
  refine S_seq ?_
  refine S_seq ?_
  refine S_reg [true, true, true, true] rfl rfl ?_
  refine J_st (R_move rfl) rfl (J_st (R_move rfl) rfl (J_st (R_len Try.underlying36 rfl (OwS.lenE (n := xs.length) hxs (by simp [markNs_length]; omega))) rfl (J_st (R_lss rfl rfl) rfl (J_done ?_))))
  refine S_cond rfl (fun hc1 => ?_) (fun hc1 => ?_)
  · have hlt : i < xs.length := by have h := of_decide_eq_true hc1; omega
    rw [drop_split hlt] at hxs
    obtain ⟨_, ho1, hrow⟩ := OwS.focus hxs
    obtain ⟨o1, rfl, sp1, hw1⟩ := Node.opO ho1
    clear hxs
    have hl0 : (markNs k (xs.take i)).length = i := by rw [markNs_length]; simp; omega
    have hn0 : i + 1 + (xs.drop (i + 1)).length = xs.length := by simp; omega
    have hqk : q + 3 + 1 * (xs[i]'hlt).outs.length ≤ k + 4 * cntL cntNode xs := by rw [hq]; exact numNs_le hlt
    have hc1n : i < xs.length := by first | (have h := of_decide_eq_true hc1; omega) | (have h := hc1; simp at h; omega)
    refine S_skip ?_
    refine S_seq ?_
    refine S_block ?_
    refine S_seq ?_
    refine S_reg [true, true, true, true, true, false] rfl rfl ?_
    refine J_st (R_move rfl) rfl (J_st (R_move rfl) rfl (J_st (R_move rfl) rfl (J_st (R_index (i := i) sl36 rfl rfl (Row.same1 hrow hl0 hn0) (by simp; omega)) rfl (J_st (R_fieldAddr fl70_0 rfl) rfl ?_))))
    have hq1 := Row.sep hrow (u := o1) (by simp)
    have hqb := Row.blk hrow
    refine J_storeRow (i := i) (f := 0) (cs' := [.int .i64 ((q : Nat) : Int), .int .i64 ((xs[i]'hlt).a), .int .i64 ((xs[i]'hlt).b), o1]) sc3 rfl rfl rfl rfl hrow hl0 (by decide) rfl rfl (fun w2 m1 hrow' => ?_)
    replace hrow := hrow'
    replace E := E.mod m1 (fun g hg => by have := hqb g hg; omega); replace hw1 := Own.modS hw1 m1 hq1
    have z2 := m1.size
    clear hqb hq1
    refine J_done ?_
    refine S_seq ?_
    refine S_reg [true, true, true] rfl rfl ?_
    refine J_st (R_move rfl) rfl (J_st (R_add rfl rfl (add_nat (by unfold maxLen; omega))) rfl (J_st (R_assign rfl) rfl (J_done ?_)))
    refine S_seq ?_
    refine S_reg [true, true, true, true, true, false] rfl rfl ?_
    refine J_st (R_move rfl) rfl (J_st (R_move rfl) rfl (J_st (R_move rfl) rfl (J_st (R_index (i := i) sl36 rfl rfl (Row.same1 hrow hl0 hn0) (by simp; omega)) rfl (J_st (R_fieldAddr fl70_1 rfl) rfl ?_))))
    have hq2 := Row.sep hrow (u := o1) (by simp)
    have hqb := Row.blk hrow
    refine J_storeRow (i := i) (f := 1) (cs' := [.int .i64 ((q : Nat) : Int), .int .i64 ((q + 1 : Nat) : Int), .int .i64 ((xs[i]'hlt).b), o1]) sc3 rfl rfl rfl rfl hrow hl0 (by decide) rfl rfl (fun w3 m2 hrow' => ?_)
    replace hrow := hrow'
    replace E := E.mod m2 (fun g hg => by have := hqb g hg; omega); replace hw1 := Own.modS hw1 m2 hq2
    have z3 := m2.size
    clear hqb hq2
    refine J_done ?_
    refine S_seq ?_
    refine S_reg [true, true, true] rfl rfl ?_
    refine J_st (R_move rfl) rfl (J_st (R_add rfl rfl (add_nat (by unfold maxLen; omega))) rfl (J_st (R_assign rfl) rfl (J_done ?_)))
    refine S_seq ?_
    refine S_reg [true, true, true, true, true, false] rfl rfl ?_
    refine J_st (R_move rfl) rfl (J_st (R_move rfl) rfl (J_st (R_move rfl) rfl (J_st (R_index (i := i) sl36 rfl rfl (Row.same1 hrow hl0 hn0) (by simp; omega)) rfl (J_st (R_fieldAddr fl70_2 rfl) rfl ?_))))
    have hq3 := Row.sep hrow (u := o1) (by simp)
    have hqb := Row.blk hrow
    refine J_storeRow (i := i) (f := 2) (cs' := [.int .i64 ((q : Nat) : Int), .int .i64 ((q + 1 : Nat) : Int), .int .i64 ((q + 1 + 1 : Nat) : Int), o1]) sc3 rfl rfl rfl rfl hrow hl0 (by decide) rfl rfl (fun w4 m3 hrow' => ?_)
    replace hrow := hrow'
    replace E := E.mod m3 (fun g hg => by have := hqb g hg; omega); replace hw1 := Own.modS hw1 m3 hq3
    have z4 := m3.size
    clear hqb hq3
    refine J_done ?_
    refine S_seq ?_
    refine S_reg [true, true, true] rfl rfl ?_
    refine J_st (R_move rfl) rfl (J_st (R_add rfl rfl (add_nat (by unfold maxLen; omega))) rfl (J_st (R_assign rfl) rfl (J_done ?_)))
    refine S_reg [true, true, true, true, true, true, false, true] rfl rfl ?_
    refine J_st (R_move rfl) rfl (J_st (R_move rfl) rfl (J_st (R_index (i := i) sl36 rfl rfl (Row.same1 hrow hl0 hn0) (by simp; omega)) rfl (J_st (R_fieldAddr fl70_3 rfl) rfl (J_st (R_load sc53 rfl ((Row.at hrow hl0).one 3 rfl)) rfl (J_st (R_move rfl) rfl ?_)))))
    refine J_callR Try.call64 rfl rfl (markIntS o1 (bl o1) (bh o1) ((xs[i]'hlt).outs) (q + 1 + 1 + 1) _ (Own.tight hw1) (by first | omega | (simp only [mkL_length]; omega) | (rw [mkL_length]; done) | (simp only [mkL_length]; done))) rfl (fun _ w5 e1 hv => ?_)
    obtain ⟨rfl, hw1'⟩ := hv
    have e1c := ModR.loose e1 (Own.blk hw1)
    replace hw1 := Own.loose hw1' (Own.blk hw1)
    clear hw1'
    replace E := E.trans e1c (by omega) (by omega); replace hrow := Row.modRS hrow e1 (by simp)
    have z5 := e1c.size
    refine J_st (R_assign rfl) rfl (J_done ?_)
    refine S_nil (E_inB ?_)
    refine S_reg [true, true, true] rfl rfl ?_
    refine J_st (R_move rfl) rfl (J_st (R_add rfl rfl (add_nat (by unfold maxLen; omega))) rfl (J_st (R_assign rfl) rfl (J_done ?_)))
    have hxs := Row.close hrow (Node.mkO (⟨((q : Nat) : Int), ((q + 1 : Nat) : Int), ((q + 1 + 1 : Nat) : Int), mkL 1 mkInt (q + 1 + 1 + 1) ((xs[i]'hlt).outs).length⟩ : Node) sp1 (Own.widen hw1 (by omega) (by omega)))
    refine S_nil (E_again (i + 1, (q + 1 + 1 + 1) + 1 * ((xs[i]'hlt).outs).length) (by simp; omega) ⟨rfl, rfl, rfl, rfl, trivial⟩ ⟨E, (by omega), (by omega), (by rw [numNs_take hlt, ← hq]), (by rw [markNs_take hlt, ← hq]; exact hxs)⟩)
  · have hc1n : ¬ i < xs.length := by first | (have h := of_decide_eq_false hc1; omega) | (have h := hc1; simp at h; omega)
    refine S_exit (E_lp_exit (E_inB_exit ?_))
    refine S_seq ?_
    refine S_reg [true, true] rfl rfl ?_
    refine J_st (R_move rfl) rfl (J_st (R_assign rfl) rfl (J_done ?_))
    refine S_ret (E_done1 rfl rfl E ?_)
    have hi9 : xs.length ≤ i := by have h := of_decide_eq_false hc1; omega
    rw [List.take_of_length_le hi9] at hq hxs
    rw [List.drop_of_length_le hi9, List.append_nil] at hxs
    exact ⟨by rw [hq], hxs⟩

set_option maxRecDepth 20000 in
theorem markGraph (ox : Value) (lo hi : Nat) (x : Graph) (k : Nat) (w : World) (hx : OwS w lo hi ox x.nodes) (hhi : hi ≤ w.heap.size) (hb : k + 4 * cntGraph x ≤ 1099511627776) : CtR Try.prog 15 [.agg [ox, .int .i64 x.workers, .int .i64 x.cap].toArray, .int .i64 ((k : Nat) : Int)] w lo hi (fun v w' => v = .int .i64 ((numNs k x.nodes : Nat) : Int) ∧ OwS w' lo hi ox (markNs k x.nodes)) := by
  unfold cntGraph at hb
  refine ctR_of Try.func15 rfl Try.ntmps15 rfl ?_
  refine S_sub [(0, .agg [ox, .int .i64 x.workers, .int .i64 x.cap].toArray), (1, .int .i64 ((k : Nat) : Int))] ⟨rfl, rfl, trivial⟩ ?_
  have E : ModR w w lo hi := ModR.refl w lo hi
  refine S_seq ?_
  refine S_reg [false, true] rfl rfl ?_
  refine J_box rfl rfl (fun b1 w1 e1 s1 h1 => ?_)
  have g_b1 : w.heap.size ≤ b1 := by have := E.size; omega
  have y_b1 := h1.lt
  replace E := E.ext e1; replace hx := hx.ext e1
  have z1 := e1.size
  refine J_st (R_assign rfl) rfl (J_done ?_)
  refine S_seq ?_
  refine S_reg [true, true, true, false, true] rfl rfl ?_
  refine J_st (R_fieldAddr0 fl38_0 rfl) rfl (J_st (R_load sc36 rfl (h1.one 0 rfl)) rfl (J_st (R_move rfl) rfl ?_))
  refine J_callR Try.call48 rfl rfl (markNodeS ox lo hi x.nodes k _ hx (by omega) (by first | omega | (simp only [mkL_length]; omega) | (rw [mkL_length]; done) | (simp only [mkL_length]; done))) rfl (fun _ w2 e2 hv => ?_)
  obtain ⟨rfl, hx'⟩ := hv
  replace hx := hx'
  replace E := E.trans e2 (by omega) (by omega); replace h1 := h1.modR e2 (by omega)
  have z2 := e2.size
  refine J_st (R_assign rfl) rfl (J_done ?_)
  refine S_seq ?_
  refine S_reg [true, true] rfl rfl ?_
  refine J_st (R_move rfl) rfl (J_st (R_assign rfl) rfl (J_done ?_))
  refine S_ret (E_done1 rfl rfl E ?_)
  exact ⟨rfl, hx⟩

set_option maxHeartbeats 4000000 in
set_option maxRecDepth 20000 in
theorem s_TakeInput (cg : List Value) (g : Graph) (cx : List Value) (x : Worker) (w : World) (hg : Dat.R w 0 w.heap.size cg g) (hx : Dat.R w 0 w.heap.size cx x) (hb : cntWorker x ≤ 1048576) : Ct Try.prog 21 [.agg cg.toArray, .agg cx.toArray] w (fun v w' => ∃ c0, v = .tuple [.agg c0.toArray, .bool ((takeM g x).2)].toArray ∧ Own1.O w' w.heap.size w'.heap.size c0 ((takeM g x).1)) := by
  refine ct_of Try.func21 rfl Try.ntmps21 rfl ?_
  obtain ⟨o1, rfl, hd1⟩ := Graph.op hg
  obtain ⟨o2, o3, o4, o5, o6, o7, o8, o9, rfl, hd2, hd3, hd4, hd5, hd6, hd7, hd8, hd9⟩ := Worker.op hx
  refine S_sub [(0, .agg [o1, .int .i64 g.workers, .int .i64 g.cap].toArray), (1, .agg [o2, o3, o4, o5, o6, o7, o8, o9].toArray)] ⟨rfl, rfl, trivial⟩ ?_
  have E : Ext w w := Ext.refl w
  refine S_seq ?_
  refine S_reg [false, false, false, true] rfl rfl ?_
  refine J_box rfl rfl (fun b1 w1 e1 s1 h1 => ?_)
  have g_b1 : w.heap.size ≤ b1 := by have := E.size; omega
  have y_b1 := h1.lt
  replace E := E.trans e1
  have z1 := e1.size
  refine J_box rfl rfl (fun b2 w2 e2 s2 h2 => ?_)
  have g_b2 : w.heap.size ≤ b2 := by have := E.size; omega
  have y_b2 := h2.lt
  replace E := E.trans e2; replace h1 := h1.ext e2
  have z2 := e2.size
  refine J_alloc st61 rfl (fun b3 w3 e3 s3 h3 => ?_)
  have g_b3 : w.heap.size ≤ b3 := by have := E.size; omega
  have y_b3 := h3.lt
  replace E := E.trans e3; replace h1 := h1.ext e3; replace h2 := h2.ext e3
  have z3 := e3.size
  refine J_st (R_assign rfl) rfl (J_done ?_)
  refine S_seq ?_
  refine S_reg [true, false, false] rfl rfl ?_
  refine J_st (R_loadS st61 rfl h2.at rfl) rfl ?_
  refine J_call Try.call53 rfl (s_l12Copy [o2, o3, o4, o5, o6, o7, o8, o9] x _ (Worker.mkR x (RdD.any (hd2.ext E)) (RdD.any (hd3.ext E)) (RdD.any (hd4.ext E)) (RdD.any (hd5.ext E)) (RdD.any (hd6.ext E)) (RdD.any (hd7.ext E)) (RdD.any (hd8.ext E)) (RdD.any (hd9.ext E))) (by first | omega | (simp only [mkL_length]; omega) | (rw [mkL_length]; done) | (simp only [mkL_length]; done))) rfl (fun _ w4 e4 ho1 => ?_)
  obtain ⟨_, rfl, ho1⟩ := ho1
  have g_ho1 : w.heap.size ≤ w3.heap.size := E.size
  replace E := E.trans e4; replace h1 := h1.ext e4; replace h2 := h2.ext e4; replace h3 := h3.ext e4
  have z4 := e4.size
  obtain ⟨o10, o11, o12, o13, o14, o15, o16, o17, rfl, sp1, hw1, hw2, hw3, hw4, hw5, hw6, hw7, hw8⟩ := Worker.opO ho1
  refine J_storeS' (cs' := [o10, o11, o12, o13, o14, o15, o16, o17]) st61 rfl rfl rfl (all_cons hw1.one (all_cons hw2.one (all_cons hw3.one (all_cons hw4.one (all_cons hw5.one (all_cons hw6.one (all_cons hw7.one (all_cons hw8.one rfl)))))))) h2 (Nat.le_of_ble_eq_true rfl) rfl (fun w5 m1 h2' => ?_)
  replace h2 := h2'
  replace E := E.step m1 (fun g hg => by cases hg; omega); replace h1 := h1.mod m1 (fun g hg => by cases hg; omega); replace h3 := h3.mod m1 (fun g hg => by cases hg; omega); replace hw1 := hw1.mod m1 (fun g hg => by cases hg; omega); replace hw2 := hw2.mod m1 (fun g hg => by cases hg; omega); replace hw3 := hw3.mod m1 (fun g hg => by cases hg; omega); replace hw4 := hw4.mod m1 (fun g hg => by cases hg; omega); replace hw5 := hw5.mod m1 (fun g hg => by cases hg; omega); replace hw6 := hw6.mod m1 (fun g hg => by cases hg; omega); replace hw7 := hw7.mod m1 (fun g hg => by cases hg; omega); replace hw8 := hw8.mod m1 (fun g hg => by cases hg; omega)
  have z5 := m1.size
  refine J_done ?_
  refine S_seq ?_
  refine S_seq ?_
  refine S_reg [true, false, true, true, true, true, false, true, true, true, true, true, true, true, true, true, true, true, true, true, true, true, true, true, true, true, true] rfl rfl ?_
  refine J_st (R_loadS st38 rfl h1.at rfl) rfl ?_
  refine J_call Try.call29 rfl (s_GraphOk [o1, .int .i64 g.workers, .int .i64 g.cap] g _ (Graph.mkR g (RdD.any (hd1.ext E)))) rfl (fun _ w6 e5 hv => ?_)
  subst hv
  replace E := E.trans e5; replace h1 := h1.ext e5; replace h2 := h2.ext e5; replace h3 := h3.ext e5; replace hw1 := hw1.ext e5; replace hw2 := hw2.ext e5; replace hw3 := hw3.ext e5; replace hw4 := hw4.ext e5; replace hw5 := hw5.ext e5; replace hw6 := hw6.ext e5; replace hw7 := hw7.ext e5; replace hw8 := hw8.ext e5
  have z6 := e5.size
  refine J_st (R_not rfl) rfl (J_st (R_move rfl) rfl ?_)
  refine J_cut 23 [(0, .agg [o1, .int .i64 g.workers, .int .i64 g.cap].toArray), (1, .agg [o2, o3, o4, o5, o6, o7, o8, o9].toArray), (2, .pointer (some ⟨b1, 0, none⟩)), (3, .pointer (some ⟨b2, 0, none⟩)), (4, .pointer (some ⟨b3, 0, none⟩)), (5, .bool false), (6, .agg [o2, o3, o4, o5, o6, o7, o8, o9].toArray), (7, .agg [o10, o11, o12, o13, o14, o15, o16, o17].toArray), (34, .bool (((((!(graphOk g)) || (!(workerOk g x))) || (decide (0 < ((x.staged.length : Nat) : Int)))) || (decide (0 < ((x.queue.length : Nat) : Int)))) || (((x.inputs.length : Nat) : Int) == 0)))] (fun w' => Ext w w' ∧ w6.heap.size ≤ w'.heap.size ∧ Blk w' b1 ([o1, .int .i64 g.workers, .int .i64 g.cap]) ∧ Blk w' b2 [o10, o11, o12, o13, o14, o15, o16, o17] ∧ Blk w' b3 [.slice none 0 0, .slice none 0 0, .slice none 0 0, .slice none 0 0, .slice none 0 0, .slice none 0 0, .slice none 0 0, .slice none 0 0] ∧ Own w' w3.heap.size w4.heap.size 5 o10 (List.flatMap (Enc.enc (α := Record)) x.queue) ∧ Own w' w3.heap.size w4.heap.size 5 o11 (List.flatMap (Enc.enc (α := Record)) x.staged) ∧ Own w' w3.heap.size w4.heap.size 5 o12 (List.flatMap (Enc.enc (α := Record)) x.inputs) ∧ Own w' w3.heap.size w4.heap.size 4 o13 (List.flatMap (Enc.enc (α := Cell)) x.cells) ∧ Own w' w3.heap.size w4.heap.size 1 o14 (List.flatMap (Enc.enc (α := Int)) x.sums) ∧ Own w' w3.heap.size w4.heap.size 1 o15 (List.flatMap (Enc.enc (α := Bool)) x.black) ∧ Own w' w3.heap.size w4.heap.size 1 o16 (List.flatMap (Enc.enc (α := Bool)) x.caps) ∧ Own w' w3.heap.size w4.heap.size 2 o17 (List.flatMap (Enc.enc (α := Done)) x.dones)) ?_ ?_
  · refine J_if (gd := 11) rfl rfl (fun hg1 => ?_) (fun hg1 => ?_)
    · refine J_gdno rfl rfl rfl rfl (J_gdno rfl rfl rfl rfl ?_)
      refine J_ungno rfl rfl rfl rfl ?_
      refine J_gdno rfl rfl rfl rfl (J_st (R_pickT rfl rfl) rfl (J_st (R_move rfl) rfl (J_gdno rfl rfl rfl rfl (J_gdno rfl rfl rfl rfl (J_gdno rfl rfl rfl rfl (J_gdno rfl rfl rfl rfl (J_st (R_pickT rfl rfl) rfl (J_st (R_move rfl) rfl (J_gdno rfl rfl rfl rfl (J_gdno rfl rfl rfl rfl (J_gdno rfl rfl rfl rfl (J_gdno rfl rfl rfl rfl (J_st (R_pickT rfl rfl) rfl (J_st (R_move rfl) rfl (J_gdno rfl rfl rfl rfl (J_gdno rfl rfl rfl rfl (J_gdno rfl rfl rfl rfl (J_gdno rfl rfl rfl rfl (J_st (R_pickT rfl rfl) rfl (J_cutEnd ⟨rfl, rfl, rfl, rfl, rfl, rfl, rfl, rfl, congrArg (fun b => some (Value.bool b)) (show true = (((((!(graphOk g)) || (!(workerOk g x))) || (decide (0 < ((x.staged.length : Nat) : Int)))) || (decide (0 < ((x.queue.length : Nat) : Int)))) || (((x.inputs.length : Nat) : Int) == 0)) by first | (rw [hg1] <;> rfl) | (simp [hg1]; done) | (simp only [nat_nlt] <;> simp)), trivial⟩ ⟨E, (by omega), h1, h2, h3, hw1, hw2, hw3, hw4, hw5, hw6, hw7, hw8⟩))))))))))))))))))))
    · refine J_gd rfl rfl (R_loadS st38 rfl h1.at rfl) rfl (J_gd rfl rfl (R_loadS st61 rfl h2.at rfl) rfl ?_)
      refine J_ung rfl rfl ?_
      refine J_call Try.call54 rfl (s_WorkerOk [o1, .int .i64 g.workers, .int .i64 g.cap] g [o10, o11, o12, o13, o14, o15, o16, o17] x _ (Graph.mkR g (RdD.any (hd1.ext E))) (Worker.mkR x (RdD.any (Own.rdD hw1)) (RdD.any (Own.rdD hw2)) (RdD.any (Own.rdD hw3)) (RdD.any (Own.rdD hw4)) (RdD.any (Own.rdD hw5)) (RdD.any (Own.rdD hw6)) (RdD.any (Own.rdD hw7)) (RdD.any (Own.rdD hw8)))) rfl (fun _ w8 e6 hv => ?_)
      subst hv
      replace E := E.trans e6; replace h1 := h1.ext e6; replace h2 := h2.ext e6; replace h3 := h3.ext e6; replace hw1 := hw1.ext e6; replace hw2 := hw2.ext e6; replace hw3 := hw3.ext e6; replace hw4 := hw4.ext e6; replace hw5 := hw5.ext e6; replace hw6 := hw6.ext e6; replace hw7 := hw7.ext e6; replace hw8 := hw8.ext e6
      have z7 := e6.size
      refine J_gd rfl rfl (R_not rfl) rfl (J_st (R_pickF rfl rfl) rfl (J_st (R_move rfl) rfl ?_))
      refine J_if (gd := 17) rfl rfl (fun hg2 => ?_) (fun hg2 => ?_)
      · refine J_gdno rfl rfl rfl rfl (J_gdno rfl rfl rfl rfl (J_gdno rfl rfl rfl rfl (J_gdno rfl rfl rfl rfl (J_st (R_pickT rfl rfl) rfl (J_st (R_move rfl) rfl (J_gdno rfl rfl rfl rfl (J_gdno rfl rfl rfl rfl (J_gdno rfl rfl rfl rfl (J_gdno rfl rfl rfl rfl (J_st (R_pickT rfl rfl) rfl (J_st (R_move rfl) rfl (J_gdno rfl rfl rfl rfl (J_gdno rfl rfl rfl rfl (J_gdno rfl rfl rfl rfl (J_gdno rfl rfl rfl rfl (J_st (R_pickT rfl rfl) rfl (J_cutEnd ⟨rfl, rfl, rfl, rfl, rfl, rfl, rfl, rfl, congrArg (fun b => some (Value.bool b)) (show true = (((((!(graphOk g)) || (!(workerOk g x))) || (decide (0 < ((x.staged.length : Nat) : Int)))) || (decide (0 < ((x.queue.length : Nat) : Int)))) || (((x.inputs.length : Nat) : Int) == 0)) by first | (rw [hg1, hg2] <;> rfl) | (simp [hg1, hg2]; done) | (simp only [nat_nlt] <;> simp)), trivial⟩ ⟨E, (by omega), h1, h2, h3, hw1, hw2, hw3, hw4, hw5, hw6, hw7, hw8⟩)))))))))))))))))
      · refine J_gd rfl rfl (R_fieldAddr0 fl61_1 rfl) rfl (J_gd rfl rfl (R_load sc33 rfl (h2.one 1 rfl)) rfl (J_gd rfl rfl (R_len Try.underlying33 rfl (Own.len (by decide) hw2)) rfl (J_gd rfl rfl (R_gtr rfl rfl) rfl (J_st (R_pickF rfl rfl) rfl (J_st (R_move rfl) rfl ?_)))))
        refine J_if (gd := 23) rfl rfl (fun hg3 => ?_) (fun hg3 => ?_)
        · have hg3n : x.staged.length > 0 := by first | (have h := of_decide_eq_true hg3; omega) | (have h := hg3; simp at h; omega)
          refine J_gdno rfl rfl rfl rfl (J_gdno rfl rfl rfl rfl (J_gdno rfl rfl rfl rfl (J_gdno rfl rfl rfl rfl (J_st (R_pickT rfl rfl) rfl (J_st (R_move rfl) rfl (J_gdno rfl rfl rfl rfl (J_gdno rfl rfl rfl rfl (J_gdno rfl rfl rfl rfl (J_gdno rfl rfl rfl rfl (J_st (R_pickT rfl rfl) rfl (J_cutEnd ⟨rfl, rfl, rfl, rfl, rfl, rfl, rfl, rfl, congrArg (fun b => some (Value.bool b)) (show true = (((((!(graphOk g)) || (!(workerOk g x))) || (decide (0 < ((x.staged.length : Nat) : Int)))) || (decide (0 < ((x.queue.length : Nat) : Int)))) || (((x.inputs.length : Nat) : Int) == 0)) by first | (rw [hg1, hg2, hg3] <;> rfl) | (simp [hg1, hg2, hg3]; done) | (simp only [nat_nlt] <;> simp)), trivial⟩ ⟨E, (by omega), h1, h2, h3, hw1, hw2, hw3, hw4, hw5, hw6, hw7, hw8⟩)))))))))))
        · have hg3n : ¬ x.staged.length > 0 := by first | (have h := of_decide_eq_false hg3; omega) | (have h := hg3; simp at h; omega)
          refine J_gd rfl rfl (R_fieldAddr0 fl61_0 rfl) rfl (J_gd rfl rfl (R_load sc33 rfl (h2.one 0 rfl)) rfl (J_gd rfl rfl (R_len Try.underlying33 rfl (Own.len (by decide) hw1)) rfl (J_gd rfl rfl (R_gtr rfl rfl) rfl (J_st (R_pickF rfl rfl) rfl (J_st (R_move rfl) rfl ?_)))))
          refine J_if (gd := 29) rfl rfl (fun hg4 => ?_) (fun hg4 => ?_)
          · have hg4n : x.queue.length > 0 := by first | (have h := of_decide_eq_true hg4; omega) | (have h := hg4; simp at h; omega)
            refine J_gdno rfl rfl rfl rfl (J_gdno rfl rfl rfl rfl (J_gdno rfl rfl rfl rfl (J_gdno rfl rfl rfl rfl (J_st (R_pickT rfl rfl) rfl (J_cutEnd ⟨rfl, rfl, rfl, rfl, rfl, rfl, rfl, rfl, congrArg (fun b => some (Value.bool b)) (show true = (((((!(graphOk g)) || (!(workerOk g x))) || (decide (0 < ((x.staged.length : Nat) : Int)))) || (decide (0 < ((x.queue.length : Nat) : Int)))) || (((x.inputs.length : Nat) : Int) == 0)) by first | (rw [hg1, hg2, hg3, hg4] <;> rfl) | (simp [hg1, hg2, hg3, hg4]; done) | (simp only [nat_nlt] <;> simp)), trivial⟩ ⟨E, (by omega), h1, h2, h3, hw1, hw2, hw3, hw4, hw5, hw6, hw7, hw8⟩)))))
          · have hg4n : ¬ x.queue.length > 0 := by first | (have h := of_decide_eq_false hg4; omega) | (have h := hg4; simp at h; omega)
            refine J_gd rfl rfl (R_fieldAddr0 fl61_2 rfl) rfl (J_gd rfl rfl (R_load sc33 rfl (h2.one 2 rfl)) rfl (J_gd rfl rfl (R_len Try.underlying33 rfl (Own.len (by decide) hw3)) rfl (J_gd rfl rfl (R_eql rfl rfl) rfl (J_st (R_pickF rfl rfl) rfl (J_cutEnd ⟨rfl, rfl, rfl, rfl, rfl, rfl, rfl, rfl, congrArg (fun b => some (Value.bool b)) (show (((x.inputs.length : Nat) : Int) == 0) = (((((!(graphOk g)) || (!(workerOk g x))) || (decide (0 < ((x.staged.length : Nat) : Int)))) || (decide (0 < ((x.queue.length : Nat) : Int)))) || (((x.inputs.length : Nat) : Int) == 0)) by first | (rw [hg1, hg2, hg3, hg4] <;> rfl) | (simp [hg1, hg2, hg3, hg4]; done) | (simp only [nat_nlt] <;> simp)), trivial⟩ ⟨E, (by omega), h1, h2, h3, hw1, hw2, hw3, hw4, hw5, hw6, hw7, hw8⟩)))))
  clear E h1 h2 h3 hw1 hw2 hw3 hw4 hw5 hw6 hw7 hw8
  rintro w7 ⟨E, z8, h1, h2, h3, hw1, hw2, hw3, hw4, hw5, hw6, hw7, hw8⟩
  refine J_done ?_
  refine S_cond rfl (fun hc1 => ?_) (fun hc1 => ?_)
  · refine S_seq ?_
    refine S_reg [true, false, true] rfl rfl ?_
    refine J_st (R_loadS st61 rfl h2.at rfl) rfl ?_
    refine J_storeS' (cs' := [o10, o11, o12, o13, o14, o15, o16, o17]) st61 rfl rfl rfl (all_cons hw1.one (all_cons hw2.one (all_cons hw3.one (all_cons hw4.one (all_cons hw5.one (all_cons hw6.one (all_cons hw7.one (all_cons hw8.one rfl)))))))) h3 (Nat.le_of_ble_eq_true rfl) rfl (fun w9 m2 h3' => ?_)
    replace h3 := h3'
    replace E := E.step m2 (fun g hg => by cases hg; omega); replace h1 := h1.mod m2 (fun g hg => by cases hg; omega); replace h2 := h2.mod m2 (fun g hg => by cases hg; omega); replace hw1 := hw1.mod m2 (fun g hg => by cases hg; omega); replace hw2 := hw2.mod m2 (fun g hg => by cases hg; omega); replace hw3 := hw3.mod m2 (fun g hg => by cases hg; omega); replace hw4 := hw4.mod m2 (fun g hg => by cases hg; omega); replace hw5 := hw5.mod m2 (fun g hg => by cases hg; omega); replace hw6 := hw6.mod m2 (fun g hg => by cases hg; omega); replace hw7 := hw7.mod m2 (fun g hg => by cases hg; omega); replace hw8 := hw8.mod m2 (fun g hg => by cases hg; omega)
    have z9 := m2.size
    refine J_st (R_assign rfl) rfl (J_done ?_)
    refine S_ret (E_doneN (l := [.cell 4 61, .tmp 5]) (vs := [.agg [o10, o11, o12, o13, o14, o15, o16, o17].toArray, .bool false]) rfl ⟨.cell rfl (run_loadVar_st st61 h3.at rfl), .tmp rfl, trivial⟩ rfl E ?_)
    rw [take_no hc1]
    exact ⟨_, rfl, (Worker.mkO x sp1 (Own.widen hw1 (by omega) (by omega)) (Own.widen hw2 (by omega) (by omega)) (Own.widen hw3 (by omega) (by omega)) (Own.widen hw4 (by omega) (by omega)) (Own.widen hw5 (by omega) (by omega)) (Own.widen hw6 (by omega) (by omega)) (Own.widen hw7 (by omega) (by omega)) (Own.widen hw8 (by omega) (by omega)))⟩
  · have htl := take_lt hc1
    refine S_skip ?_
    refine S_seq ?_
    refine S_regX mixed [7] [(0, true), (1, true), (2, true), (3, true), (4, true), (5, true), (6, false)] [(7, false), (8, true), (9, false)] (by decide +kernel) rfl rfl (fun w10 e7 => ?_)
    replace E := E.trans e7; replace h1 := h1.ext e7; replace h2 := h2.ext e7; replace h3 := h3.ext e7; replace hw1 := hw1.ext e7; replace hw2 := hw2.ext e7; replace hw3 := hw3.ext e7; replace hw4 := hw4.ext e7; replace hw5 := hw5.ext e7; replace hw6 := hw6.ext e7; replace hw7 := hw7.ext e7; replace hw8 := hw8.ext e7
    have z10 := e7.size
    refine J_st (R_fieldAddr0 fl61_0 rfl) rfl (J_st (R_load sc33 rfl (h2.one 0 rfl)) rfl (J_st (R_fieldAddr0 fl61_2 rfl) rfl (J_st (R_load sc33 rfl (h2.one 2 rfl)) rfl ?_)))
    have hi1 : 0 < x.inputs.length := (by first | assumption | omega)
    refine J_st (R_index (i := 0) sl33 rfl rfl (Own.rd (by decide) hw3) hi1) rfl (J_st (R_loadS st43 rfl ((Own.rd (by decide) hw3).get hi1) rfl) rfl ?_)
    refine J_buildSlice (vs := [.agg (Enc.enc (x.inputs[0]'hi1)).toArray]) (css := [[.int .i64 ((x.inputs[0]'hi1).op), .int .i64 (((x.inputs[0]'hi1).stamp).epoch), .int .i64 (((x.inputs[0]'hi1).stamp).turn), .int .i64 ((x.inputs[0]'hi1).key), .int .i64 ((x.inputs[0]'hi1).val)]]) sl33 rfl rfl ⟨⟨rfl, rfl⟩, trivial⟩ rfl rfl (fun b4 w11 e8 s4 h4 => ?_)
    replace h4 : Blk w11 b4 [.int .i64 ((x.inputs[0]'hi1).op), .int .i64 (((x.inputs[0]'hi1).stamp).epoch), .int .i64 (((x.inputs[0]'hi1).stamp).turn), .int .i64 ((x.inputs[0]'hi1).key), .int .i64 ((x.inputs[0]'hi1).val)] := h4
    have g_b4 : w.heap.size ≤ b4 := by have := E.size; omega
    have y_b4 := h4.lt
    replace E := E.trans e8; replace h1 := h1.ext e8; replace h2 := h2.ext e8; replace h3 := h3.ext e8; replace hw1 := hw1.ext e8; replace hw2 := hw2.ext e8; replace hw3 := hw3.ext e8; replace hw4 := hw4.ext e8; replace hw5 := hw5.ext e8; replace hw6 := hw6.ext e8; replace hw7 := hw7.ext e8; replace hw8 := hw8.ext e8
    have z11 := e8.size
    refine JX_tail ?_
    refine J2_X rfl ?_
    refine J_appendB sl33 rfl rfl hw1 (Src.ofBlk h4 rfl) rfl (by unfold cntWorker at hb; simp only [sum_flat, List.length_nil, List.length_cons, List.length_drop]; simp only [Enc.sz]; omega) (by decide) (by omega) (by omega) rfl rfl (fun v1 w12 m3 ho2 hb1 => ?_)
    have hn1 : ∀ g, Value.ownBlock v1 = some g → g < w4.heap.size ∨ w11.heap.size ≤ g := fun g hg => (hb1 g hg).elim (fun h => .inl (by have := Own.blk hw1 g h; omega)) (fun h => .inr h)
    have sq1 := sp1
    replace sp1 := SepL.set hb1 0 rfl sp1 ⟨(Own.lt hw1), (Own.lt hw2), (Own.lt hw3), (Own.lt hw4), (Own.lt hw5), (Own.lt hw6), (Own.lt hw7), (Own.lt hw8), trivial⟩
    replace sp1 : SepL [v1, o11, o12, o13, o14, o15, o16, o17] := sp1
    replace E := E.step m3 (fun g hg => by have := Own.blk hw1 g hg; omega); replace h1 := h1.mod m3 (fun g hg => by have := Own.blk hw1 g hg; omega); replace h2 := h2.mod m3 (fun g hg => by have := Own.blk hw1 g hg; omega); replace h3 := h3.mod m3 (fun g hg => by have := Own.blk hw1 g hg; omega); replace hw2 := Own.modS hw2 m3 sq1.1.1; replace hw3 := Own.modS hw3 m3 sq1.1.2.1; replace hw4 := Own.modS hw4 m3 sq1.1.2.2.1; replace hw5 := Own.modS hw5 m3 sq1.1.2.2.2.1; replace hw6 := Own.modS hw6 m3 sq1.1.2.2.2.2.1; replace hw7 := Own.modS hw7 m3 sq1.1.2.2.2.2.2.1; replace hw8 := Own.modS hw8 m3 sq1.1.2.2.2.2.2.2.1
    have z12 := m3.size
    replace ho2 : Own w12 w3.heap.size w12.heap.size 5 v1 (List.flatMap (Enc.enc (α := Record)) (x.queue ++ [(x.inputs[0]'hi1)])) := by rw [List.flatMap_append]; exact ho2
    refine JX_go ?_
    refine J_st (R_fieldAddr0 fl61_0 rfl) rfl ?_
    refine J_store' (cs' := [v1, o11, o12, o13, o14, o15, o16, o17]) sc33 rfl rfl ho2.one h2 (Nat.le_of_ble_eq_true rfl) rfl (fun w13 m4 h2' => ?_)
    replace h2 := h2'
    replace E := E.step m4 (fun g hg => by cases hg; omega); replace h1 := h1.mod m4 (fun g hg => by cases hg; omega); replace h3 := h3.mod m4 (fun g hg => by cases hg; omega); replace hw2 := hw2.mod m4 (fun g hg => by cases hg; omega); replace hw3 := hw3.mod m4 (fun g hg => by cases hg; omega); replace hw4 := hw4.mod m4 (fun g hg => by cases hg; omega); replace hw5 := hw5.mod m4 (fun g hg => by cases hg; omega); replace hw6 := hw6.mod m4 (fun g hg => by cases hg; omega); replace hw7 := hw7.mod m4 (fun g hg => by cases hg; omega); replace hw8 := hw8.mod m4 (fun g hg => by cases hg; omega); replace ho2 := Own.modN ho2 m4 (fun g hg hv => by have hN := hn1 g hv; have hB := Own.blk ho2 g hv; cases hg; omega)
    have z13 := m4.size
    refine J_done ?_
    refine S_seq ?_
    refine S_reg [false, true, true, true, false, true, false] rfl rfl ?_
    refine J_buildSlice (vs := []) (css := []) sl33 rfl rfl trivial rfl rfl (fun b5 w14 e9 s5 h5 => ?_)
    replace h5 : Blk w14 b5 [] := h5
    have g_b5 : w.heap.size ≤ b5 := by have := E.size; omega
    have y_b5 := h5.lt
    replace E := E.trans e9; replace h1 := h1.ext e9; replace h2 := h2.ext e9; replace h3 := h3.ext e9; replace hw2 := hw2.ext e9; replace hw3 := hw3.ext e9; replace hw4 := hw4.ext e9; replace hw5 := hw5.ext e9; replace hw6 := hw6.ext e9; replace hw7 := hw7.ext e9; replace hw8 := hw8.ext e9; replace ho2 := ho2.ext e9
    have z14 := e9.size
    refine J_st (R_fieldAddr0 fl61_2 rfl) rfl (J_st (R_load sc33 rfl (h2.one 2 rfl)) rfl ?_)
    have hk1 : 1 ≤ x.inputs.length := by first | assumption | omega
    have hs1 := Own.slFromE (α := Record) hw3 hk1
    replace hs1 : Own w14 w3.heap.size w4.heap.size 5 (slFrom o12 1 5) (List.flatMap (Enc.enc (α := Record)) (List.drop 1 x.inputs)) := hs1
    have hb2 : Become w14 o12 (slFrom o12 1 5) := fun g hg => .inl (by rwa [slFrom_blk] at hg)
    replace sp1 := SepL.set hb2 2 rfl sp1 ⟨(Own.lt ho2), (Own.lt hw2), (Own.lt hw3), (Own.lt hw4), (Own.lt hw5), (Own.lt hw6), (Own.lt hw7), (Own.lt hw8), trivial⟩
    replace sp1 : SepL [v1, o11, slFrom o12 1 5, o13, o14, o15, o16, o17] := sp1
    refine J_st (R_sliceFrom sl33 rfl rfl (Own.roomE (α := Record) hw3) hk1) rfl ?_
    refine J_append sl33 rfl rfl (Own.ofBlk (lo := b5) (hi := b5 + 1) (sz := 5) h5 (Nat.le_refl _) (Nat.lt_succ_self _) (by simp) (by simp [maxLen])) (Own.src hs1) (flat_one _) (by unfold cntWorker at hb; simp only [sum_flat, List.length_nil, List.length_cons, List.length_drop]; simp only [Enc.sz]; omega) (by decide) (by omega) (by omega) rfl rfl (fun v2 w15 m5 ho3 => ?_)
    replace E := E.step m5 (fun g hg => by have := Own.blk (Own.ofBlk (lo := b5) (hi := b5 + 1) (sz := 5) h5 (Nat.le_refl _) (Nat.lt_succ_self _) (by simp) (by simp [maxLen])) g hg; omega); replace h1 := h1.mod m5 (fun g hg => by have := Own.blk (Own.ofBlk (lo := b5) (hi := b5 + 1) (sz := 5) h5 (Nat.le_refl _) (Nat.lt_succ_self _) (by simp) (by simp [maxLen])) g hg; omega); replace h2 := h2.mod m5 (fun g hg => by have := Own.blk (Own.ofBlk (lo := b5) (hi := b5 + 1) (sz := 5) h5 (Nat.le_refl _) (Nat.lt_succ_self _) (by simp) (by simp [maxLen])) g hg; omega); replace h3 := h3.mod m5 (fun g hg => by have := Own.blk (Own.ofBlk (lo := b5) (hi := b5 + 1) (sz := 5) h5 (Nat.le_refl _) (Nat.lt_succ_self _) (by simp) (by simp [maxLen])) g hg; omega); replace hw2 := hw2.mod m5 (fun g hg => by have := Own.blk (Own.ofBlk (lo := b5) (hi := b5 + 1) (sz := 5) h5 (Nat.le_refl _) (Nat.lt_succ_self _) (by simp) (by simp [maxLen])) g hg; omega); replace hw4 := hw4.mod m5 (fun g hg => by have := Own.blk (Own.ofBlk (lo := b5) (hi := b5 + 1) (sz := 5) h5 (Nat.le_refl _) (Nat.lt_succ_self _) (by simp) (by simp [maxLen])) g hg; omega); replace hw5 := hw5.mod m5 (fun g hg => by have := Own.blk (Own.ofBlk (lo := b5) (hi := b5 + 1) (sz := 5) h5 (Nat.le_refl _) (Nat.lt_succ_self _) (by simp) (by simp [maxLen])) g hg; omega); replace hw6 := hw6.mod m5 (fun g hg => by have := Own.blk (Own.ofBlk (lo := b5) (hi := b5 + 1) (sz := 5) h5 (Nat.le_refl _) (Nat.lt_succ_self _) (by simp) (by simp [maxLen])) g hg; omega); replace hw7 := hw7.mod m5 (fun g hg => by have := Own.blk (Own.ofBlk (lo := b5) (hi := b5 + 1) (sz := 5) h5 (Nat.le_refl _) (Nat.lt_succ_self _) (by simp) (by simp [maxLen])) g hg; omega); replace hw8 := hw8.mod m5 (fun g hg => by have := Own.blk (Own.ofBlk (lo := b5) (hi := b5 + 1) (sz := 5) h5 (Nat.le_refl _) (Nat.lt_succ_self _) (by simp) (by simp [maxLen])) g hg; omega); replace ho2 := Own.modN ho2 m5 (fun g hg hv => by have hN := hn1 g hv; have hB := Own.blk ho2 g hv; have := Own.blk (Own.ofBlk (lo := b5) (hi := b5 + 1) (sz := 5) h5 (Nat.le_refl _) (Nat.lt_succ_self _) (by simp) (by simp [maxLen])) g hg; omega); replace hs1 := hs1.mod m5 (fun g hg => by have := Own.blk (Own.ofBlk (lo := b5) (hi := b5 + 1) (sz := 5) h5 (Nat.le_refl _) (Nat.lt_succ_self _) (by simp) (by simp [maxLen])) g hg; omega)
    have z15 := m5.size
    refine J_st (R_fieldAddr0 fl61_2 rfl) rfl ?_
    refine J_store' (cs' := [v1, o11, v2, o13, o14, o15, o16, o17]) sc33 rfl rfl ho3.one h2 (Nat.le_of_ble_eq_true rfl) rfl (fun w16 m6 h2' => ?_)
    replace h2 := h2'
    replace E := E.step m6 (fun g hg => by cases hg; omega); replace h1 := h1.mod m6 (fun g hg => by cases hg; omega); replace h3 := h3.mod m6 (fun g hg => by cases hg; omega); replace hw2 := hw2.mod m6 (fun g hg => by cases hg; omega); replace hw4 := hw4.mod m6 (fun g hg => by cases hg; omega); replace hw5 := hw5.mod m6 (fun g hg => by cases hg; omega); replace hw6 := hw6.mod m6 (fun g hg => by cases hg; omega); replace hw7 := hw7.mod m6 (fun g hg => by cases hg; omega); replace hw8 := hw8.mod m6 (fun g hg => by cases hg; omega); replace ho2 := Own.modN ho2 m6 (fun g hg hv => by have hN := hn1 g hv; have hB := Own.blk ho2 g hv; cases hg; omega); replace hs1 := hs1.mod m6 (fun g hg => by cases hg; omega); replace ho3 := ho3.mod m6 (fun g hg => by cases hg; omega)
    have z16 := m6.size
    refine J_done ?_
    refine S_seq ?_
    refine S_reg [true, false, true] rfl rfl ?_
    refine J_st (R_loadS st61 rfl h2.at rfl) rfl ?_
    refine J_storeS' (cs' := [v1, o11, v2, o13, o14, o15, o16, o17]) st61 rfl rfl rfl (all_cons ho2.one (all_cons hw2.one (all_cons ho3.one (all_cons hw4.one (all_cons hw5.one (all_cons hw6.one (all_cons hw7.one (all_cons hw8.one rfl)))))))) h3 (Nat.le_of_ble_eq_true rfl) rfl (fun w17 m7 h3' => ?_)
    replace h3 := h3'
    replace E := E.step m7 (fun g hg => by cases hg; omega); replace h1 := h1.mod m7 (fun g hg => by cases hg; omega); replace h2 := h2.mod m7 (fun g hg => by cases hg; omega); replace hw2 := hw2.mod m7 (fun g hg => by cases hg; omega); replace hw4 := hw4.mod m7 (fun g hg => by cases hg; omega); replace hw5 := hw5.mod m7 (fun g hg => by cases hg; omega); replace hw6 := hw6.mod m7 (fun g hg => by cases hg; omega); replace hw7 := hw7.mod m7 (fun g hg => by cases hg; omega); replace hw8 := hw8.mod m7 (fun g hg => by cases hg; omega); replace ho2 := Own.modN ho2 m7 (fun g hg hv => by have hN := hn1 g hv; have hB := Own.blk ho2 g hv; cases hg; omega); replace hs1 := hs1.mod m7 (fun g hg => by cases hg; omega); replace ho3 := ho3.mod m7 (fun g hg => by cases hg; omega)
    have z17 := m7.size
    refine J_st (R_assign rfl) rfl (J_done ?_)
    refine S_ret (E_doneN (l := [.cell 4 61, .tmp 5]) (vs := [.agg [v1, o11, v2, o13, o14, o15, o16, o17].toArray, .bool true]) rfl ⟨.cell rfl (run_loadVar_st st61 h3.at rfl), .tmp rfl, trivial⟩ rfl E ?_)
    rw [take_yes hc1 htl]
    exact ⟨_, rfl, (Worker.mkO (⟨x.queue ++ [(x.inputs[0]'hi1)], x.staged, [] ++ (List.drop 1 x.inputs), x.cells, x.sums, x.black, x.caps, x.dones⟩ : Worker) ⟨⟨sp1.1.1, ⟨(fun g hg he => by have := Own.blk ho2 g hg; have := Own.blk ho3 g he; have := hn1 g hg; omega), ⟨sp1.1.2.2.1, ⟨sp1.1.2.2.2.1, ⟨sp1.1.2.2.2.2.1, ⟨sp1.1.2.2.2.2.2.1, ⟨sp1.1.2.2.2.2.2.2.1, trivial⟩⟩⟩⟩⟩⟩⟩, ⟨⟨(Own.sep hw2 ho3 (by omega)), ⟨sp1.2.1.2.1, ⟨sp1.2.1.2.2.1, ⟨sp1.2.1.2.2.2.1, ⟨sp1.2.1.2.2.2.2.1, ⟨sp1.2.1.2.2.2.2.2.1, trivial⟩⟩⟩⟩⟩⟩, ⟨⟨(Own.sep ho3 hw4 (by omega)), ⟨(Own.sep ho3 hw5 (by omega)), ⟨(Own.sep ho3 hw6 (by omega)), ⟨(Own.sep ho3 hw7 (by omega)), ⟨(Own.sep ho3 hw8 (by omega)), trivial⟩⟩⟩⟩⟩, ⟨⟨sp1.2.2.2.1.1, ⟨sp1.2.2.2.1.2.1, ⟨sp1.2.2.2.1.2.2.1, ⟨sp1.2.2.2.1.2.2.2.1, trivial⟩⟩⟩⟩, ⟨⟨sp1.2.2.2.2.1.1, ⟨sp1.2.2.2.2.1.2.1, ⟨sp1.2.2.2.2.1.2.2.1, trivial⟩⟩⟩, ⟨⟨sp1.2.2.2.2.2.1.1, ⟨sp1.2.2.2.2.2.1.2.1, trivial⟩⟩, ⟨⟨sp1.2.2.2.2.2.2.1.1, trivial⟩, ⟨trivial, trivial⟩⟩⟩⟩⟩⟩⟩⟩ (Own.widen ho2 (by omega) (by omega)) (Own.widen hw2 (by omega) (by omega)) (Own.widen ho3 (by omega) (by omega)) (Own.widen hw4 (by omega) (by omega)) (Own.widen hw5 (by omega) (by omega)) (Own.widen hw6 (by omega) (by omega)) (Own.widen hw7 (by omega) (by omega)) (Own.widen hw8 (by omega) (by omega)))⟩

set_option maxHeartbeats 4000000 in
set_option maxRecDepth 20000 in
theorem c_TakeInput (cg : List Value) (g : Graph) (cx : List Value) (x : Worker) (w : World) (hg : Dat.R w 0 w.heap.size cg g) (hx : Dat.R w 0 w.heap.size cx x) (hb : cntWorker x ≤ 1048576) : Ct Try.prog 23 [.agg cg.toArray, .agg cx.toArray] w (fun v w' => ∃ c0, v = .tuple [.agg c0.toArray, .bool ((takeM g x).2)].toArray ∧ Own1.O w' w.heap.size w'.heap.size c0 ((takeM g x).1)) := by
  refine ct_of Try.func23 rfl Try.ntmps23 rfl ?_
  obtain ⟨o1, rfl, hd1⟩ := Graph.op hg
  obtain ⟨o2, o3, o4, o5, o6, o7, o8, o9, rfl, hd2, hd3, hd4, hd5, hd6, hd7, hd8, hd9⟩ := Worker.op hx
  refine S_sub [(0, .agg [o1, .int .i64 g.workers, .int .i64 g.cap].toArray), (1, .agg [o2, o3, o4, o5, o6, o7, o8, o9].toArray)] ⟨rfl, rfl, trivial⟩ ?_
  have E : Ext w w := Ext.refl w
  refine S_seq ?_
  refine S_reg [false, false, false, true] rfl rfl ?_
  refine J_box rfl rfl (fun b1 w1 e1 s1 h1 => ?_)
  have g_b1 : w.heap.size ≤ b1 := by have := E.size; omega
  have y_b1 := h1.lt
  replace E := E.trans e1
  have z1 := e1.size
  refine J_box rfl rfl (fun b2 w2 e2 s2 h2 => ?_)
  have g_b2 : w.heap.size ≤ b2 := by have := E.size; omega
  have y_b2 := h2.lt
  replace E := E.trans e2; replace h1 := h1.ext e2
  have z2 := e2.size
  refine J_alloc st61 rfl (fun b3 w3 e3 s3 h3 => ?_)
  have g_b3 : w.heap.size ≤ b3 := by have := E.size; omega
  have y_b3 := h3.lt
  replace E := E.trans e3; replace h1 := h1.ext e3; replace h2 := h2.ext e3
  have z3 := e3.size
  refine J_st (R_assign rfl) rfl (J_done ?_)
  refine S_seq ?_
  refine S_reg [true, false, false, false] rfl rfl ?_
  refine J_st (R_loadS st61 rfl h2.at rfl) rfl ?_
  refine J_call Try.call59 rfl (c_copyWorker [o2, o3, o4, o5, o6, o7, o8, o9] x _ (Worker.mkR x (RdD.any (hd2.ext E)) (RdD.any (hd3.ext E)) (RdD.any (hd4.ext E)) (RdD.any (hd5.ext E)) (RdD.any (hd6.ext E)) (RdD.any (hd7.ext E)) (RdD.any (hd8.ext E)) (RdD.any (hd9.ext E))) (by first | omega | (simp only [mkL_length]; omega) | (rw [mkL_length]; done) | (simp only [mkL_length]; done))) rfl (fun _ w4 e4 ho1 => ?_)
  obtain ⟨_, rfl, ho1⟩ := ho1
  have g_ho1 : w.heap.size ≤ w3.heap.size := E.size
  replace E := E.trans e4; replace h1 := h1.ext e4; replace h2 := h2.ext e4; replace h3 := h3.ext e4
  have z4 := e4.size
  obtain ⟨o10, o11, o12, o13, o14, o15, o16, o17, rfl, sp1, hw1, hw2, hw3, hw4, hw5, hw6, hw7, hw8⟩ := Worker.opO ho1
  refine J_alloc st61 rfl (fun b4 w5 e5 s4 h4 => ?_)
  have g_b4 : w.heap.size ≤ b4 := by have := E.size; omega
  have y_b4 := h4.lt
  replace E := E.trans e5; replace h1 := h1.ext e5; replace h2 := h2.ext e5; replace h3 := h3.ext e5; replace hw1 := hw1.ext e5; replace hw2 := hw2.ext e5; replace hw3 := hw3.ext e5; replace hw4 := hw4.ext e5; replace hw5 := hw5.ext e5; replace hw6 := hw6.ext e5; replace hw7 := hw7.ext e5; replace hw8 := hw8.ext e5
  have z5 := e5.size
  refine J_storeS' (cs' := [o10, o11, o12, o13, o14, o15, o16, o17]) st61 rfl rfl rfl (all_cons hw1.one (all_cons hw2.one (all_cons hw3.one (all_cons hw4.one (all_cons hw5.one (all_cons hw6.one (all_cons hw7.one (all_cons hw8.one rfl)))))))) h4 (Nat.le_of_ble_eq_true rfl) rfl (fun w6 m1 h4' => ?_)
  replace h4 := h4'
  replace E := E.step m1 (fun g hg => by cases hg; omega); replace h1 := h1.mod m1 (fun g hg => by cases hg; omega); replace h2 := h2.mod m1 (fun g hg => by cases hg; omega); replace h3 := h3.mod m1 (fun g hg => by cases hg; omega); replace hw1 := hw1.mod m1 (fun g hg => by cases hg; omega); replace hw2 := hw2.mod m1 (fun g hg => by cases hg; omega); replace hw3 := hw3.mod m1 (fun g hg => by cases hg; omega); replace hw4 := hw4.mod m1 (fun g hg => by cases hg; omega); replace hw5 := hw5.mod m1 (fun g hg => by cases hg; omega); replace hw6 := hw6.mod m1 (fun g hg => by cases hg; omega); replace hw7 := hw7.mod m1 (fun g hg => by cases hg; omega); replace hw8 := hw8.mod m1 (fun g hg => by cases hg; omega)
  have z6 := m1.size
  refine J_done ?_
  refine S_seq ?_
  refine S_seq ?_
  refine S_reg [true, false, true, true, true, true, false, true, true, true, true, true, true, true, true, true, true, true, true, true, true, true, true, true, true, true, true] rfl rfl ?_
  refine J_st (R_loadS st38 rfl h1.at rfl) rfl ?_
  refine J_call Try.call38 rfl (c_GraphOk [o1, .int .i64 g.workers, .int .i64 g.cap] g _ (Graph.mkR g (RdD.any (hd1.ext E)))) rfl (fun _ w7 e6 hv => ?_)
  subst hv
  replace E := E.trans e6; replace h1 := h1.ext e6; replace h2 := h2.ext e6; replace h3 := h3.ext e6; replace hw1 := hw1.ext e6; replace hw2 := hw2.ext e6; replace hw3 := hw3.ext e6; replace hw4 := hw4.ext e6; replace hw5 := hw5.ext e6; replace hw6 := hw6.ext e6; replace hw7 := hw7.ext e6; replace hw8 := hw8.ext e6; replace h4 := h4.ext e6
  have z7 := e6.size
  refine J_st (R_not rfl) rfl (J_st (R_move rfl) rfl ?_)
  refine J_cut 23 [(0, .agg [o1, .int .i64 g.workers, .int .i64 g.cap].toArray), (1, .agg [o2, o3, o4, o5, o6, o7, o8, o9].toArray), (2, .pointer (some ⟨b1, 0, none⟩)), (3, .pointer (some ⟨b2, 0, none⟩)), (4, .pointer (some ⟨b3, 0, none⟩)), (5, .bool false), (6, .pointer (some ⟨b4, 0, none⟩)), (7, .agg [o2, o3, o4, o5, o6, o7, o8, o9].toArray), (8, .agg [o10, o11, o12, o13, o14, o15, o16, o17].toArray), (35, .bool (((((!(graphOk g)) || (!(workerOk g x))) || (decide (0 < ((x.staged.length : Nat) : Int)))) || (decide (0 < ((x.queue.length : Nat) : Int)))) || (((x.inputs.length : Nat) : Int) == 0)))] (fun w' => Ext w w' ∧ w7.heap.size ≤ w'.heap.size ∧ Blk w' b1 ([o1, .int .i64 g.workers, .int .i64 g.cap]) ∧ Blk w' b2 ([o2, o3, o4, o5, o6, o7, o8, o9]) ∧ Blk w' b3 [.slice none 0 0, .slice none 0 0, .slice none 0 0, .slice none 0 0, .slice none 0 0, .slice none 0 0, .slice none 0 0, .slice none 0 0] ∧ Own w' w3.heap.size w4.heap.size 5 o10 (List.flatMap (Enc.enc (α := Record)) x.queue) ∧ Own w' w3.heap.size w4.heap.size 5 o11 (List.flatMap (Enc.enc (α := Record)) x.staged) ∧ Own w' w3.heap.size w4.heap.size 5 o12 (List.flatMap (Enc.enc (α := Record)) x.inputs) ∧ Own w' w3.heap.size w4.heap.size 4 o13 (List.flatMap (Enc.enc (α := Cell)) x.cells) ∧ Own w' w3.heap.size w4.heap.size 1 o14 (List.flatMap (Enc.enc (α := Int)) x.sums) ∧ Own w' w3.heap.size w4.heap.size 1 o15 (List.flatMap (Enc.enc (α := Bool)) x.black) ∧ Own w' w3.heap.size w4.heap.size 1 o16 (List.flatMap (Enc.enc (α := Bool)) x.caps) ∧ Own w' w3.heap.size w4.heap.size 2 o17 (List.flatMap (Enc.enc (α := Done)) x.dones) ∧ Blk w' b4 [o10, o11, o12, o13, o14, o15, o16, o17]) ?_ ?_
  · refine J_if (gd := 12) rfl rfl (fun hg1 => ?_) (fun hg1 => ?_)
    · refine J_gdno rfl rfl rfl rfl (J_gdno rfl rfl rfl rfl ?_)
      refine J_ungno rfl rfl rfl rfl ?_
      refine J_gdno rfl rfl rfl rfl (J_st (R_pickT rfl rfl) rfl (J_st (R_move rfl) rfl (J_gdno rfl rfl rfl rfl (J_gdno rfl rfl rfl rfl (J_gdno rfl rfl rfl rfl (J_gdno rfl rfl rfl rfl (J_st (R_pickT rfl rfl) rfl (J_st (R_move rfl) rfl (J_gdno rfl rfl rfl rfl (J_gdno rfl rfl rfl rfl (J_gdno rfl rfl rfl rfl (J_gdno rfl rfl rfl rfl (J_st (R_pickT rfl rfl) rfl (J_st (R_move rfl) rfl (J_gdno rfl rfl rfl rfl (J_gdno rfl rfl rfl rfl (J_gdno rfl rfl rfl rfl (J_gdno rfl rfl rfl rfl (J_st (R_pickT rfl rfl) rfl (J_cutEnd ⟨rfl, rfl, rfl, rfl, rfl, rfl, rfl, rfl, rfl, congrArg (fun b => some (Value.bool b)) (show true = (((((!(graphOk g)) || (!(workerOk g x))) || (decide (0 < ((x.staged.length : Nat) : Int)))) || (decide (0 < ((x.queue.length : Nat) : Int)))) || (((x.inputs.length : Nat) : Int) == 0)) by first | (rw [hg1] <;> rfl) | (simp [hg1]; done) | (simp only [nat_nlt] <;> simp)), trivial⟩ ⟨E, (by omega), h1, h2, h3, hw1, hw2, hw3, hw4, hw5, hw6, hw7, hw8, h4⟩))))))))))))))))))))
    · refine J_gd rfl rfl (R_loadS st38 rfl h1.at rfl) rfl (J_gd rfl rfl (R_loadS st61 rfl h2.at rfl) rfl ?_)
      refine J_ung rfl rfl ?_
      refine J_call Try.call60 rfl (c_WorkerOk [o1, .int .i64 g.workers, .int .i64 g.cap] g [o2, o3, o4, o5, o6, o7, o8, o9] x _ (Graph.mkR g (RdD.any (hd1.ext E))) (Worker.mkR x (RdD.any (hd2.ext E)) (RdD.any (hd3.ext E)) (RdD.any (hd4.ext E)) (RdD.any (hd5.ext E)) (RdD.any (hd6.ext E)) (RdD.any (hd7.ext E)) (RdD.any (hd8.ext E)) (RdD.any (hd9.ext E)))) rfl (fun _ w9 e7 hv => ?_)
      subst hv
      replace E := E.trans e7; replace h1 := h1.ext e7; replace h2 := h2.ext e7; replace h3 := h3.ext e7; replace hw1 := hw1.ext e7; replace hw2 := hw2.ext e7; replace hw3 := hw3.ext e7; replace hw4 := hw4.ext e7; replace hw5 := hw5.ext e7; replace hw6 := hw6.ext e7; replace hw7 := hw7.ext e7; replace hw8 := hw8.ext e7; replace h4 := h4.ext e7
      have z8 := e7.size
      refine J_gd rfl rfl (R_not rfl) rfl (J_st (R_pickF rfl rfl) rfl (J_st (R_move rfl) rfl ?_))
      refine J_if (gd := 18) rfl rfl (fun hg2 => ?_) (fun hg2 => ?_)
      · refine J_gdno rfl rfl rfl rfl (J_gdno rfl rfl rfl rfl (J_gdno rfl rfl rfl rfl (J_gdno rfl rfl rfl rfl (J_st (R_pickT rfl rfl) rfl (J_st (R_move rfl) rfl (J_gdno rfl rfl rfl rfl (J_gdno rfl rfl rfl rfl (J_gdno rfl rfl rfl rfl (J_gdno rfl rfl rfl rfl (J_st (R_pickT rfl rfl) rfl (J_st (R_move rfl) rfl (J_gdno rfl rfl rfl rfl (J_gdno rfl rfl rfl rfl (J_gdno rfl rfl rfl rfl (J_gdno rfl rfl rfl rfl (J_st (R_pickT rfl rfl) rfl (J_cutEnd ⟨rfl, rfl, rfl, rfl, rfl, rfl, rfl, rfl, rfl, congrArg (fun b => some (Value.bool b)) (show true = (((((!(graphOk g)) || (!(workerOk g x))) || (decide (0 < ((x.staged.length : Nat) : Int)))) || (decide (0 < ((x.queue.length : Nat) : Int)))) || (((x.inputs.length : Nat) : Int) == 0)) by first | (rw [hg1, hg2] <;> rfl) | (simp [hg1, hg2]; done) | (simp only [nat_nlt] <;> simp)), trivial⟩ ⟨E, (by omega), h1, h2, h3, hw1, hw2, hw3, hw4, hw5, hw6, hw7, hw8, h4⟩)))))))))))))))))
      · refine J_gd rfl rfl (R_fieldAddr0 fl61_1 rfl) rfl (J_gd rfl rfl (R_load sc33 rfl (h2.one 1 rfl)) rfl (J_gd rfl rfl (R_len Try.underlying33 rfl (hd3.ext E).len) rfl (J_gd rfl rfl (R_gtr rfl rfl) rfl (J_st (R_pickF rfl rfl) rfl (J_st (R_move rfl) rfl ?_)))))
        refine J_if (gd := 24) rfl rfl (fun hg3 => ?_) (fun hg3 => ?_)
        · have hg3n : x.staged.length > 0 := by first | (have h := of_decide_eq_true hg3; omega) | (have h := hg3; simp at h; omega)
          refine J_gdno rfl rfl rfl rfl (J_gdno rfl rfl rfl rfl (J_gdno rfl rfl rfl rfl (J_gdno rfl rfl rfl rfl (J_st (R_pickT rfl rfl) rfl (J_st (R_move rfl) rfl (J_gdno rfl rfl rfl rfl (J_gdno rfl rfl rfl rfl (J_gdno rfl rfl rfl rfl (J_gdno rfl rfl rfl rfl (J_st (R_pickT rfl rfl) rfl (J_cutEnd ⟨rfl, rfl, rfl, rfl, rfl, rfl, rfl, rfl, rfl, congrArg (fun b => some (Value.bool b)) (show true = (((((!(graphOk g)) || (!(workerOk g x))) || (decide (0 < ((x.staged.length : Nat) : Int)))) || (decide (0 < ((x.queue.length : Nat) : Int)))) || (((x.inputs.length : Nat) : Int) == 0)) by first | (rw [hg1, hg2, hg3] <;> rfl) | (simp [hg1, hg2, hg3]; done) | (simp only [nat_nlt] <;> simp)), trivial⟩ ⟨E, (by omega), h1, h2, h3, hw1, hw2, hw3, hw4, hw5, hw6, hw7, hw8, h4⟩)))))))))))
        · have hg3n : ¬ x.staged.length > 0 := by first | (have h := of_decide_eq_false hg3; omega) | (have h := hg3; simp at h; omega)
          refine J_gd rfl rfl (R_fieldAddr0 fl61_0 rfl) rfl (J_gd rfl rfl (R_load sc33 rfl (h2.one 0 rfl)) rfl (J_gd rfl rfl (R_len Try.underlying33 rfl (hd2.ext E).len) rfl (J_gd rfl rfl (R_gtr rfl rfl) rfl (J_st (R_pickF rfl rfl) rfl (J_st (R_move rfl) rfl ?_)))))
          refine J_if (gd := 30) rfl rfl (fun hg4 => ?_) (fun hg4 => ?_)
          · have hg4n : x.queue.length > 0 := by first | (have h := of_decide_eq_true hg4; omega) | (have h := hg4; simp at h; omega)
            refine J_gdno rfl rfl rfl rfl (J_gdno rfl rfl rfl rfl (J_gdno rfl rfl rfl rfl (J_gdno rfl rfl rfl rfl (J_st (R_pickT rfl rfl) rfl (J_cutEnd ⟨rfl, rfl, rfl, rfl, rfl, rfl, rfl, rfl, rfl, congrArg (fun b => some (Value.bool b)) (show true = (((((!(graphOk g)) || (!(workerOk g x))) || (decide (0 < ((x.staged.length : Nat) : Int)))) || (decide (0 < ((x.queue.length : Nat) : Int)))) || (((x.inputs.length : Nat) : Int) == 0)) by first | (rw [hg1, hg2, hg3, hg4] <;> rfl) | (simp [hg1, hg2, hg3, hg4]; done) | (simp only [nat_nlt] <;> simp)), trivial⟩ ⟨E, (by omega), h1, h2, h3, hw1, hw2, hw3, hw4, hw5, hw6, hw7, hw8, h4⟩)))))
          · have hg4n : ¬ x.queue.length > 0 := by first | (have h := of_decide_eq_false hg4; omega) | (have h := hg4; simp at h; omega)
            refine J_gd rfl rfl (R_fieldAddr0 fl61_2 rfl) rfl (J_gd rfl rfl (R_load sc33 rfl (h2.one 2 rfl)) rfl (J_gd rfl rfl (R_len Try.underlying33 rfl (hd4.ext E).len) rfl (J_gd rfl rfl (R_eql rfl rfl) rfl (J_st (R_pickF rfl rfl) rfl (J_cutEnd ⟨rfl, rfl, rfl, rfl, rfl, rfl, rfl, rfl, rfl, congrArg (fun b => some (Value.bool b)) (show (((x.inputs.length : Nat) : Int) == 0) = (((((!(graphOk g)) || (!(workerOk g x))) || (decide (0 < ((x.staged.length : Nat) : Int)))) || (decide (0 < ((x.queue.length : Nat) : Int)))) || (((x.inputs.length : Nat) : Int) == 0)) by first | (rw [hg1, hg2, hg3, hg4] <;> rfl) | (simp [hg1, hg2, hg3, hg4]; done) | (simp only [nat_nlt] <;> simp)), trivial⟩ ⟨E, (by omega), h1, h2, h3, hw1, hw2, hw3, hw4, hw5, hw6, hw7, hw8, h4⟩)))))
  clear E h1 h2 h3 hw1 hw2 hw3 hw4 hw5 hw6 hw7 hw8 h4
  rintro w8 ⟨E, z9, h1, h2, h3, hw1, hw2, hw3, hw4, hw5, hw6, hw7, hw8, h4⟩
  refine J_done ?_
  refine S_cond rfl (fun hc1 => ?_) (fun hc1 => ?_)
  · refine S_seq ?_
    refine S_reg [true, false, true] rfl rfl ?_
    refine J_st (R_loadS st61 rfl h4.at rfl) rfl ?_
    refine J_storeS' (cs' := [o10, o11, o12, o13, o14, o15, o16, o17]) st61 rfl rfl rfl (all_cons hw1.one (all_cons hw2.one (all_cons hw3.one (all_cons hw4.one (all_cons hw5.one (all_cons hw6.one (all_cons hw7.one (all_cons hw8.one rfl)))))))) h3 (Nat.le_of_ble_eq_true rfl) rfl (fun w10 m2 h3' => ?_)
    replace h3 := h3'
    replace E := E.step m2 (fun g hg => by cases hg; omega); replace h1 := h1.mod m2 (fun g hg => by cases hg; omega); replace h2 := h2.mod m2 (fun g hg => by cases hg; omega); replace hw1 := hw1.mod m2 (fun g hg => by cases hg; omega); replace hw2 := hw2.mod m2 (fun g hg => by cases hg; omega); replace hw3 := hw3.mod m2 (fun g hg => by cases hg; omega); replace hw4 := hw4.mod m2 (fun g hg => by cases hg; omega); replace hw5 := hw5.mod m2 (fun g hg => by cases hg; omega); replace hw6 := hw6.mod m2 (fun g hg => by cases hg; omega); replace hw7 := hw7.mod m2 (fun g hg => by cases hg; omega); replace hw8 := hw8.mod m2 (fun g hg => by cases hg; omega); replace h4 := h4.mod m2 (fun g hg => by cases hg; omega)
    have z10 := m2.size
    refine J_st (R_assign rfl) rfl (J_done ?_)
    refine S_ret (E_doneN (l := [.cell 4 61, .tmp 5]) (vs := [.agg [o10, o11, o12, o13, o14, o15, o16, o17].toArray, .bool false]) rfl ⟨.cell rfl (run_loadVar_st st61 h3.at rfl), .tmp rfl, trivial⟩ rfl E ?_)
    rw [take_no hc1]
    exact ⟨_, rfl, (Worker.mkO x sp1 (Own.widen hw1 (by omega) (by omega)) (Own.widen hw2 (by omega) (by omega)) (Own.widen hw3 (by omega) (by omega)) (Own.widen hw4 (by omega) (by omega)) (Own.widen hw5 (by omega) (by omega)) (Own.widen hw6 (by omega) (by omega)) (Own.widen hw7 (by omega) (by omega)) (Own.widen hw8 (by omega) (by omega)))⟩
  · have htl := take_lt hc1
    refine S_skip ?_
    refine S_seq ?_
    refine S_regX mixed [7] [(0, true), (1, true), (2, true), (3, true), (4, true), (5, true), (6, false)] [(7, false), (8, true), (9, false)] (by decide +kernel) rfl rfl (fun w11 e8 => ?_)
    replace E := E.trans e8; replace h1 := h1.ext e8; replace h2 := h2.ext e8; replace h3 := h3.ext e8; replace hw1 := hw1.ext e8; replace hw2 := hw2.ext e8; replace hw3 := hw3.ext e8; replace hw4 := hw4.ext e8; replace hw5 := hw5.ext e8; replace hw6 := hw6.ext e8; replace hw7 := hw7.ext e8; replace hw8 := hw8.ext e8; replace h4 := h4.ext e8
    have z11 := e8.size
    refine J_st (R_fieldAddr0 fl61_0 rfl) rfl (J_st (R_load sc33 rfl (h4.one 0 rfl)) rfl (J_st (R_fieldAddr0 fl61_2 rfl) rfl (J_st (R_load sc33 rfl (h2.one 2 rfl)) rfl ?_)))
    have hi1 : 0 < x.inputs.length := (by first | assumption | omega)
    refine J_st (R_index (i := 0) sl33 rfl rfl (hd4.rd.ext E) hi1) rfl (J_st (R_loadS st43 rfl ((hd4.rd.ext E).get hi1) rfl) rfl ?_)
    refine J_buildSlice (vs := [.agg (Enc.enc (x.inputs[0]'hi1)).toArray]) (css := [[.int .i64 ((x.inputs[0]'hi1).op), .int .i64 (((x.inputs[0]'hi1).stamp).epoch), .int .i64 (((x.inputs[0]'hi1).stamp).turn), .int .i64 ((x.inputs[0]'hi1).key), .int .i64 ((x.inputs[0]'hi1).val)]]) sl33 rfl rfl ⟨⟨rfl, rfl⟩, trivial⟩ rfl rfl (fun b5 w12 e9 s5 h5 => ?_)
    replace h5 : Blk w12 b5 [.int .i64 ((x.inputs[0]'hi1).op), .int .i64 (((x.inputs[0]'hi1).stamp).epoch), .int .i64 (((x.inputs[0]'hi1).stamp).turn), .int .i64 ((x.inputs[0]'hi1).key), .int .i64 ((x.inputs[0]'hi1).val)] := h5
    have g_b5 : w.heap.size ≤ b5 := by have := E.size; omega
    have y_b5 := h5.lt
    replace E := E.trans e9; replace h1 := h1.ext e9; replace h2 := h2.ext e9; replace h3 := h3.ext e9; replace hw1 := hw1.ext e9; replace hw2 := hw2.ext e9; replace hw3 := hw3.ext e9; replace hw4 := hw4.ext e9; replace hw5 := hw5.ext e9; replace hw6 := hw6.ext e9; replace hw7 := hw7.ext e9; replace hw8 := hw8.ext e9; replace h4 := h4.ext e9
    have z12 := e9.size
    refine JX_tail ?_
    refine J2_X rfl ?_
    refine J_appendB sl33 rfl rfl hw1 (Src.ofBlk h5 rfl) rfl (by unfold cntWorker at hb; simp only [sum_flat, List.length_nil, List.length_cons, List.length_drop]; simp only [Enc.sz]; omega) (by decide) (by omega) (by omega) rfl rfl (fun v1 w13 m3 ho2 hb1 => ?_)
    have hn1 : ∀ g, Value.ownBlock v1 = some g → g < w4.heap.size ∨ w12.heap.size ≤ g := fun g hg => (hb1 g hg).elim (fun h => .inl (by have := Own.blk hw1 g h; omega)) (fun h => .inr h)
    have sq1 := sp1
    replace sp1 := SepL.set hb1 0 rfl sp1 ⟨(Own.lt hw1), (Own.lt hw2), (Own.lt hw3), (Own.lt hw4), (Own.lt hw5), (Own.lt hw6), (Own.lt hw7), (Own.lt hw8), trivial⟩
    replace sp1 : SepL [v1, o11, o12, o13, o14, o15, o16, o17] := sp1
    replace E := E.step m3 (fun g hg => by have := Own.blk hw1 g hg; omega); replace h1 := h1.mod m3 (fun g hg => by have := Own.blk hw1 g hg; omega); replace h2 := h2.mod m3 (fun g hg => by have := Own.blk hw1 g hg; omega); replace h3 := h3.mod m3 (fun g hg => by have := Own.blk hw1 g hg; omega); replace hw2 := Own.modS hw2 m3 sq1.1.1; replace hw3 := Own.modS hw3 m3 sq1.1.2.1; replace hw4 := Own.modS hw4 m3 sq1.1.2.2.1; replace hw5 := Own.modS hw5 m3 sq1.1.2.2.2.1; replace hw6 := Own.modS hw6 m3 sq1.1.2.2.2.2.1; replace hw7 := Own.modS hw7 m3 sq1.1.2.2.2.2.2.1; replace hw8 := Own.modS hw8 m3 sq1.1.2.2.2.2.2.2.1; replace h4 := h4.mod m3 (fun g hg => by have := Own.blk hw1 g hg; omega)
    have z13 := m3.size
    replace ho2 : Own w13 w3.heap.size w13.heap.size 5 v1 (List.flatMap (Enc.enc (α := Record)) (x.queue ++ [(x.inputs[0]'hi1)])) := by rw [List.flatMap_append]; exact ho2
    refine JX_go ?_
    refine J_st (R_fieldAddr0 fl61_0 rfl) rfl ?_
    refine J_store' (cs' := [v1, o11, o12, o13, o14, o15, o16, o17]) sc33 rfl rfl ho2.one h4 (Nat.le_of_ble_eq_true rfl) rfl (fun w14 m4 h4' => ?_)
    replace h4 := h4'
    replace E := E.step m4 (fun g hg => by cases hg; omega); replace h1 := h1.mod m4 (fun g hg => by cases hg; omega); replace h2 := h2.mod m4 (fun g hg => by cases hg; omega); replace h3 := h3.mod m4 (fun g hg => by cases hg; omega); replace hw2 := hw2.mod m4 (fun g hg => by cases hg; omega); replace hw3 := hw3.mod m4 (fun g hg => by cases hg; omega); replace hw4 := hw4.mod m4 (fun g hg => by cases hg; omega); replace hw5 := hw5.mod m4 (fun g hg => by cases hg; omega); replace hw6 := hw6.mod m4 (fun g hg => by cases hg; omega); replace hw7 := hw7.mod m4 (fun g hg => by cases hg; omega); replace hw8 := hw8.mod m4 (fun g hg => by cases hg; omega); replace ho2 := Own.modN ho2 m4 (fun g hg hv => by have hN := hn1 g hv; have hB := Own.blk ho2 g hv; cases hg; omega)
    have z14 := m4.size
    refine J_done ?_
    refine S_seq ?_
    refine S_reg [true, true, true, true, false] rfl rfl ?_
    refine J_st (R_fieldAddr0 fl61_2 rfl) rfl (J_st (R_load sc33 rfl (h4.one 2 rfl)) rfl ?_)
    have hk1 : 1 ≤ x.inputs.length := by first | assumption | omega
    have hs1 := Own.slFromE (α := Record) hw3 hk1
    replace hs1 : Own w14 w3.heap.size w4.heap.size 5 (slFrom o12 1 5) (List.flatMap (Enc.enc (α := Record)) (List.drop 1 x.inputs)) := hs1
    have hb2 : Become w14 o12 (slFrom o12 1 5) := fun g hg => .inl (by rwa [slFrom_blk] at hg)
    replace sp1 := SepL.set hb2 2 rfl sp1 ⟨(Own.lt ho2), (Own.lt hw2), (Own.lt hw3), (Own.lt hw4), (Own.lt hw5), (Own.lt hw6), (Own.lt hw7), (Own.lt hw8), trivial⟩
    replace sp1 : SepL [v1, o11, slFrom o12 1 5, o13, o14, o15, o16, o17] := sp1
    refine J_st (R_sliceFrom sl33 rfl rfl (Own.roomE (α := Record) hw3) hk1) rfl (J_st (R_fieldAddr0 fl61_2 rfl) rfl ?_)
    refine J_store' (cs' := [v1, o11, slFrom o12 1 5, o13, o14, o15, o16, o17]) sc33 rfl rfl hs1.one h4 (Nat.le_of_ble_eq_true rfl) rfl (fun w15 m5 h4' => ?_)
    replace h4 := h4'
    replace E := E.step m5 (fun g hg => by cases hg; omega); replace h1 := h1.mod m5 (fun g hg => by cases hg; omega); replace h2 := h2.mod m5 (fun g hg => by cases hg; omega); replace h3 := h3.mod m5 (fun g hg => by cases hg; omega); replace hw2 := hw2.mod m5 (fun g hg => by cases hg; omega); replace hw4 := hw4.mod m5 (fun g hg => by cases hg; omega); replace hw5 := hw5.mod m5 (fun g hg => by cases hg; omega); replace hw6 := hw6.mod m5 (fun g hg => by cases hg; omega); replace hw7 := hw7.mod m5 (fun g hg => by cases hg; omega); replace hw8 := hw8.mod m5 (fun g hg => by cases hg; omega); replace ho2 := Own.modN ho2 m5 (fun g hg hv => by have hN := hn1 g hv; have hB := Own.blk ho2 g hv; cases hg; omega); replace hs1 := hs1.mod m5 (fun g hg => by cases hg; omega)
    have z15 := m5.size
    refine J_done ?_
    refine S_seq ?_
    refine S_reg [true, false, true] rfl rfl ?_
    refine J_st (R_loadS st61 rfl h4.at rfl) rfl ?_
    refine J_storeS' (cs' := [v1, o11, slFrom o12 1 5, o13, o14, o15, o16, o17]) st61 rfl rfl rfl (all_cons ho2.one (all_cons hw2.one (all_cons hs1.one (all_cons hw4.one (all_cons hw5.one (all_cons hw6.one (all_cons hw7.one (all_cons hw8.one rfl)))))))) h3 (Nat.le_of_ble_eq_true rfl) rfl (fun w16 m6 h3' => ?_)
    replace h3 := h3'
    replace E := E.step m6 (fun g hg => by cases hg; omega); replace h1 := h1.mod m6 (fun g hg => by cases hg; omega); replace h2 := h2.mod m6 (fun g hg => by cases hg; omega); replace hw2 := hw2.mod m6 (fun g hg => by cases hg; omega); replace hw4 := hw4.mod m6 (fun g hg => by cases hg; omega); replace hw5 := hw5.mod m6 (fun g hg => by cases hg; omega); replace hw6 := hw6.mod m6 (fun g hg => by cases hg; omega); replace hw7 := hw7.mod m6 (fun g hg => by cases hg; omega); replace hw8 := hw8.mod m6 (fun g hg => by cases hg; omega); replace h4 := h4.mod m6 (fun g hg => by cases hg; omega); replace ho2 := Own.modN ho2 m6 (fun g hg hv => by have hN := hn1 g hv; have hB := Own.blk ho2 g hv; cases hg; omega); replace hs1 := hs1.mod m6 (fun g hg => by cases hg; omega)
    have z16 := m6.size
    refine J_st (R_assign rfl) rfl (J_done ?_)
    refine S_ret (E_doneN (l := [.cell 4 61, .tmp 5]) (vs := [.agg [v1, o11, slFrom o12 1 5, o13, o14, o15, o16, o17].toArray, .bool true]) rfl ⟨.cell rfl (run_loadVar_st st61 h3.at rfl), .tmp rfl, trivial⟩ rfl E ?_)
    rw [take_yes hc1 htl]
    exact ⟨_, rfl, (Worker.mkO (⟨x.queue ++ [(x.inputs[0]'hi1)], x.staged, List.drop 1 x.inputs, x.cells, x.sums, x.black, x.caps, x.dones⟩ : Worker) sp1 (Own.widen ho2 (by omega) (by omega)) (Own.widen hw2 (by omega) (by omega)) (Own.widen hs1 (by omega) (by omega)) (Own.widen hw4 (by omega) (by omega)) (Own.widen hw5 (by omega) (by omega)) (Own.widen hw6 (by omega) (by omega)) (Own.widen hw7 (by omega) (by omega)) (Own.widen hw8 (by omega) (by omega)))⟩

set_option maxHeartbeats 4000000 in
set_option maxRecDepth 20000 in
theorem l_TakeInput (cg : List Value) (g : Graph) (cx : List Value) (x : Worker) (w : World) (hg : Dat.R w 0 w.heap.size cg g) (hx : Dat.R w 0 w.heap.size cx x) (kg : okGraph g) (kx : okWorker x) : Ct Try.prog 4 [.agg cg.toArray, .agg cx.toArray] w (fun v _ => v = .bool true) := by
  have hcn := @cnt_take g x
  have hnn := @numNs_all 1 g.nodes
  have hcq : cntGraph g = cntL cntNode g.nodes := rfl
  refine ct_of Try.func4 rfl Try.ntmps4 rfl ?_
  obtain ⟨o1, rfl, hd1⟩ := Graph.op hg
  obtain ⟨o2, o3, o4, o5, o6, o7, o8, o9, rfl, hd2, hd3, hd4, hd5, hd6, hd7, hd8, hd9⟩ := Worker.op hx
  refine S_sub [(0, .agg [o1, .int .i64 g.workers, .int .i64 g.cap].toArray), (1, .agg [o2, o3, o4, o5, o6, o7, o8, o9].toArray)] ⟨rfl, rfl, trivial⟩ ?_
  have E : Ext w w := Ext.refl w
  refine S_seq ?_
  refine S_reg [false, false, true] rfl rfl ?_
  refine J_box rfl rfl (fun b1 w1 e1 s1 h1 => ?_)
  have g_b1 : w.heap.size ≤ b1 := by have := E.size; omega
  have y_b1 := h1.lt
  replace E := E.trans e1
  have z1 := e1.size
  refine J_box rfl rfl (fun b2 w2 e2 s2 h2 => ?_)
  have g_b2 : w.heap.size ≤ b2 := by have := E.size; omega
  have y_b2 := h2.lt
  replace E := E.trans e2; replace h1 := h1.ext e2
  have z2 := e2.size
  refine J_st (R_assign rfl) rfl (J_done ?_)
  refine S_seq ?_
  refine S_reg [true] rfl rfl ?_
  refine J_st (R_assign rfl) rfl (J_done ?_)
  refine S_seq ?_
  refine S_reg [true, true, false, true] rfl rfl ?_
  refine J_st (R_loadS st24 rfl h1.at rfl) rfl (J_st (R_move rfl) rfl ?_)
  refine J_call Try.call5 rfl (c_szGraph [o1, .int .i64 g.workers, .int .i64 g.cap] g 1048576 _ (Graph.mkR g (RdD.any (hd1.ext E))) (by first | omega | (simp only [mkL_length]; omega) | (rw [mkL_length]; done) | (simp only [mkL_length]; done))) rfl (fun _ w3 e3 hv => ?_)
  subst hv
  replace E := E.trans e3; replace h1 := h1.ext e3; replace h2 := h2.ext e3
  have z3 := e3.size
  refine J_st (R_assign rfl) rfl (J_done ?_)
  refine S_seq ?_
  refine S_seq ?_
  refine S_reg [true, true] rfl rfl ?_
  refine J_st (R_move rfl) rfl (J_st (R_lss rfl rfl) rfl (J_done ?_))
  refine S_cond rfl (fun hc1 => ?_) (fun hc1 => ?_)
  · have q1 := szM_no hc1 (by omega)
    refine S_seq ?_
    refine S_reg [true] rfl rfl ?_
    refine J_st (R_assign rfl) rfl (J_done ?_)
    refine S_ret (E_done1 rfl rfl E ?_)
    rfl
  · have q2 := szM_ok hc1 (by omega)
    refine S_skip ?_
    refine S_seq ?_
    refine S_reg [true, true, false, true] rfl rfl ?_
    refine J_st (R_loadS st57 rfl h2.at rfl) rfl (J_st (R_move rfl) rfl ?_)
    refine J_call Try.call20 rfl (c_szWorker [o2, o3, o4, o5, o6, o7, o8, o9] x (szM (cntGraph g) 1048576) _ (Worker.mkR x (RdD.any (hd2.ext E)) (RdD.any (hd3.ext E)) (RdD.any (hd4.ext E)) (RdD.any (hd5.ext E)) (RdD.any (hd6.ext E)) (RdD.any (hd7.ext E)) (RdD.any (hd8.ext E)) (RdD.any (hd9.ext E))) (by first | omega | (simp only [mkL_length]; omega) | (rw [mkL_length]; done) | (simp only [mkL_length]; done))) rfl (fun _ w4 e4 hv => ?_)
    subst hv
    replace E := E.trans e4; replace h1 := h1.ext e4; replace h2 := h2.ext e4
    have z4 := e4.size
    refine J_st (R_assign rfl) rfl (J_done ?_)
    refine S_seq ?_
    refine S_seq ?_
    refine S_reg [true, true] rfl rfl ?_
    refine J_st (R_move rfl) rfl (J_st (R_lss rfl rfl) rfl (J_done ?_))
    refine S_cond rfl (fun hc2 => ?_) (fun hc2 => ?_)
    · have q3 := szM_no hc2 (by omega)
      refine S_seq ?_
      refine S_reg [true] rfl rfl ?_
      refine J_st (R_assign rfl) rfl (J_done ?_)
      refine S_ret (E_done1 rfl rfl E ?_)
      rfl
    · have q4 := szM_ok hc2 (by omega)
      refine S_skip ?_
      refine S_seq ?_
      refine S_regF mixed [] 8 6 [] [(0, true), (2, true)] [(1, false), (3, false), (4, false), (5, true), (6, true), (7, true)] [(9, false), (10, true)] (fun b => .pointer (some ⟨b, 0, none⟩)) (z := [.slice none 0 0, .slice none 0 0, .slice none 0 0, .slice none 0 0, .slice none 0 0, .slice none 0 0, .slice none 0 0, .slice none 0 0]) (by decide +kernel) rfl rfl rfl rfl rfl rfl rfl [(0, .agg [o1, .int .i64 g.workers, .int .i64 g.cap].toArray), (1, .agg [o2, o3, o4, o5, o6, o7, o8, o9].toArray), (2, .pointer (some ⟨b1, 0, none⟩)), (3, .pointer (some ⟨b2, 0, none⟩)), (4, .bool false), (5, .int .i64 (szM (cntWorker x) (szM (cntGraph g) 1048576))), (17, .agg [o1, .int .i64 g.workers, .int .i64 g.cap].toArray), (18, .int .i64 1048576), (19, .int .i64 (szM (cntGraph g) 1048576)), (20, .int .i64 (szM (cntGraph g) 1048576)), (21, .bool (decide ((szM (cntGraph g) 1048576) < 0))), (22, .agg [o2, o3, o4, o5, o6, o7, o8, o9].toArray), (23, .int .i64 (szM (cntGraph g) 1048576)), (24, .int .i64 (szM (cntWorker x) (szM (cntGraph g) 1048576))), (25, .int .i64 (szM (cntWorker x) (szM (cntGraph g) 1048576))), (26, .bool (decide ((szM (cntWorker x) (szM (cntGraph g) 1048576)) < 0))), (28, .agg [o1, .int .i64 g.workers, .int .i64 g.cap].toArray), (30, .agg [o2, o3, o4, o5, o6, o7, o8, o9].toArray)] [] rfl trivial (fun w' => Ext w w' ∧ w4.heap.size ≤ w'.heap.size ∧ Blk w' b1 ([o1, .int .i64 g.workers, .int .i64 g.cap]) ∧ Blk w' b2 ([o2, o3, o4, o5, o6, o7, o8, o9])) (float_alloc st61) (fun w5 e5 => ?_) (fun w5 hphi_w5 => ?_)
      · replace E := E.trans e5; replace h1 := h1.ext e5; replace h2 := h2.ext e5
        have z5 := e5.size
        refine J_st (R_loadS st24 rfl h1.at rfl) rfl (J_st (R_loadS st57 rfl h2.at rfl) rfl (J_cutEnd ⟨rfl, rfl, rfl, rfl, rfl, rfl, rfl, rfl, rfl, rfl, rfl, rfl, rfl, rfl, rfl, rfl, rfl, rfl, trivial⟩ ⟨E, (by omega), h1, h2⟩))
      clear E h1 h2
      obtain ⟨E, z6, h1, h2⟩ := hphi_w5
      refine JI_un rfl (fun w6 e6 => ?_) rfl
      replace E := E.trans e6; replace h1 := h1.ext e6; replace h2 := h2.ext e6
      have z7 := e6.size
      refine J_call Try.call8 rfl (c_toGraph [o1, .int .i64 g.workers, .int .i64 g.cap] g _ (Graph.mkR g (RdD.any (hd1.ext E))) (by first | omega | (simp only [mkL_length]; omega) | (rw [mkL_length]; done) | (simp only [mkL_length]; done))) rfl (fun _ w7 e7 ho1 => ?_)
      obtain ⟨o10, rfl, ho1⟩ := ho1
      have g_ho1 : w.heap.size ≤ w6.heap.size := E.size
      replace E := E.trans e7; replace h1 := h1.ext e7; replace h2 := h2.ext e7
      have z8 := e7.size
      refine JI_go2 ?_
      refine JI_un rfl (fun w8 e8 => ?_) rfl
      replace E := E.trans e8; replace h1 := h1.ext e8; replace h2 := h2.ext e8; replace ho1 := ho1.ext e8
      have z9 := e8.size
      refine J_call Try.call22 rfl (c_toWorker [o2, o3, o4, o5, o6, o7, o8, o9] x _ (Worker.mkR x (RdD.any (hd2.ext E)) (RdD.any (hd3.ext E)) (RdD.any (hd4.ext E)) (RdD.any (hd5.ext E)) (RdD.any (hd6.ext E)) (RdD.any (hd7.ext E)) (RdD.any (hd8.ext E)) (RdD.any (hd9.ext E))) (by first | omega | (simp only [mkL_length]; omega) | (rw [mkL_length]; done) | (simp only [mkL_length]; done))) rfl (fun _ w9 e9 ho2 => ?_)
      obtain ⟨_, rfl, ho2⟩ := ho2
      have g_ho2 : w.heap.size ≤ w8.heap.size := E.size
      replace E := E.trans e9; replace h1 := h1.ext e9; replace h2 := h2.ext e9; replace ho1 := ho1.ext e9
      have z10 := e9.size
      obtain ⟨o11, o12, o13, o14, o15, o16, o17, o18, rfl, sp1, hw1, hw2, hw3, hw4, hw5, hw6, hw7, hw8⟩ := Worker.opO ho2
      refine JI_go2 ?_
      refine JI_un rfl (fun w10 e10 => ?_) rfl
      replace E := E.trans e10; replace h1 := h1.ext e10; replace h2 := h2.ext e10; replace ho1 := ho1.ext e10; replace hw1 := hw1.ext e10; replace hw2 := hw2.ext e10; replace hw3 := hw3.ext e10; replace hw4 := hw4.ext e10; replace hw5 := hw5.ext e10; replace hw6 := hw6.ext e10; replace hw7 := hw7.ext e10; replace hw8 := hw8.ext e10
      have z11 := e10.size
      refine J_call Try.call21 rfl (s_TakeInput [o10, .int .i64 g.workers, .int .i64 g.cap] g [o11, o12, o13, o14, o15, o16, o17, o18] x _ (Graph.mkR g (RdD.any (OwS.rd ho1))) (Worker.mkR x (RdD.any (Own.rdD hw1)) (RdD.any (Own.rdD hw2)) (RdD.any (Own.rdD hw3)) (RdD.any (Own.rdD hw4)) (RdD.any (Own.rdD hw5)) (RdD.any (Own.rdD hw6)) (RdD.any (Own.rdD hw7)) (RdD.any (Own.rdD hw8))) (by first | omega | (simp only [mkL_length]; omega) | (rw [mkL_length]; done) | (simp only [mkL_length]; done))) rfl (fun _ w11 e11 ho3 => ?_)
      obtain ⟨_, rfl, ho4⟩ := ho3
      have g_ho3 : w.heap.size ≤ w10.heap.size := E.size
      replace E := E.trans e11; replace h1 := h1.ext e11; replace h2 := h2.ext e11; replace ho1 := ho1.ext e11; replace hw1 := hw1.ext e11; replace hw2 := hw2.ext e11; replace hw3 := hw3.ext e11; replace hw4 := hw4.ext e11; replace hw5 := hw5.ext e11; replace hw6 := hw6.ext e11; replace hw7 := hw7.ext e11; replace hw8 := hw8.ext e11
      have z12 := e11.size
      obtain ⟨o19, o20, o21, o22, o23, o24, o25, o26, rfl, sp2, hw9, hw10, hw11, hw12, hw13, hw14, hw15, hw16⟩ := Worker.opO ho4
      refine JI_go2 ?_
      refine JI_seg 3 rfl ?_
      refine J_st (R_move rfl) rfl (J_st (R_extract rfl rfl) rfl (J_st (R_extract rfl rfl) rfl (JI_go ?_)))
      refine JI_end rfl (fun b3 w12 e12 g1 y1 h3 hI1 => ?_)
      have hI1_0 : b3 < w6.heap.size ∨ w7.heap.size ≤ b3 := hI1 (_, _) (by simp)
      have hI1_1 : b3 < w8.heap.size ∨ w9.heap.size ≤ b3 := hI1 (_, _) (by simp)
      have hI1_2 : b3 < w10.heap.size ∨ w11.heap.size ≤ b3 := hI1 (_, _) (by simp)
      replace E := E.trans e12; replace h1 := h1.ext e12; replace h2 := h2.ext e12; replace ho1 := ho1.ext e12; replace hw1 := hw1.ext e12; replace hw2 := hw2.ext e12; replace hw3 := hw3.ext e12; replace hw4 := hw4.ext e12; replace hw5 := hw5.ext e12; replace hw6 := hw6.ext e12; replace hw7 := hw7.ext e12; replace hw8 := hw8.ext e12; replace hw9 := hw9.ext e12; replace hw10 := hw10.ext e12; replace hw11 := hw11.ext e12; replace hw12 := hw12.ext e12; replace hw13 := hw13.ext e12; replace hw14 := hw14.ext e12; replace hw15 := hw15.ext e12; replace hw16 := hw16.ext e12
      have z13 := e12.size
      have g_b3 : w.heap.size ≤ b3 := by have := E.size; omega
      have y_b3 := h3.lt
      refine J2_sub [(0, .agg [o1, .int .i64 g.workers, .int .i64 g.cap].toArray), (1, .agg [o2, o3, o4, o5, o6, o7, o8, o9].toArray), (2, .pointer (some ⟨b1, 0, none⟩)), (3, .pointer (some ⟨b2, 0, none⟩)), (4, .bool false), (5, .int .i64 (szM (cntWorker x) (szM (cntGraph g) 1048576))), (6, .pointer (some ⟨b3, 0, none⟩)), (17, .agg [o1, .int .i64 g.workers, .int .i64 g.cap].toArray), (18, .int .i64 1048576), (19, .int .i64 (szM (cntGraph g) 1048576)), (20, .int .i64 (szM (cntGraph g) 1048576)), (21, .bool (decide ((szM (cntGraph g) 1048576) < 0))), (22, .agg [o2, o3, o4, o5, o6, o7, o8, o9].toArray), (23, .int .i64 (szM (cntGraph g) 1048576)), (24, .int .i64 (szM (cntWorker x) (szM (cntGraph g) 1048576))), (25, .int .i64 (szM (cntWorker x) (szM (cntGraph g) 1048576))), (26, .bool (decide ((szM (cntWorker x) (szM (cntGraph g) 1048576)) < 0))), (27, .tuple [.agg [o19, o20, o21, o22, o23, o24, o25, o26].toArray, .bool ((takeM g x).2)].toArray), (28, .agg [o1, .int .i64 g.workers, .int .i64 g.cap].toArray), (29, .agg [o10, .int .i64 g.workers, .int .i64 g.cap].toArray), (30, .agg [o2, o3, o4, o5, o6, o7, o8, o9].toArray), (31, .agg [o11, o12, o13, o14, o15, o16, o17, o18].toArray), (32, .tuple [.agg [o19, o20, o21, o22, o23, o24, o25, o26].toArray, .bool ((takeM g x).2)].toArray), (33, .agg [o19, o20, o21, o22, o23, o24, o25, o26].toArray), (34, .bool ((takeM g x).2))] ⟨rfl, rfl, rfl, rfl, rfl, rfl, rfl, rfl, rfl, rfl, rfl, rfl, rfl, rfl, rfl, rfl, rfl, rfl, rfl, rfl, rfl, rfl, rfl, rfl, rfl, trivial⟩ ?_
      refine J2_of rfl ?_
      refine J_storeS' (cs' := [o19, o20, o21, o22, o23, o24, o25, o26]) st61 rfl rfl rfl (all_cons hw9.one (all_cons hw10.one (all_cons hw11.one (all_cons hw12.one (all_cons hw13.one (all_cons hw14.one (all_cons hw15.one (all_cons hw16.one rfl)))))))) h3 (Nat.le_of_ble_eq_true rfl) rfl (fun w13 m1 h3' => ?_)
      replace h3 := h3'
      replace E := E.step m1 (fun g hg => by cases hg; omega); replace h1 := h1.mod m1 (fun g hg => by cases hg; omega); replace h2 := h2.mod m1 (fun g hg => by cases hg; omega); replace ho1 := ho1.mod m1 (fun g hg => by cases hg; omega); replace hw1 := hw1.mod m1 (fun g hg => by cases hg; omega); replace hw2 := hw2.mod m1 (fun g hg => by cases hg; omega); replace hw3 := hw3.mod m1 (fun g hg => by cases hg; omega); replace hw4 := hw4.mod m1 (fun g hg => by cases hg; omega); replace hw5 := hw5.mod m1 (fun g hg => by cases hg; omega); replace hw6 := hw6.mod m1 (fun g hg => by cases hg; omega); replace hw7 := hw7.mod m1 (fun g hg => by cases hg; omega); replace hw8 := hw8.mod m1 (fun g hg => by cases hg; omega); replace hw9 := hw9.mod m1 (fun g hg => by cases hg; omega); replace hw10 := hw10.mod m1 (fun g hg => by cases hg; omega); replace hw11 := hw11.mod m1 (fun g hg => by cases hg; omega); replace hw12 := hw12.mod m1 (fun g hg => by cases hg; omega); replace hw13 := hw13.mod m1 (fun g hg => by cases hg; omega); replace hw14 := hw14.mod m1 (fun g hg => by cases hg; omega); replace hw15 := hw15.mod m1 (fun g hg => by cases hg; omega); replace hw16 := hw16.mod m1 (fun g hg => by cases hg; omega)
      have z14 := m1.size
      refine J_st (R_assign rfl) rfl (J_done ?_)
      refine S_seq ?_
      refine S_reg [true, false, false, false] rfl rfl ?_
      refine J_st (R_loadS st24 rfl h1.at rfl) rfl ?_
      refine J_call Try.call8 rfl (c_toGraph [o1, .int .i64 g.workers, .int .i64 g.cap] g _ (Graph.mkR g (RdD.any (hd1.ext E))) (by first | omega | (simp only [mkL_length]; omega) | (rw [mkL_length]; done) | (simp only [mkL_length]; done))) rfl (fun _ w14 e13 ho5 => ?_)
      obtain ⟨o27, rfl, ho5⟩ := ho5
      have g_ho5 : w.heap.size ≤ w13.heap.size := E.size
      replace E := E.trans e13; replace h1 := h1.ext e13; replace h2 := h2.ext e13; replace ho1 := ho1.ext e13; replace hw1 := hw1.ext e13; replace hw2 := hw2.ext e13; replace hw3 := hw3.ext e13; replace hw4 := hw4.ext e13; replace hw5 := hw5.ext e13; replace hw6 := hw6.ext e13; replace hw7 := hw7.ext e13; replace hw8 := hw8.ext e13; replace hw9 := hw9.ext e13; replace hw10 := hw10.ext e13; replace hw11 := hw11.ext e13; replace hw12 := hw12.ext e13; replace hw13 := hw13.ext e13; replace hw14 := hw14.ext e13; replace hw15 := hw15.ext e13; replace hw16 := hw16.ext e13; replace h3 := h3.ext e13
      have z15 := e13.size
      refine J_alloc st38 rfl (fun b4 w15 e14 s3 h4 => ?_)
      have g_b4 : w.heap.size ≤ b4 := by have := E.size; omega
      have y_b4 := h4.lt
      replace E := E.trans e14; replace h1 := h1.ext e14; replace h2 := h2.ext e14; replace ho1 := ho1.ext e14; replace hw1 := hw1.ext e14; replace hw2 := hw2.ext e14; replace hw3 := hw3.ext e14; replace hw4 := hw4.ext e14; replace hw5 := hw5.ext e14; replace hw6 := hw6.ext e14; replace hw7 := hw7.ext e14; replace hw8 := hw8.ext e14; replace hw9 := hw9.ext e14; replace hw10 := hw10.ext e14; replace hw11 := hw11.ext e14; replace hw12 := hw12.ext e14; replace hw13 := hw13.ext e14; replace hw14 := hw14.ext e14; replace hw15 := hw15.ext e14; replace hw16 := hw16.ext e14; replace h3 := h3.ext e14; replace ho5 := ho5.ext e14
      have z16 := e14.size
      refine J_storeS' (cs' := [o27, .int .i64 g.workers, .int .i64 g.cap]) st38 rfl rfl rfl (all_cons (RdD.one (OwS.rd ho5)) (all_cons rfl (all_cons rfl rfl))) h4 (Nat.le_of_ble_eq_true rfl) rfl (fun w16 m2 h4' => ?_)
      replace h4 := h4'
      replace E := E.step m2 (fun g hg => by cases hg; omega); replace h1 := h1.mod m2 (fun g hg => by cases hg; omega); replace h2 := h2.mod m2 (fun g hg => by cases hg; omega); replace ho1 := ho1.mod m2 (fun g hg => by cases hg; omega); replace hw1 := hw1.mod m2 (fun g hg => by cases hg; omega); replace hw2 := hw2.mod m2 (fun g hg => by cases hg; omega); replace hw3 := hw3.mod m2 (fun g hg => by cases hg; omega); replace hw4 := hw4.mod m2 (fun g hg => by cases hg; omega); replace hw5 := hw5.mod m2 (fun g hg => by cases hg; omega); replace hw6 := hw6.mod m2 (fun g hg => by cases hg; omega); replace hw7 := hw7.mod m2 (fun g hg => by cases hg; omega); replace hw8 := hw8.mod m2 (fun g hg => by cases hg; omega); replace hw9 := hw9.mod m2 (fun g hg => by cases hg; omega); replace hw10 := hw10.mod m2 (fun g hg => by cases hg; omega); replace hw11 := hw11.mod m2 (fun g hg => by cases hg; omega); replace hw12 := hw12.mod m2 (fun g hg => by cases hg; omega); replace hw13 := hw13.mod m2 (fun g hg => by cases hg; omega); replace hw14 := hw14.mod m2 (fun g hg => by cases hg; omega); replace hw15 := hw15.mod m2 (fun g hg => by cases hg; omega); replace hw16 := hw16.mod m2 (fun g hg => by cases hg; omega); replace h3 := h3.mod m2 (fun g hg => by cases hg; omega); replace ho5 := ho5.mod m2 (fun g hg => by cases hg; omega)
      have z17 := m2.size
      refine J_done ?_
      refine S_seq ?_
      refine S_reg [true, false, false, false] rfl rfl ?_
      refine J_st (R_loadS st57 rfl h2.at rfl) rfl ?_
      refine J_call Try.call22 rfl (c_toWorker [o2, o3, o4, o5, o6, o7, o8, o9] x _ (Worker.mkR x (RdD.any (hd2.ext E)) (RdD.any (hd3.ext E)) (RdD.any (hd4.ext E)) (RdD.any (hd5.ext E)) (RdD.any (hd6.ext E)) (RdD.any (hd7.ext E)) (RdD.any (hd8.ext E)) (RdD.any (hd9.ext E))) (by first | omega | (simp only [mkL_length]; omega) | (rw [mkL_length]; done) | (simp only [mkL_length]; done))) rfl (fun _ w17 e15 ho6 => ?_)
      obtain ⟨_, rfl, ho6⟩ := ho6
      have g_ho6 : w.heap.size ≤ w16.heap.size := E.size
      replace E := E.trans e15; replace h1 := h1.ext e15; replace h2 := h2.ext e15; replace ho1 := ho1.ext e15; replace hw1 := hw1.ext e15; replace hw2 := hw2.ext e15; replace hw3 := hw3.ext e15; replace hw4 := hw4.ext e15; replace hw5 := hw5.ext e15; replace hw6 := hw6.ext e15; replace hw7 := hw7.ext e15; replace hw8 := hw8.ext e15; replace hw9 := hw9.ext e15; replace hw10 := hw10.ext e15; replace hw11 := hw11.ext e15; replace hw12 := hw12.ext e15; replace hw13 := hw13.ext e15; replace hw14 := hw14.ext e15; replace hw15 := hw15.ext e15; replace hw16 := hw16.ext e15; replace h3 := h3.ext e15; replace ho5 := ho5.ext e15; replace h4 := h4.ext e15
      have z18 := e15.size
      obtain ⟨o28, o29, o30, o31, o32, o33, o34, o35, rfl, sp3, hw17, hw18, hw19, hw20, hw21, hw22, hw23, hw24⟩ := Worker.opO ho6
      refine J_alloc st61 rfl (fun b5 w18 e16 s4 h5 => ?_)
      have g_b5 : w.heap.size ≤ b5 := by have := E.size; omega
      have y_b5 := h5.lt
      replace E := E.trans e16; replace h1 := h1.ext e16; replace h2 := h2.ext e16; replace ho1 := ho1.ext e16; replace hw1 := hw1.ext e16; replace hw2 := hw2.ext e16; replace hw3 := hw3.ext e16; replace hw4 := hw4.ext e16; replace hw5 := hw5.ext e16; replace hw6 := hw6.ext e16; replace hw7 := hw7.ext e16; replace hw8 := hw8.ext e16; replace hw9 := hw9.ext e16; replace hw10 := hw10.ext e16; replace hw11 := hw11.ext e16; replace hw12 := hw12.ext e16; replace hw13 := hw13.ext e16; replace hw14 := hw14.ext e16; replace hw15 := hw15.ext e16; replace hw16 := hw16.ext e16; replace h3 := h3.ext e16; replace ho5 := ho5.ext e16; replace h4 := h4.ext e16; replace hw17 := hw17.ext e16; replace hw18 := hw18.ext e16; replace hw19 := hw19.ext e16; replace hw20 := hw20.ext e16; replace hw21 := hw21.ext e16; replace hw22 := hw22.ext e16; replace hw23 := hw23.ext e16; replace hw24 := hw24.ext e16
      have z19 := e16.size
      refine J_storeS' (cs' := [o28, o29, o30, o31, o32, o33, o34, o35]) st61 rfl rfl rfl (all_cons hw17.one (all_cons hw18.one (all_cons hw19.one (all_cons hw20.one (all_cons hw21.one (all_cons hw22.one (all_cons hw23.one (all_cons hw24.one rfl)))))))) h5 (Nat.le_of_ble_eq_true rfl) rfl (fun w19 m3 h5' => ?_)
      replace h5 := h5'
      replace E := E.step m3 (fun g hg => by cases hg; omega); replace h1 := h1.mod m3 (fun g hg => by cases hg; omega); replace h2 := h2.mod m3 (fun g hg => by cases hg; omega); replace ho1 := ho1.mod m3 (fun g hg => by cases hg; omega); replace hw1 := hw1.mod m3 (fun g hg => by cases hg; omega); replace hw2 := hw2.mod m3 (fun g hg => by cases hg; omega); replace hw3 := hw3.mod m3 (fun g hg => by cases hg; omega); replace hw4 := hw4.mod m3 (fun g hg => by cases hg; omega); replace hw5 := hw5.mod m3 (fun g hg => by cases hg; omega); replace hw6 := hw6.mod m3 (fun g hg => by cases hg; omega); replace hw7 := hw7.mod m3 (fun g hg => by cases hg; omega); replace hw8 := hw8.mod m3 (fun g hg => by cases hg; omega); replace hw9 := hw9.mod m3 (fun g hg => by cases hg; omega); replace hw10 := hw10.mod m3 (fun g hg => by cases hg; omega); replace hw11 := hw11.mod m3 (fun g hg => by cases hg; omega); replace hw12 := hw12.mod m3 (fun g hg => by cases hg; omega); replace hw13 := hw13.mod m3 (fun g hg => by cases hg; omega); replace hw14 := hw14.mod m3 (fun g hg => by cases hg; omega); replace hw15 := hw15.mod m3 (fun g hg => by cases hg; omega); replace hw16 := hw16.mod m3 (fun g hg => by cases hg; omega); replace h3 := h3.mod m3 (fun g hg => by cases hg; omega); replace ho5 := ho5.mod m3 (fun g hg => by cases hg; omega); replace h4 := h4.mod m3 (fun g hg => by cases hg; omega); replace hw17 := hw17.mod m3 (fun g hg => by cases hg; omega); replace hw18 := hw18.mod m3 (fun g hg => by cases hg; omega); replace hw19 := hw19.mod m3 (fun g hg => by cases hg; omega); replace hw20 := hw20.mod m3 (fun g hg => by cases hg; omega); replace hw21 := hw21.mod m3 (fun g hg => by cases hg; omega); replace hw22 := hw22.mod m3 (fun g hg => by cases hg; omega); replace hw23 := hw23.mod m3 (fun g hg => by cases hg; omega); replace hw24 := hw24.mod m3 (fun g hg => by cases hg; omega)
      have z20 := m3.size
      refine J_done ?_
      refine S_seq ?_
      refine S_reg [true, true, false, true, true, true, false, false, true] rfl rfl ?_
      refine J_st (R_loadS st38 rfl h4.at rfl) rfl (J_st (R_loadS st61 rfl h5.at rfl) rfl ?_)
      refine J_call Try.call23 rfl (c_TakeInput [o27, .int .i64 g.workers, .int .i64 g.cap] g [o28, o29, o30, o31, o32, o33, o34, o35] x _ (Graph.mkR g (RdD.any (OwS.rd ho5))) (Worker.mkR x (RdD.any (Own.rdD hw17)) (RdD.any (Own.rdD hw18)) (RdD.any (Own.rdD hw19)) (RdD.any (Own.rdD hw20)) (RdD.any (Own.rdD hw21)) (RdD.any (Own.rdD hw22)) (RdD.any (Own.rdD hw23)) (RdD.any (Own.rdD hw24))) (by first | omega | (simp only [mkL_length]; omega) | (rw [mkL_length]; done) | (simp only [mkL_length]; done))) rfl (fun _ w20 e17 ho7 => ?_)
      obtain ⟨_, rfl, ho8⟩ := ho7
      have g_ho7 : w.heap.size ≤ w19.heap.size := E.size
      replace E := E.trans e17; replace h1 := h1.ext e17; replace h2 := h2.ext e17; replace ho1 := ho1.ext e17; replace hw1 := hw1.ext e17; replace hw2 := hw2.ext e17; replace hw3 := hw3.ext e17; replace hw4 := hw4.ext e17; replace hw5 := hw5.ext e17; replace hw6 := hw6.ext e17; replace hw7 := hw7.ext e17; replace hw8 := hw8.ext e17; replace hw9 := hw9.ext e17; replace hw10 := hw10.ext e17; replace hw11 := hw11.ext e17; replace hw12 := hw12.ext e17; replace hw13 := hw13.ext e17; replace hw14 := hw14.ext e17; replace hw15 := hw15.ext e17; replace hw16 := hw16.ext e17; replace h3 := h3.ext e17; replace ho5 := ho5.ext e17; replace h4 := h4.ext e17; replace hw17 := hw17.ext e17; replace hw18 := hw18.ext e17; replace hw19 := hw19.ext e17; replace hw20 := hw20.ext e17; replace hw21 := hw21.ext e17; replace hw22 := hw22.ext e17; replace hw23 := hw23.ext e17; replace hw24 := hw24.ext e17; replace h5 := h5.ext e17
      have z21 := e17.size
      obtain ⟨o36, o37, o38, o39, o40, o41, o42, o43, rfl, sp4, hw25, hw26, hw27, hw28, hw29, hw30, hw31, hw32⟩ := Worker.opO ho8
      refine J_st (R_move rfl) rfl (J_st (R_extract rfl rfl) rfl (J_st (R_extract rfl rfl) rfl ?_))
      refine J_alloc st61 rfl (fun b6 w21 e18 s5 h6 => ?_)
      have g_b6 : w.heap.size ≤ b6 := by have := E.size; omega
      have y_b6 := h6.lt
      replace E := E.trans e18; replace h1 := h1.ext e18; replace h2 := h2.ext e18; replace ho1 := ho1.ext e18; replace hw1 := hw1.ext e18; replace hw2 := hw2.ext e18; replace hw3 := hw3.ext e18; replace hw4 := hw4.ext e18; replace hw5 := hw5.ext e18; replace hw6 := hw6.ext e18; replace hw7 := hw7.ext e18; replace hw8 := hw8.ext e18; replace hw9 := hw9.ext e18; replace hw10 := hw10.ext e18; replace hw11 := hw11.ext e18; replace hw12 := hw12.ext e18; replace hw13 := hw13.ext e18; replace hw14 := hw14.ext e18; replace hw15 := hw15.ext e18; replace hw16 := hw16.ext e18; replace h3 := h3.ext e18; replace ho5 := ho5.ext e18; replace h4 := h4.ext e18; replace hw17 := hw17.ext e18; replace hw18 := hw18.ext e18; replace hw19 := hw19.ext e18; replace hw20 := hw20.ext e18; replace hw21 := hw21.ext e18; replace hw22 := hw22.ext e18; replace hw23 := hw23.ext e18; replace hw24 := hw24.ext e18; replace h5 := h5.ext e18; replace hw25 := hw25.ext e18; replace hw26 := hw26.ext e18; replace hw27 := hw27.ext e18; replace hw28 := hw28.ext e18; replace hw29 := hw29.ext e18; replace hw30 := hw30.ext e18; replace hw31 := hw31.ext e18; replace hw32 := hw32.ext e18
      have z22 := e18.size
      refine J_storeS' (cs' := [o36, o37, o38, o39, o40, o41, o42, o43]) st61 rfl rfl rfl (all_cons hw25.one (all_cons hw26.one (all_cons hw27.one (all_cons hw28.one (all_cons hw29.one (all_cons hw30.one (all_cons hw31.one (all_cons hw32.one rfl)))))))) h6 (Nat.le_of_ble_eq_true rfl) rfl (fun w22 m4 h6' => ?_)
      replace h6 := h6'
      replace E := E.step m4 (fun g hg => by cases hg; omega); replace h1 := h1.mod m4 (fun g hg => by cases hg; omega); replace h2 := h2.mod m4 (fun g hg => by cases hg; omega); replace ho1 := ho1.mod m4 (fun g hg => by cases hg; omega); replace hw1 := hw1.mod m4 (fun g hg => by cases hg; omega); replace hw2 := hw2.mod m4 (fun g hg => by cases hg; omega); replace hw3 := hw3.mod m4 (fun g hg => by cases hg; omega); replace hw4 := hw4.mod m4 (fun g hg => by cases hg; omega); replace hw5 := hw5.mod m4 (fun g hg => by cases hg; omega); replace hw6 := hw6.mod m4 (fun g hg => by cases hg; omega); replace hw7 := hw7.mod m4 (fun g hg => by cases hg; omega); replace hw8 := hw8.mod m4 (fun g hg => by cases hg; omega); replace hw9 := hw9.mod m4 (fun g hg => by cases hg; omega); replace hw10 := hw10.mod m4 (fun g hg => by cases hg; omega); replace hw11 := hw11.mod m4 (fun g hg => by cases hg; omega); replace hw12 := hw12.mod m4 (fun g hg => by cases hg; omega); replace hw13 := hw13.mod m4 (fun g hg => by cases hg; omega); replace hw14 := hw14.mod m4 (fun g hg => by cases hg; omega); replace hw15 := hw15.mod m4 (fun g hg => by cases hg; omega); replace hw16 := hw16.mod m4 (fun g hg => by cases hg; omega); replace h3 := h3.mod m4 (fun g hg => by cases hg; omega); replace ho5 := ho5.mod m4 (fun g hg => by cases hg; omega); replace h4 := h4.mod m4 (fun g hg => by cases hg; omega); replace hw17 := hw17.mod m4 (fun g hg => by cases hg; omega); replace hw18 := hw18.mod m4 (fun g hg => by cases hg; omega); replace hw19 := hw19.mod m4 (fun g hg => by cases hg; omega); replace hw20 := hw20.mod m4 (fun g hg => by cases hg; omega); replace hw21 := hw21.mod m4 (fun g hg => by cases hg; omega); replace hw22 := hw22.mod m4 (fun g hg => by cases hg; omega); replace hw23 := hw23.mod m4 (fun g hg => by cases hg; omega); replace hw24 := hw24.mod m4 (fun g hg => by cases hg; omega); replace h5 := h5.mod m4 (fun g hg => by cases hg; omega); replace hw25 := hw25.mod m4 (fun g hg => by cases hg; omega); replace hw26 := hw26.mod m4 (fun g hg => by cases hg; omega); replace hw27 := hw27.mod m4 (fun g hg => by cases hg; omega); replace hw28 := hw28.mod m4 (fun g hg => by cases hg; omega); replace hw29 := hw29.mod m4 (fun g hg => by cases hg; omega); replace hw30 := hw30.mod m4 (fun g hg => by cases hg; omega); replace hw31 := hw31.mod m4 (fun g hg => by cases hg; omega); replace hw32 := hw32.mod m4 (fun g hg => by cases hg; omega)
      have z23 := m4.size
      refine J_st (R_assign rfl) rfl (J_done ?_)
      refine S_seq ?_
      refine S_seq ?_
      refine S_reg [true, true, false, true, true, true, true, true, true] rfl rfl ?_
      refine J_st (R_loadS st61 rfl h6.at rfl) rfl (J_st (R_loadS st61 rfl h3.at rfl) rfl ?_)
      refine J_call Try.call24 rfl (c_eqWorker [o36, o37, o38, o39, o40, o41, o42, o43] ((takeM g x).1) [o19, o20, o21, o22, o23, o24, o25, o26] ((takeM g x).1) _ (Worker.mkR ((takeM g x).1) (RdD.any (Own.rdD hw25)) (RdD.any (Own.rdD hw26)) (RdD.any (Own.rdD hw27)) (RdD.any (Own.rdD hw28)) (RdD.any (Own.rdD hw29)) (RdD.any (Own.rdD hw30)) (RdD.any (Own.rdD hw31)) (RdD.any (Own.rdD hw32))) (Worker.mkR ((takeM g x).1) (RdD.any (Own.rdD hw9)) (RdD.any (Own.rdD hw10)) (RdD.any (Own.rdD hw11)) (RdD.any (Own.rdD hw12)) (RdD.any (Own.rdD hw13)) (RdD.any (Own.rdD hw14)) (RdD.any (Own.rdD hw15)) (RdD.any (Own.rdD hw16)))) rfl (fun _ w23 e19 hv => ?_)
      subst hv
      replace E := E.trans e19; replace h1 := h1.ext e19; replace h2 := h2.ext e19; replace ho1 := ho1.ext e19; replace hw1 := hw1.ext e19; replace hw2 := hw2.ext e19; replace hw3 := hw3.ext e19; replace hw4 := hw4.ext e19; replace hw5 := hw5.ext e19; replace hw6 := hw6.ext e19; replace hw7 := hw7.ext e19; replace hw8 := hw8.ext e19; replace hw9 := hw9.ext e19; replace hw10 := hw10.ext e19; replace hw11 := hw11.ext e19; replace hw12 := hw12.ext e19; replace hw13 := hw13.ext e19; replace hw14 := hw14.ext e19; replace hw15 := hw15.ext e19; replace hw16 := hw16.ext e19; replace h3 := h3.ext e19; replace ho5 := ho5.ext e19; replace h4 := h4.ext e19; replace hw17 := hw17.ext e19; replace hw18 := hw18.ext e19; replace hw19 := hw19.ext e19; replace hw20 := hw20.ext e19; replace hw21 := hw21.ext e19; replace hw22 := hw22.ext e19; replace hw23 := hw23.ext e19; replace hw24 := hw24.ext e19; replace h5 := h5.ext e19; replace hw25 := hw25.ext e19; replace hw26 := hw26.ext e19; replace hw27 := hw27.ext e19; replace hw28 := hw28.ext e19; replace hw29 := hw29.ext e19; replace hw30 := hw30.ext e19; replace hw31 := hw31.ext e19; replace hw32 := hw32.ext e19; replace h6 := h6.ext e19
      have z24 := e19.size
      refine J_st (R_not rfl) rfl (J_st (R_move rfl) rfl ?_)
      refine J_cut 4 [(0, .agg [o1, .int .i64 g.workers, .int .i64 g.cap].toArray), (1, .agg [o2, o3, o4, o5, o6, o7, o8, o9].toArray), (2, .pointer (some ⟨b1, 0, none⟩)), (3, .pointer (some ⟨b2, 0, none⟩)), (4, .bool false), (5, .int .i64 (szM (cntWorker x) (szM (cntGraph g) 1048576))), (6, .pointer (some ⟨b3, 0, none⟩)), (7, .bool ((takeM g x).2)), (8, .pointer (some ⟨b4, 0, none⟩)), (9, .pointer (some ⟨b5, 0, none⟩)), (10, .pointer (some ⟨b6, 0, none⟩)), (11, .bool ((takeM g x).2)), (17, .agg [o1, .int .i64 g.workers, .int .i64 g.cap].toArray), (18, .int .i64 1048576), (19, .int .i64 (szM (cntGraph g) 1048576)), (20, .int .i64 (szM (cntGraph g) 1048576)), (21, .bool (decide ((szM (cntGraph g) 1048576) < 0))), (22, .agg [o2, o3, o4, o5, o6, o7, o8, o9].toArray), (23, .int .i64 (szM (cntGraph g) 1048576)), (24, .int .i64 (szM (cntWorker x) (szM (cntGraph g) 1048576))), (25, .int .i64 (szM (cntWorker x) (szM (cntGraph g) 1048576))), (26, .bool (decide ((szM (cntWorker x) (szM (cntGraph g) 1048576)) < 0))), (27, .tuple [.agg [o19, o20, o21, o22, o23, o24, o25, o26].toArray, .bool ((takeM g x).2)].toArray), (28, .agg [o1, .int .i64 g.workers, .int .i64 g.cap].toArray), (29, .agg [o10, .int .i64 g.workers, .int .i64 g.cap].toArray), (30, .agg [o2, o3, o4, o5, o6, o7, o8, o9].toArray), (31, .agg [o11, o12, o13, o14, o15, o16, o17, o18].toArray), (32, .tuple [.agg [o19, o20, o21, o22, o23, o24, o25, o26].toArray, .bool ((takeM g x).2)].toArray), (33, .agg [o19, o20, o21, o22, o23, o24, o25, o26].toArray), (34, .bool ((takeM g x).2)), (35, .agg [o1, .int .i64 g.workers, .int .i64 g.cap].toArray), (36, .agg [o27, .int .i64 g.workers, .int .i64 g.cap].toArray), (37, .agg [o2, o3, o4, o5, o6, o7, o8, o9].toArray), (38, .agg [o28, o29, o30, o31, o32, o33, o34, o35].toArray), (39, .tuple [.agg [o36, o37, o38, o39, o40, o41, o42, o43].toArray, .bool ((takeM g x).2)].toArray), (40, .agg [o27, .int .i64 g.workers, .int .i64 g.cap].toArray), (41, .agg [o28, o29, o30, o31, o32, o33, o34, o35].toArray), (42, .tuple [.agg [o36, o37, o38, o39, o40, o41, o42, o43].toArray, .bool ((takeM g x).2)].toArray), (43, .agg [o36, o37, o38, o39, o40, o41, o42, o43].toArray), (44, .bool ((takeM g x).2)), (53, .bool ((!(decide (((takeM g x).1) = ((takeM g x).1)))) || (!(((takeM g x).2) == ((takeM g x).2)))))] (fun w' => w23 = w') ?_ ?_
      · refine J_if (gd := 49) rfl rfl (fun hg1 => ?_) (fun hg1 => ?_)
        · exact absurd hg1 (by first | (simp; done) | (simp only [nat_nlt] <;> simp) | (simp only [mkL_length, nat_nlt] <;> simp) | (simp only [mkL_length] <;> simp))
        · refine J_gd rfl rfl (R_move rfl) rfl (J_gd rfl rfl (R_move rfl) rfl (J_gd rfl rfl (R_neqB (Try.underlying4) rfl rfl) rfl (J_st (R_pickF rfl rfl) rfl (J_cutEnd ⟨rfl, rfl, rfl, rfl, rfl, rfl, rfl, rfl, rfl, rfl, rfl, rfl, rfl, rfl, rfl, rfl, rfl, rfl, rfl, rfl, rfl, rfl, rfl, rfl, rfl, rfl, rfl, rfl, rfl, rfl, rfl, rfl, rfl, rfl, rfl, rfl, rfl, rfl, rfl, rfl, congrArg (fun b => some (Value.bool b)) (show (!(((takeM g x).2) == ((takeM g x).2))) = ((!(decide (((takeM g x).1) = ((takeM g x).1)))) || (!(((takeM g x).2) == ((takeM g x).2)))) by first | (rw [hg1] <;> rfl) | (simp [hg1]; done) | (simp only [nat_nlt] <;> simp)), trivial⟩ rfl))))
      rintro _ rfl
      refine J_done ?_
      refine S_condFe rfl (by first | (simp; done) | (simp only [nat_nlt] <;> simp) | (simp only [mkL_length, nat_nlt] <;> simp) | (simp only [mkL_length] <;> simp)) ?_
      refine S_skip ?_
      refine S_seq ?_
      refine S_seq ?_
      refine S_regD mixed [(0, true), (1, true), (2, false), (3, false), (4, true)] (by decide +kernel) rfl (fun w25 e20 => ?_)
      replace E := E.trans e20; replace h1 := h1.ext e20; replace h2 := h2.ext e20; replace ho1 := ho1.ext e20; replace hw1 := hw1.ext e20; replace hw2 := hw2.ext e20; replace hw3 := hw3.ext e20; replace hw4 := hw4.ext e20; replace hw5 := hw5.ext e20; replace hw6 := hw6.ext e20; replace hw7 := hw7.ext e20; replace hw8 := hw8.ext e20; replace hw9 := hw9.ext e20; replace hw10 := hw10.ext e20; replace hw11 := hw11.ext e20; replace hw12 := hw12.ext e20; replace hw13 := hw13.ext e20; replace hw14 := hw14.ext e20; replace hw15 := hw15.ext e20; replace hw16 := hw16.ext e20; replace h3 := h3.ext e20; replace ho5 := ho5.ext e20; replace h4 := h4.ext e20; replace hw17 := hw17.ext e20; replace hw18 := hw18.ext e20; replace hw19 := hw19.ext e20; replace hw20 := hw20.ext e20; replace hw21 := hw21.ext e20; replace hw22 := hw22.ext e20; replace hw23 := hw23.ext e20; replace hw24 := hw24.ext e20; replace h5 := h5.ext e20; replace hw25 := hw25.ext e20; replace hw26 := hw26.ext e20; replace hw27 := hw27.ext e20; replace hw28 := hw28.ext e20; replace hw29 := hw29.ext e20; replace hw30 := hw30.ext e20; replace hw31 := hw31.ext e20; replace hw32 := hw32.ext e20; replace h6 := h6.ext e20
      have z25 := e20.size
      refine J_st (R_loadS st38 rfl h4.at rfl) rfl (J_st (R_loadS st24 rfl h1.at rfl) rfl ?_)
      refine J_call Try.call8 rfl (c_toGraph [o1, .int .i64 g.workers, .int .i64 g.cap] g _ (Graph.mkR g (RdD.any (hd1.ext E))) (by first | omega | (simp only [mkL_length]; omega) | (rw [mkL_length]; done) | (simp only [mkL_length]; done))) rfl (fun _ w26 e21 ho9 => ?_)
      obtain ⟨o44, rfl, ho9⟩ := ho9
      have g_ho9 : w.heap.size ≤ w25.heap.size := E.size
      replace E := E.trans e21; replace h1 := h1.ext e21; replace h2 := h2.ext e21; replace ho1 := ho1.ext e21; replace hw1 := hw1.ext e21; replace hw2 := hw2.ext e21; replace hw3 := hw3.ext e21; replace hw4 := hw4.ext e21; replace hw5 := hw5.ext e21; replace hw6 := hw6.ext e21; replace hw7 := hw7.ext e21; replace hw8 := hw8.ext e21; replace hw9 := hw9.ext e21; replace hw10 := hw10.ext e21; replace hw11 := hw11.ext e21; replace hw12 := hw12.ext e21; replace hw13 := hw13.ext e21; replace hw14 := hw14.ext e21; replace hw15 := hw15.ext e21; replace hw16 := hw16.ext e21; replace h3 := h3.ext e21; replace ho5 := ho5.ext e21; replace h4 := h4.ext e21; replace hw17 := hw17.ext e21; replace hw18 := hw18.ext e21; replace hw19 := hw19.ext e21; replace hw20 := hw20.ext e21; replace hw21 := hw21.ext e21; replace hw22 := hw22.ext e21; replace hw23 := hw23.ext e21; replace hw24 := hw24.ext e21; replace h5 := h5.ext e21; replace hw25 := hw25.ext e21; replace hw26 := hw26.ext e21; replace hw27 := hw27.ext e21; replace hw28 := hw28.ext e21; replace hw29 := hw29.ext e21; replace hw30 := hw30.ext e21; replace hw31 := hw31.ext e21; replace hw32 := hw32.ext e21; replace h6 := h6.ext e21
      have z26 := e21.size
      refine J_call Try.call14 rfl (c_eqGraph [o27, .int .i64 g.workers, .int .i64 g.cap] g [o44, .int .i64 g.workers, .int .i64 g.cap] g _ (Graph.mkR g (RdD.any (OwS.rd ho5))) (Graph.mkR g (RdD.any (OwS.rd ho9)))) rfl (fun _ w27 e22 hv => ?_)
      subst hv
      replace E := E.trans e22; replace h1 := h1.ext e22; replace h2 := h2.ext e22; replace ho1 := ho1.ext e22; replace hw1 := hw1.ext e22; replace hw2 := hw2.ext e22; replace hw3 := hw3.ext e22; replace hw4 := hw4.ext e22; replace hw5 := hw5.ext e22; replace hw6 := hw6.ext e22; replace hw7 := hw7.ext e22; replace hw8 := hw8.ext e22; replace hw9 := hw9.ext e22; replace hw10 := hw10.ext e22; replace hw11 := hw11.ext e22; replace hw12 := hw12.ext e22; replace hw13 := hw13.ext e22; replace hw14 := hw14.ext e22; replace hw15 := hw15.ext e22; replace hw16 := hw16.ext e22; replace h3 := h3.ext e22; replace ho5 := ho5.ext e22; replace h4 := h4.ext e22; replace hw17 := hw17.ext e22; replace hw18 := hw18.ext e22; replace hw19 := hw19.ext e22; replace hw20 := hw20.ext e22; replace hw21 := hw21.ext e22; replace hw22 := hw22.ext e22; replace hw23 := hw23.ext e22; replace hw24 := hw24.ext e22; replace h5 := h5.ext e22; replace hw25 := hw25.ext e22; replace hw26 := hw26.ext e22; replace hw27 := hw27.ext e22; replace hw28 := hw28.ext e22; replace hw29 := hw29.ext e22; replace hw30 := hw30.ext e22; replace hw31 := hw31.ext e22; replace hw32 := hw32.ext e22; replace h6 := h6.ext e22; replace ho9 := ho9.ext e22
      have z27 := e22.size
      refine J_st (R_not rfl) rfl (J_done ?_)
      refine S_condFe rfl (by first | (simp; done) | (simp only [nat_nlt] <;> simp) | (simp only [mkL_length, nat_nlt] <;> simp) | (simp only [mkL_length] <;> simp)) ?_
      refine S_skip ?_
      refine S_seq ?_
      refine S_seq ?_
      refine S_regD mixed [(0, true), (1, true), (2, false), (3, false), (4, true)] (by decide +kernel) rfl (fun w28 e23 => ?_)
      replace E := E.trans e23; replace h1 := h1.ext e23; replace h2 := h2.ext e23; replace ho1 := ho1.ext e23; replace hw1 := hw1.ext e23; replace hw2 := hw2.ext e23; replace hw3 := hw3.ext e23; replace hw4 := hw4.ext e23; replace hw5 := hw5.ext e23; replace hw6 := hw6.ext e23; replace hw7 := hw7.ext e23; replace hw8 := hw8.ext e23; replace hw9 := hw9.ext e23; replace hw10 := hw10.ext e23; replace hw11 := hw11.ext e23; replace hw12 := hw12.ext e23; replace hw13 := hw13.ext e23; replace hw14 := hw14.ext e23; replace hw15 := hw15.ext e23; replace hw16 := hw16.ext e23; replace h3 := h3.ext e23; replace ho5 := ho5.ext e23; replace h4 := h4.ext e23; replace hw17 := hw17.ext e23; replace hw18 := hw18.ext e23; replace hw19 := hw19.ext e23; replace hw20 := hw20.ext e23; replace hw21 := hw21.ext e23; replace hw22 := hw22.ext e23; replace hw23 := hw23.ext e23; replace hw24 := hw24.ext e23; replace h5 := h5.ext e23; replace hw25 := hw25.ext e23; replace hw26 := hw26.ext e23; replace hw27 := hw27.ext e23; replace hw28 := hw28.ext e23; replace hw29 := hw29.ext e23; replace hw30 := hw30.ext e23; replace hw31 := hw31.ext e23; replace hw32 := hw32.ext e23; replace h6 := h6.ext e23; replace ho9 := ho9.ext e23
      have z28 := e23.size
      refine J_st (R_loadS st61 rfl h5.at rfl) rfl (J_st (R_loadS st57 rfl h2.at rfl) rfl ?_)
      refine J_call Try.call22 rfl (c_toWorker [o2, o3, o4, o5, o6, o7, o8, o9] x _ (Worker.mkR x (RdD.any (hd2.ext E)) (RdD.any (hd3.ext E)) (RdD.any (hd4.ext E)) (RdD.any (hd5.ext E)) (RdD.any (hd6.ext E)) (RdD.any (hd7.ext E)) (RdD.any (hd8.ext E)) (RdD.any (hd9.ext E))) (by first | omega | (simp only [mkL_length]; omega) | (rw [mkL_length]; done) | (simp only [mkL_length]; done))) rfl (fun _ w29 e24 ho10 => ?_)
      obtain ⟨_, rfl, ho10⟩ := ho10
      have g_ho10 : w.heap.size ≤ w28.heap.size := E.size
      replace E := E.trans e24; replace h1 := h1.ext e24; replace h2 := h2.ext e24; replace ho1 := ho1.ext e24; replace hw1 := hw1.ext e24; replace hw2 := hw2.ext e24; replace hw3 := hw3.ext e24; replace hw4 := hw4.ext e24; replace hw5 := hw5.ext e24; replace hw6 := hw6.ext e24; replace hw7 := hw7.ext e24; replace hw8 := hw8.ext e24; replace hw9 := hw9.ext e24; replace hw10 := hw10.ext e24; replace hw11 := hw11.ext e24; replace hw12 := hw12.ext e24; replace hw13 := hw13.ext e24; replace hw14 := hw14.ext e24; replace hw15 := hw15.ext e24; replace hw16 := hw16.ext e24; replace h3 := h3.ext e24; replace ho5 := ho5.ext e24; replace h4 := h4.ext e24; replace hw17 := hw17.ext e24; replace hw18 := hw18.ext e24; replace hw19 := hw19.ext e24; replace hw20 := hw20.ext e24; replace hw21 := hw21.ext e24; replace hw22 := hw22.ext e24; replace hw23 := hw23.ext e24; replace hw24 := hw24.ext e24; replace h5 := h5.ext e24; replace hw25 := hw25.ext e24; replace hw26 := hw26.ext e24; replace hw27 := hw27.ext e24; replace hw28 := hw28.ext e24; replace hw29 := hw29.ext e24; replace hw30 := hw30.ext e24; replace hw31 := hw31.ext e24; replace hw32 := hw32.ext e24; replace h6 := h6.ext e24; replace ho9 := ho9.ext e24
      have z29 := e24.size
      obtain ⟨o45, o46, o47, o48, o49, o50, o51, o52, rfl, sp5, hw33, hw34, hw35, hw36, hw37, hw38, hw39, hw40⟩ := Worker.opO ho10
      refine J_call Try.call24 rfl (c_eqWorker [o28, o29, o30, o31, o32, o33, o34, o35] x [o45, o46, o47, o48, o49, o50, o51, o52] x _ (Worker.mkR x (RdD.any (Own.rdD hw17)) (RdD.any (Own.rdD hw18)) (RdD.any (Own.rdD hw19)) (RdD.any (Own.rdD hw20)) (RdD.any (Own.rdD hw21)) (RdD.any (Own.rdD hw22)) (RdD.any (Own.rdD hw23)) (RdD.any (Own.rdD hw24))) (Worker.mkR x (RdD.any (Own.rdD hw33)) (RdD.any (Own.rdD hw34)) (RdD.any (Own.rdD hw35)) (RdD.any (Own.rdD hw36)) (RdD.any (Own.rdD hw37)) (RdD.any (Own.rdD hw38)) (RdD.any (Own.rdD hw39)) (RdD.any (Own.rdD hw40)))) rfl (fun _ w30 e25 hv => ?_)
      subst hv
      replace E := E.trans e25; replace h1 := h1.ext e25; replace h2 := h2.ext e25; replace ho1 := ho1.ext e25; replace hw1 := hw1.ext e25; replace hw2 := hw2.ext e25; replace hw3 := hw3.ext e25; replace hw4 := hw4.ext e25; replace hw5 := hw5.ext e25; replace hw6 := hw6.ext e25; replace hw7 := hw7.ext e25; replace hw8 := hw8.ext e25; replace hw9 := hw9.ext e25; replace hw10 := hw10.ext e25; replace hw11 := hw11.ext e25; replace hw12 := hw12.ext e25; replace hw13 := hw13.ext e25; replace hw14 := hw14.ext e25; replace hw15 := hw15.ext e25; replace hw16 := hw16.ext e25; replace h3 := h3.ext e25; replace ho5 := ho5.ext e25; replace h4 := h4.ext e25; replace hw17 := hw17.ext e25; replace hw18 := hw18.ext e25; replace hw19 := hw19.ext e25; replace hw20 := hw20.ext e25; replace hw21 := hw21.ext e25; replace hw22 := hw22.ext e25; replace hw23 := hw23.ext e25; replace hw24 := hw24.ext e25; replace h5 := h5.ext e25; replace hw25 := hw25.ext e25; replace hw26 := hw26.ext e25; replace hw27 := hw27.ext e25; replace hw28 := hw28.ext e25; replace hw29 := hw29.ext e25; replace hw30 := hw30.ext e25; replace hw31 := hw31.ext e25; replace hw32 := hw32.ext e25; replace h6 := h6.ext e25; replace ho9 := ho9.ext e25; replace hw33 := hw33.ext e25; replace hw34 := hw34.ext e25; replace hw35 := hw35.ext e25; replace hw36 := hw36.ext e25; replace hw37 := hw37.ext e25; replace hw38 := hw38.ext e25; replace hw39 := hw39.ext e25; replace hw40 := hw40.ext e25
      have z30 := e25.size
      refine J_st (R_not rfl) rfl (J_done ?_)
      refine S_condFe rfl (by first | (simp; done) | (simp only [nat_nlt] <;> simp) | (simp only [mkL_length, nat_nlt] <;> simp) | (simp only [mkL_length] <;> simp)) ?_
      refine S_skip ?_
      refine S_seq ?_
      refine S_reg [true] rfl rfl ?_
      refine J_st (R_assign rfl) rfl (J_done ?_)
      refine S_seq ?_
      refine S_reg [true, true, false, true] rfl rfl ?_
      refine J_st (R_loadS st38 rfl h4.at rfl) rfl (J_st (R_move rfl) rfl ?_)
      refine J_callR Try.call15 rfl rfl (markGraph o27 w13.heap.size w14.heap.size g 1 _ ho5 (by omega) (by omega)) rfl (fun _ w31 e26 hv => ?_)
      obtain ⟨rfl, ho5'⟩ := hv
      replace ho5 := ho5'
      replace E := E.stepR e26 (by omega); replace h1 := h1.modR e26 (by omega); replace h2 := h2.modR e26 (by omega); replace ho1 := ho1.modR e26 (by omega); replace hw1 := hw1.modR e26 (by omega); replace hw2 := hw2.modR e26 (by omega); replace hw3 := hw3.modR e26 (by omega); replace hw4 := hw4.modR e26 (by omega); replace hw5 := hw5.modR e26 (by omega); replace hw6 := hw6.modR e26 (by omega); replace hw7 := hw7.modR e26 (by omega); replace hw8 := hw8.modR e26 (by omega); replace hw9 := hw9.modR e26 (by omega); replace hw10 := hw10.modR e26 (by omega); replace hw11 := hw11.modR e26 (by omega); replace hw12 := hw12.modR e26 (by omega); replace hw13 := hw13.modR e26 (by omega); replace hw14 := hw14.modR e26 (by omega); replace hw15 := hw15.modR e26 (by omega); replace hw16 := hw16.modR e26 (by omega); replace h3 := h3.modR e26 (by omega); replace h4 := h4.modR e26 (by omega); replace hw17 := hw17.modR e26 (by omega); replace hw18 := hw18.modR e26 (by omega); replace hw19 := hw19.modR e26 (by omega); replace hw20 := hw20.modR e26 (by omega); replace hw21 := hw21.modR e26 (by omega); replace hw22 := hw22.modR e26 (by omega); replace hw23 := hw23.modR e26 (by omega); replace hw24 := hw24.modR e26 (by omega); replace h5 := h5.modR e26 (by omega); replace hw25 := hw25.modR e26 (by omega); replace hw26 := hw26.modR e26 (by omega); replace hw27 := hw27.modR e26 (by omega); replace hw28 := hw28.modR e26 (by omega); replace hw29 := hw29.modR e26 (by omega); replace hw30 := hw30.modR e26 (by omega); replace hw31 := hw31.modR e26 (by omega); replace hw32 := hw32.modR e26 (by omega); replace h6 := h6.modR e26 (by omega); replace ho9 := ho9.modR e26 (by omega); replace hw33 := hw33.modR e26 (by omega); replace hw34 := hw34.modR e26 (by omega); replace hw35 := hw35.modR e26 (by omega); replace hw36 := hw36.modR e26 (by omega); replace hw37 := hw37.modR e26 (by omega); replace hw38 := hw38.modR e26 (by omega); replace hw39 := hw39.modR e26 (by omega); replace hw40 := hw40.modR e26 (by omega)
      have z31 := e26.size
      refine J_st (R_assign rfl) rfl (J_done ?_)
      refine S_seq ?_
      refine S_reg [true, true, false, true] rfl rfl ?_
      refine J_st (R_loadS st61 rfl h5.at rfl) rfl (J_st (R_move rfl) rfl ?_)
      refine J_callR Try.call25 rfl rfl (markWorker [o28, o29, o30, o31, o32, o33, o34, o35] w16.heap.size w17.heap.size x (numNs 1 g.nodes) _ (Worker.mkO x sp3 (Own.widen hw17 (by omega) (by omega)) (Own.widen hw18 (by omega) (by omega)) (Own.widen hw19 (by omega) (by omega)) (Own.widen hw20 (by omega) (by omega)) (Own.widen hw21 (by omega) (by omega)) (Own.widen hw22 (by omega) (by omega)) (Own.widen hw23 (by omega) (by omega)) (Own.widen hw24 (by omega) (by omega))) (by omega) (by omega)) rfl (fun _ w32 e27 hv => ?_)
      obtain ⟨rfl, hq1⟩ := hv
      replace E := E.stepR e27 (by omega); replace h1 := h1.modR e27 (by omega); replace h2 := h2.modR e27 (by omega); replace ho1 := ho1.modR e27 (by omega); replace hw1 := hw1.modR e27 (by omega); replace hw2 := hw2.modR e27 (by omega); replace hw3 := hw3.modR e27 (by omega); replace hw4 := hw4.modR e27 (by omega); replace hw5 := hw5.modR e27 (by omega); replace hw6 := hw6.modR e27 (by omega); replace hw7 := hw7.modR e27 (by omega); replace hw8 := hw8.modR e27 (by omega); replace hw9 := hw9.modR e27 (by omega); replace hw10 := hw10.modR e27 (by omega); replace hw11 := hw11.modR e27 (by omega); replace hw12 := hw12.modR e27 (by omega); replace hw13 := hw13.modR e27 (by omega); replace hw14 := hw14.modR e27 (by omega); replace hw15 := hw15.modR e27 (by omega); replace hw16 := hw16.modR e27 (by omega); replace h3 := h3.modR e27 (by omega); replace ho5 := ho5.modR e27 (by omega); replace h4 := h4.modR e27 (by omega); replace h5 := h5.modR e27 (by omega); replace hw25 := hw25.modR e27 (by omega); replace hw26 := hw26.modR e27 (by omega); replace hw27 := hw27.modR e27 (by omega); replace hw28 := hw28.modR e27 (by omega); replace hw29 := hw29.modR e27 (by omega); replace hw30 := hw30.modR e27 (by omega); replace hw31 := hw31.modR e27 (by omega); replace hw32 := hw32.modR e27 (by omega); replace h6 := h6.modR e27 (by omega); replace ho9 := ho9.modR e27 (by omega); replace hw33 := hw33.modR e27 (by omega); replace hw34 := hw34.modR e27 (by omega); replace hw35 := hw35.modR e27 (by omega); replace hw36 := hw36.modR e27 (by omega); replace hw37 := hw37.modR e27 (by omega); replace hw38 := hw38.modR e27 (by omega); replace hw39 := hw39.modR e27 (by omega); replace hw40 := hw40.modR e27 (by omega)
      have z32 := e27.size
      obtain ⟨sp6, hw17, hw18, hw19, hw20, hw21, hw22, hw23, hw24⟩ := Worker.opL hq1
      refine J_st (R_assign rfl) rfl (J_done ?_)
      refine S_seq ?_
      refine S_seq ?_
      refine S_reg [true, true, true, true, true, false, true, true, true, true, true, true, true] rfl rfl ?_
      refine J_st (R_move rfl) rfl (J_st (R_lss rfl rfl) rfl (J_st (R_move rfl) rfl ?_))
      refine J_cut 10 [(0, .agg [o1, .int .i64 g.workers, .int .i64 g.cap].toArray), (1, .agg [o2, o3, o4, o5, o6, o7, o8, o9].toArray), (2, .pointer (some ⟨b1, 0, none⟩)), (3, .pointer (some ⟨b2, 0, none⟩)), (4, .bool false), (5, .int .i64 (szM (cntWorker x) (szM (cntGraph g) 1048576))), (6, .pointer (some ⟨b3, 0, none⟩)), (7, .bool ((takeM g x).2)), (8, .pointer (some ⟨b4, 0, none⟩)), (9, .pointer (some ⟨b5, 0, none⟩)), (10, .pointer (some ⟨b6, 0, none⟩)), (11, .bool ((takeM g x).2)), (12, .int .i64 ((numW (numNs 1 g.nodes) x : Nat) : Int)), (17, .agg [o1, .int .i64 g.workers, .int .i64 g.cap].toArray), (18, .int .i64 1048576), (19, .int .i64 (szM (cntGraph g) 1048576)), (20, .int .i64 (szM (cntGraph g) 1048576)), (21, .bool (decide ((szM (cntGraph g) 1048576) < 0))), (22, .agg [o2, o3, o4, o5, o6, o7, o8, o9].toArray), (23, .int .i64 (szM (cntGraph g) 1048576)), (24, .int .i64 (szM (cntWorker x) (szM (cntGraph g) 1048576))), (25, .int .i64 (szM (cntWorker x) (szM (cntGraph g) 1048576))), (26, .bool (decide ((szM (cntWorker x) (szM (cntGraph g) 1048576)) < 0))), (27, .tuple [.agg [o19, o20, o21, o22, o23, o24, o25, o26].toArray, .bool ((takeM g x).2)].toArray), (28, .agg [o1, .int .i64 g.workers, .int .i64 g.cap].toArray), (29, .agg [o10, .int .i64 g.workers, .int .i64 g.cap].toArray), (30, .agg [o2, o3, o4, o5, o6, o7, o8, o9].toArray), (31, .agg [o11, o12, o13, o14, o15, o16, o17, o18].toArray), (32, .tuple [.agg [o19, o20, o21, o22, o23, o24, o25, o26].toArray, .bool ((takeM g x).2)].toArray), (33, .agg [o19, o20, o21, o22, o23, o24, o25, o26].toArray), (34, .bool ((takeM g x).2)), (35, .agg [o1, .int .i64 g.workers, .int .i64 g.cap].toArray), (36, .agg [o27, .int .i64 g.workers, .int .i64 g.cap].toArray), (37, .agg [o2, o3, o4, o5, o6, o7, o8, o9].toArray), (38, .agg [o28, o29, o30, o31, o32, o33, o34, o35].toArray), (39, .tuple [.agg [o36, o37, o38, o39, o40, o41, o42, o43].toArray, .bool ((takeM g x).2)].toArray), (40, .agg [o27, .int .i64 g.workers, .int .i64 g.cap].toArray), (41, .agg [o28, o29, o30, o31, o32, o33, o34, o35].toArray), (42, .tuple [.agg [o36, o37, o38, o39, o40, o41, o42, o43].toArray, .bool ((takeM g x).2)].toArray), (43, .agg [o36, o37, o38, o39, o40, o41, o42, o43].toArray), (44, .bool ((takeM g x).2)), (53, .bool ((!(decide (((takeM g x).1) = ((takeM g x).1)))) || (!(((takeM g x).2) == ((takeM g x).2))))), (54, .agg [o27, .int .i64 g.workers, .int .i64 g.cap].toArray), (55, .agg [o1, .int .i64 g.workers, .int .i64 g.cap].toArray), (56, .agg [o44, .int .i64 g.workers, .int .i64 g.cap].toArray), (57, .bool (decide (g = g))), (58, .bool (!(decide (g = g)))), (59, .agg [o28, o29, o30, o31, o32, o33, o34, o35].toArray), (60, .agg [o2, o3, o4, o5, o6, o7, o8, o9].toArray), (61, .agg [o45, o46, o47, o48, o49, o50, o51, o52].toArray), (62, .bool (decide (x = x))), (63, .bool (!(decide (x = x)))), (64, .agg [o27, .int .i64 g.workers, .int .i64 g.cap].toArray), (65, .int .i64 1), (66, .int .i64 ((numNs 1 g.nodes : Nat) : Int)), (67, .agg [o28, o29, o30, o31, o32, o33, o34, o35].toArray), (68, .int .i64 ((numNs 1 g.nodes : Nat) : Int)), (69, .int .i64 ((numW (numNs 1 g.nodes) x : Nat) : Int)), (82, .bool (((decide (((numW (numNs 1 g.nodes) x : Nat) : Int) < 0)) || (!(decide (((takeM g x).1) = ((takeM g x).1))))) || (!(((takeM g x).2) == ((takeM g x).2)))))] (fun w' => Ext w w' ∧ w32.heap.size ≤ w'.heap.size ∧ Blk w' b1 ([o1, .int .i64 g.workers, .int .i64 g.cap]) ∧ Blk w' b2 ([o2, o3, o4, o5, o6, o7, o8, o9]) ∧ OwS w' w6.heap.size w7.heap.size o10 g.nodes ∧ Own w' w8.heap.size w9.heap.size 5 o11 (List.flatMap (Enc.enc (α := Record)) x.queue) ∧ Own w' w8.heap.size w9.heap.size 5 o12 (List.flatMap (Enc.enc (α := Record)) x.staged) ∧ Own w' w8.heap.size w9.heap.size 5 o13 (List.flatMap (Enc.enc (α := Record)) x.inputs) ∧ Own w' w8.heap.size w9.heap.size 4 o14 (List.flatMap (Enc.enc (α := Cell)) x.cells) ∧ Own w' w8.heap.size w9.heap.size 1 o15 (List.flatMap (Enc.enc (α := Int)) x.sums) ∧ Own w' w8.heap.size w9.heap.size 1 o16 (List.flatMap (Enc.enc (α := Bool)) x.black) ∧ Own w' w8.heap.size w9.heap.size 1 o17 (List.flatMap (Enc.enc (α := Bool)) x.caps) ∧ Own w' w8.heap.size w9.heap.size 2 o18 (List.flatMap (Enc.enc (α := Done)) x.dones) ∧ Own w' w10.heap.size w11.heap.size 5 o19 (List.flatMap (Enc.enc (α := Record)) (((takeM g x).1).queue)) ∧ Own w' w10.heap.size w11.heap.size 5 o20 (List.flatMap (Enc.enc (α := Record)) (((takeM g x).1).staged)) ∧ Own w' w10.heap.size w11.heap.size 5 o21 (List.flatMap (Enc.enc (α := Record)) (((takeM g x).1).inputs)) ∧ Own w' w10.heap.size w11.heap.size 4 o22 (List.flatMap (Enc.enc (α := Cell)) (((takeM g x).1).cells)) ∧ Own w' w10.heap.size w11.heap.size 1 o23 (List.flatMap (Enc.enc (α := Int)) (((takeM g x).1).sums)) ∧ Own w' w10.heap.size w11.heap.size 1 o24 (List.flatMap (Enc.enc (α := Bool)) (((takeM g x).1).black)) ∧ Own w' w10.heap.size w11.heap.size 1 o25 (List.flatMap (Enc.enc (α := Bool)) (((takeM g x).1).caps)) ∧ Own w' w10.heap.size w11.heap.size 2 o26 (List.flatMap (Enc.enc (α := Done)) (((takeM g x).1).dones)) ∧ Blk w' b3 [o19, o20, o21, o22, o23, o24, o25, o26] ∧ OwS w' w13.heap.size w14.heap.size o27 (markNs 1 g.nodes) ∧ Blk w' b4 [o27, .int .i64 g.workers, .int .i64 g.cap] ∧ Blk w' b5 [o28, o29, o30, o31, o32, o33, o34, o35] ∧ Own w' w19.heap.size w20.heap.size 5 o36 (List.flatMap (Enc.enc (α := Record)) (((takeM g x).1).queue)) ∧ Own w' w19.heap.size w20.heap.size 5 o37 (List.flatMap (Enc.enc (α := Record)) (((takeM g x).1).staged)) ∧ Own w' w19.heap.size w20.heap.size 5 o38 (List.flatMap (Enc.enc (α := Record)) (((takeM g x).1).inputs)) ∧ Own w' w19.heap.size w20.heap.size 4 o39 (List.flatMap (Enc.enc (α := Cell)) (((takeM g x).1).cells)) ∧ Own w' w19.heap.size w20.heap.size 1 o40 (List.flatMap (Enc.enc (α := Int)) (((takeM g x).1).sums)) ∧ Own w' w19.heap.size w20.heap.size 1 o41 (List.flatMap (Enc.enc (α := Bool)) (((takeM g x).1).black)) ∧ Own w' w19.heap.size w20.heap.size 1 o42 (List.flatMap (Enc.enc (α := Bool)) (((takeM g x).1).caps)) ∧ Own w' w19.heap.size w20.heap.size 2 o43 (List.flatMap (Enc.enc (α := Done)) (((takeM g x).1).dones)) ∧ Blk w' b6 [o36, o37, o38, o39, o40, o41, o42, o43] ∧ OwS w' w25.heap.size w26.heap.size o44 g.nodes ∧ Own w' w28.heap.size w29.heap.size 5 o45 (List.flatMap (Enc.enc (α := Record)) x.queue) ∧ Own w' w28.heap.size w29.heap.size 5 o46 (List.flatMap (Enc.enc (α := Record)) x.staged) ∧ Own w' w28.heap.size w29.heap.size 5 o47 (List.flatMap (Enc.enc (α := Record)) x.inputs) ∧ Own w' w28.heap.size w29.heap.size 4 o48 (List.flatMap (Enc.enc (α := Cell)) x.cells) ∧ Own w' w28.heap.size w29.heap.size 1 o49 (List.flatMap (Enc.enc (α := Int)) x.sums) ∧ Own w' w28.heap.size w29.heap.size 1 o50 (List.flatMap (Enc.enc (α := Bool)) x.black) ∧ Own w' w28.heap.size w29.heap.size 1 o51 (List.flatMap (Enc.enc (α := Bool)) x.caps) ∧ Own w' w28.heap.size w29.heap.size 2 o52 (List.flatMap (Enc.enc (α := Done)) x.dones) ∧ Own w' w16.heap.size w17.heap.size 5 o28 (List.flatMap (Enc.enc (α := Record)) ((markW (numNs 1 g.nodes) x).queue)) ∧ Own w' w16.heap.size w17.heap.size 5 o29 (List.flatMap (Enc.enc (α := Record)) ((markW (numNs 1 g.nodes) x).staged)) ∧ Own w' w16.heap.size w17.heap.size 5 o30 (List.flatMap (Enc.enc (α := Record)) ((markW (numNs 1 g.nodes) x).inputs)) ∧ Own w' w16.heap.size w17.heap.size 4 o31 (List.flatMap (Enc.enc (α := Cell)) ((markW (numNs 1 g.nodes) x).cells)) ∧ Own w' w16.heap.size w17.heap.size 1 o32 (List.flatMap (Enc.enc (α := Int)) ((markW (numNs 1 g.nodes) x).sums)) ∧ Own w' w16.heap.size w17.heap.size 1 o33 (List.flatMap (Enc.enc (α := Bool)) ((markW (numNs 1 g.nodes) x).black)) ∧ Own w' w16.heap.size w17.heap.size 1 o34 (List.flatMap (Enc.enc (α := Bool)) ((markW (numNs 1 g.nodes) x).caps)) ∧ Own w' w16.heap.size w17.heap.size 2 o35 (List.flatMap (Enc.enc (α := Done)) ((markW (numNs 1 g.nodes) x).dones))) ?_ ?_
      · refine J_if (gd := 72) rfl rfl (fun hg2 => ?_) (fun hg2 => ?_)
        · exact absurd hg2 (by first | (simp; done) | (simp only [nat_nlt] <;> simp) | (simp only [mkL_length, nat_nlt] <;> simp) | (simp only [mkL_length] <;> simp))
        · have hg2n : ¬ numW (numNs 1 g.nodes) x < 0 := by first | (have h := of_decide_eq_false hg2; omega) | (have h := hg2; simp at h; omega)
          refine J_gd rfl rfl (R_loadS st61 rfl h6.at rfl) rfl (J_gd rfl rfl (R_loadS st61 rfl h3.at rfl) rfl ?_)
          refine J_ung rfl rfl ?_
          refine J_call Try.call24 rfl (c_eqWorker [o36, o37, o38, o39, o40, o41, o42, o43] ((takeM g x).1) [o19, o20, o21, o22, o23, o24, o25, o26] ((takeM g x).1) _ (Worker.mkR ((takeM g x).1) (RdD.any (Own.rdD hw25)) (RdD.any (Own.rdD hw26)) (RdD.any (Own.rdD hw27)) (RdD.any (Own.rdD hw28)) (RdD.any (Own.rdD hw29)) (RdD.any (Own.rdD hw30)) (RdD.any (Own.rdD hw31)) (RdD.any (Own.rdD hw32))) (Worker.mkR ((takeM g x).1) (RdD.any (Own.rdD hw9)) (RdD.any (Own.rdD hw10)) (RdD.any (Own.rdD hw11)) (RdD.any (Own.rdD hw12)) (RdD.any (Own.rdD hw13)) (RdD.any (Own.rdD hw14)) (RdD.any (Own.rdD hw15)) (RdD.any (Own.rdD hw16)))) rfl (fun _ w34 e28 hv => ?_)
          subst hv
          replace E := E.trans e28; replace h1 := h1.ext e28; replace h2 := h2.ext e28; replace ho1 := ho1.ext e28; replace hw1 := hw1.ext e28; replace hw2 := hw2.ext e28; replace hw3 := hw3.ext e28; replace hw4 := hw4.ext e28; replace hw5 := hw5.ext e28; replace hw6 := hw6.ext e28; replace hw7 := hw7.ext e28; replace hw8 := hw8.ext e28; replace hw9 := hw9.ext e28; replace hw10 := hw10.ext e28; replace hw11 := hw11.ext e28; replace hw12 := hw12.ext e28; replace hw13 := hw13.ext e28; replace hw14 := hw14.ext e28; replace hw15 := hw15.ext e28; replace hw16 := hw16.ext e28; replace h3 := h3.ext e28; replace ho5 := ho5.ext e28; replace h4 := h4.ext e28; replace h5 := h5.ext e28; replace hw25 := hw25.ext e28; replace hw26 := hw26.ext e28; replace hw27 := hw27.ext e28; replace hw28 := hw28.ext e28; replace hw29 := hw29.ext e28; replace hw30 := hw30.ext e28; replace hw31 := hw31.ext e28; replace hw32 := hw32.ext e28; replace h6 := h6.ext e28; replace ho9 := ho9.ext e28; replace hw33 := hw33.ext e28; replace hw34 := hw34.ext e28; replace hw35 := hw35.ext e28; replace hw36 := hw36.ext e28; replace hw37 := hw37.ext e28; replace hw38 := hw38.ext e28; replace hw39 := hw39.ext e28; replace hw40 := hw40.ext e28; replace hw17 := hw17.ext e28; replace hw18 := hw18.ext e28; replace hw19 := hw19.ext e28; replace hw20 := hw20.ext e28; replace hw21 := hw21.ext e28; replace hw22 := hw22.ext e28; replace hw23 := hw23.ext e28; replace hw24 := hw24.ext e28
          have z33 := e28.size
          refine J_gd rfl rfl (R_not rfl) rfl (J_st (R_pickF rfl rfl) rfl (J_st (R_move rfl) rfl ?_))
          refine J_if (gd := 78) rfl rfl (fun hg3 => ?_) (fun hg3 => ?_)
          · exact absurd hg3 (by first | (simp; done) | (simp only [nat_nlt] <;> simp) | (simp only [mkL_length, nat_nlt] <;> simp) | (simp only [mkL_length] <;> simp))
          · refine J_gd rfl rfl (R_move rfl) rfl (J_gd rfl rfl (R_move rfl) rfl (J_gd rfl rfl (R_neqB (Try.underlying4) rfl rfl) rfl (J_st (R_pickF rfl rfl) rfl (J_cutEnd ⟨rfl, rfl, rfl, rfl, rfl, rfl, rfl, rfl, rfl, rfl, rfl, rfl, rfl, rfl, rfl, rfl, rfl, rfl, rfl, rfl, rfl, rfl, rfl, rfl, rfl, rfl, rfl, rfl, rfl, rfl, rfl, rfl, rfl, rfl, rfl, rfl, rfl, rfl, rfl, rfl, rfl, rfl, rfl, rfl, rfl, rfl, rfl, rfl, rfl, rfl, rfl, rfl, rfl, rfl, rfl, rfl, rfl, rfl, congrArg (fun b => some (Value.bool b)) (show (!(((takeM g x).2) == ((takeM g x).2))) = (((decide (((numW (numNs 1 g.nodes) x : Nat) : Int) < 0)) || (!(decide (((takeM g x).1) = ((takeM g x).1))))) || (!(((takeM g x).2) == ((takeM g x).2)))) by first | (rw [hg2, hg3] <;> rfl) | (simp [hg2, hg3]; done) | (simp only [nat_nlt] <;> simp)), trivial⟩ ⟨E, (by omega), h1, h2, ho1, hw1, hw2, hw3, hw4, hw5, hw6, hw7, hw8, hw9, hw10, hw11, hw12, hw13, hw14, hw15, hw16, h3, ho5, h4, h5, hw25, hw26, hw27, hw28, hw29, hw30, hw31, hw32, h6, ho9, hw33, hw34, hw35, hw36, hw37, hw38, hw39, hw40, hw17, hw18, hw19, hw20, hw21, hw22, hw23, hw24⟩))))
      clear E h1 h2 ho1 hw1 hw2 hw3 hw4 hw5 hw6 hw7 hw8 hw9 hw10 hw11 hw12 hw13 hw14 hw15 hw16 h3 ho5 h4 h5 hw25 hw26 hw27 hw28 hw29 hw30 hw31 hw32 h6 ho9 hw33 hw34 hw35 hw36 hw37 hw38 hw39 hw40 hw17 hw18 hw19 hw20 hw21 hw22 hw23 hw24
      rintro w33 ⟨E, z34, h1, h2, ho1, hw1, hw2, hw3, hw4, hw5, hw6, hw7, hw8, hw9, hw10, hw11, hw12, hw13, hw14, hw15, hw16, h3, ho5, h4, h5, hw25, hw26, hw27, hw28, hw29, hw30, hw31, hw32, h6, ho9, hw33, hw34, hw35, hw36, hw37, hw38, hw39, hw40, hw17, hw18, hw19, hw20, hw21, hw22, hw23, hw24⟩
      refine J_done ?_
      refine S_condFe rfl (by first | (simp; done) | (simp only [nat_nlt] <;> simp) | (simp only [mkL_length, nat_nlt] <;> simp) | (simp only [mkL_length] <;> simp)) ?_
      refine S_skip ?_
      refine S_seq ?_
      refine S_reg [true] rfl rfl ?_
      refine J_st (R_assign rfl) rfl (J_done ?_)
      refine S_seq ?_
      refine S_reg [true, true, false, true] rfl rfl ?_
      refine J_st (R_loadS st61 rfl h6.at rfl) rfl (J_st (R_move rfl) rfl ?_)
      refine J_callR Try.call25 rfl rfl (markWorker [o36, o37, o38, o39, o40, o41, o42, o43] w19.heap.size w20.heap.size ((takeM g x).1) 1 _ (Worker.mkO ((takeM g x).1) sp4 (Own.widen hw25 (by omega) (by omega)) (Own.widen hw26 (by omega) (by omega)) (Own.widen hw27 (by omega) (by omega)) (Own.widen hw28 (by omega) (by omega)) (Own.widen hw29 (by omega) (by omega)) (Own.widen hw30 (by omega) (by omega)) (Own.widen hw31 (by omega) (by omega)) (Own.widen hw32 (by omega) (by omega))) (by omega) (by omega)) rfl (fun _ w35 e29 hv => ?_)
      obtain ⟨rfl, hq2⟩ := hv
      replace E := E.stepR e29 (by omega); replace h1 := h1.modR e29 (by omega); replace h2 := h2.modR e29 (by omega); replace ho1 := ho1.modR e29 (by omega); replace hw1 := hw1.modR e29 (by omega); replace hw2 := hw2.modR e29 (by omega); replace hw3 := hw3.modR e29 (by omega); replace hw4 := hw4.modR e29 (by omega); replace hw5 := hw5.modR e29 (by omega); replace hw6 := hw6.modR e29 (by omega); replace hw7 := hw7.modR e29 (by omega); replace hw8 := hw8.modR e29 (by omega); replace hw9 := hw9.modR e29 (by omega); replace hw10 := hw10.modR e29 (by omega); replace hw11 := hw11.modR e29 (by omega); replace hw12 := hw12.modR e29 (by omega); replace hw13 := hw13.modR e29 (by omega); replace hw14 := hw14.modR e29 (by omega); replace hw15 := hw15.modR e29 (by omega); replace hw16 := hw16.modR e29 (by omega); replace h3 := h3.modR e29 (by omega); replace ho5 := ho5.modR e29 (by omega); replace h4 := h4.modR e29 (by omega); replace h5 := h5.modR e29 (by omega); replace h6 := h6.modR e29 (by omega); replace ho9 := ho9.modR e29 (by omega); replace hw33 := hw33.modR e29 (by omega); replace hw34 := hw34.modR e29 (by omega); replace hw35 := hw35.modR e29 (by omega); replace hw36 := hw36.modR e29 (by omega); replace hw37 := hw37.modR e29 (by omega); replace hw38 := hw38.modR e29 (by omega); replace hw39 := hw39.modR e29 (by omega); replace hw40 := hw40.modR e29 (by omega); replace hw17 := hw17.modR e29 (by omega); replace hw18 := hw18.modR e29 (by omega); replace hw19 := hw19.modR e29 (by omega); replace hw20 := hw20.modR e29 (by omega); replace hw21 := hw21.modR e29 (by omega); replace hw22 := hw22.modR e29 (by omega); replace hw23 := hw23.modR e29 (by omega); replace hw24 := hw24.modR e29 (by omega)
      have z35 := e29.size
      obtain ⟨sp7, hw25, hw26, hw27, hw28, hw29, hw30, hw31, hw32⟩ := Worker.opL hq2
      refine J_st (R_assign rfl) rfl (J_done ?_)
      refine S_seq ?_
      refine S_reg [true] rfl rfl ?_
      refine J_st (R_assign rfl) rfl (J_done ?_)
      refine S_seq ?_
      refine S_reg [true, true, false, true] rfl rfl ?_
      refine J_st (R_loadS st61 rfl h6.at rfl) rfl (J_st (R_move rfl) rfl ?_)
      refine J_call Try.call26 rfl (heldWorker [o36, o37, o38, o39, o40, o41, o42, o43] (markW 1 ((takeM g x).1)) 1 _ (Worker.mkR (markW 1 ((takeM g x).1)) (RdD.any (Own.rdD hw25)) (RdD.any (Own.rdD hw26)) (RdD.any (Own.rdD hw27)) (RdD.any (Own.rdD hw28)) (RdD.any (Own.rdD hw29)) (RdD.any (Own.rdD hw30)) (RdD.any (Own.rdD hw31)) (RdD.any (Own.rdD hw32))) (markW_idem _ _) (by rw [cntW_mark]; omega)) rfl (fun _ w36 e30 hv => ?_)
      subst hv
      replace E := E.trans e30; replace h1 := h1.ext e30; replace h2 := h2.ext e30; replace ho1 := ho1.ext e30; replace hw1 := hw1.ext e30; replace hw2 := hw2.ext e30; replace hw3 := hw3.ext e30; replace hw4 := hw4.ext e30; replace hw5 := hw5.ext e30; replace hw6 := hw6.ext e30; replace hw7 := hw7.ext e30; replace hw8 := hw8.ext e30; replace hw9 := hw9.ext e30; replace hw10 := hw10.ext e30; replace hw11 := hw11.ext e30; replace hw12 := hw12.ext e30; replace hw13 := hw13.ext e30; replace hw14 := hw14.ext e30; replace hw15 := hw15.ext e30; replace hw16 := hw16.ext e30; replace h3 := h3.ext e30; replace ho5 := ho5.ext e30; replace h4 := h4.ext e30; replace h5 := h5.ext e30; replace h6 := h6.ext e30; replace ho9 := ho9.ext e30; replace hw33 := hw33.ext e30; replace hw34 := hw34.ext e30; replace hw35 := hw35.ext e30; replace hw36 := hw36.ext e30; replace hw37 := hw37.ext e30; replace hw38 := hw38.ext e30; replace hw39 := hw39.ext e30; replace hw40 := hw40.ext e30; replace hw17 := hw17.ext e30; replace hw18 := hw18.ext e30; replace hw19 := hw19.ext e30; replace hw20 := hw20.ext e30; replace hw21 := hw21.ext e30; replace hw22 := hw22.ext e30; replace hw23 := hw23.ext e30; replace hw24 := hw24.ext e30; replace hw25 := hw25.ext e30; replace hw26 := hw26.ext e30; replace hw27 := hw27.ext e30; replace hw28 := hw28.ext e30; replace hw29 := hw29.ext e30; replace hw30 := hw30.ext e30; replace hw31 := hw31.ext e30; replace hw32 := hw32.ext e30
      have z36 := e30.size
      refine J_st (R_assign rfl) rfl (J_done ?_)
      refine S_seq ?_
      refine S_seq ?_
      refine S_reg [true, true] rfl rfl ?_
      refine J_st (R_move rfl) rfl (J_st (R_lss rfl rfl) rfl (J_done ?_))
      refine S_condFe rfl (by first | (simp; done) | (simp only [nat_nlt] <;> simp) | (simp only [mkL_length, nat_nlt] <;> simp) | (simp only [mkL_length] <;> simp)) ?_
      refine S_skip ?_
      refine S_seq ?_
      refine S_seq ?_
      refine S_reg [true, true, true] rfl rfl ?_
      refine J_st (R_move rfl) rfl (J_st (R_move rfl) rfl (J_st (R_neq rfl rfl) rfl (J_done ?_)))
      refine S_condFe rfl (by rw [numW_mark]; simp) ?_
      refine S_skip ?_
      refine S_seq ?_
      refine S_regF mixed [] 8 15 [] [(0, true), (2, true)] [(1, false), (3, false), (4, false), (5, true), (6, true), (7, true)] [(9, false), (10, true)] (fun b => .pointer (some ⟨b, 0, none⟩)) (z := [.slice none 0 0, .slice none 0 0, .slice none 0 0, .slice none 0 0, .slice none 0 0, .slice none 0 0, .slice none 0 0, .slice none 0 0]) (by decide +kernel) rfl rfl rfl rfl rfl rfl rfl [(0, .agg [o1, .int .i64 g.workers, .int .i64 g.cap].toArray), (1, .agg [o2, o3, o4, o5, o6, o7, o8, o9].toArray), (2, .pointer (some ⟨b1, 0, none⟩)), (3, .pointer (some ⟨b2, 0, none⟩)), (4, .bool false), (5, .int .i64 (szM (cntWorker x) (szM (cntGraph g) 1048576))), (6, .pointer (some ⟨b3, 0, none⟩)), (7, .bool ((takeM g x).2)), (8, .pointer (some ⟨b4, 0, none⟩)), (9, .pointer (some ⟨b5, 0, none⟩)), (10, .pointer (some ⟨b6, 0, none⟩)), (11, .bool ((takeM g x).2)), (12, .int .i64 ((numW (numNs 1 g.nodes) x : Nat) : Int)), (13, .int .i64 ((numW 1 ((takeM g x).1) : Nat) : Int)), (14, .int .i64 ((numW 1 (markW 1 ((takeM g x).1)) : Nat) : Int)), (17, .agg [o1, .int .i64 g.workers, .int .i64 g.cap].toArray), (18, .int .i64 1048576), (19, .int .i64 (szM (cntGraph g) 1048576)), (20, .int .i64 (szM (cntGraph g) 1048576)), (21, .bool (decide ((szM (cntGraph g) 1048576) < 0))), (22, .agg [o2, o3, o4, o5, o6, o7, o8, o9].toArray), (23, .int .i64 (szM (cntGraph g) 1048576)), (24, .int .i64 (szM (cntWorker x) (szM (cntGraph g) 1048576))), (25, .int .i64 (szM (cntWorker x) (szM (cntGraph g) 1048576))), (26, .bool (decide ((szM (cntWorker x) (szM (cntGraph g) 1048576)) < 0))), (27, .tuple [.agg [o19, o20, o21, o22, o23, o24, o25, o26].toArray, .bool ((takeM g x).2)].toArray), (28, .agg [o1, .int .i64 g.workers, .int .i64 g.cap].toArray), (29, .agg [o10, .int .i64 g.workers, .int .i64 g.cap].toArray), (30, .agg [o2, o3, o4, o5, o6, o7, o8, o9].toArray), (31, .agg [o11, o12, o13, o14, o15, o16, o17, o18].toArray), (32, .tuple [.agg [o19, o20, o21, o22, o23, o24, o25, o26].toArray, .bool ((takeM g x).2)].toArray), (33, .agg [o19, o20, o21, o22, o23, o24, o25, o26].toArray), (34, .bool ((takeM g x).2)), (35, .agg [o1, .int .i64 g.workers, .int .i64 g.cap].toArray), (36, .agg [o27, .int .i64 g.workers, .int .i64 g.cap].toArray), (37, .agg [o2, o3, o4, o5, o6, o7, o8, o9].toArray), (38, .agg [o28, o29, o30, o31, o32, o33, o34, o35].toArray), (39, .tuple [.agg [o36, o37, o38, o39, o40, o41, o42, o43].toArray, .bool ((takeM g x).2)].toArray), (40, .agg [o27, .int .i64 g.workers, .int .i64 g.cap].toArray), (41, .agg [o28, o29, o30, o31, o32, o33, o34, o35].toArray), (42, .tuple [.agg [o36, o37, o38, o39, o40, o41, o42, o43].toArray, .bool ((takeM g x).2)].toArray), (43, .agg [o36, o37, o38, o39, o40, o41, o42, o43].toArray), (44, .bool ((takeM g x).2)), (53, .bool ((!(decide (((takeM g x).1) = ((takeM g x).1)))) || (!(((takeM g x).2) == ((takeM g x).2))))), (54, .agg [o27, .int .i64 g.workers, .int .i64 g.cap].toArray), (55, .agg [o1, .int .i64 g.workers, .int .i64 g.cap].toArray), (56, .agg [o44, .int .i64 g.workers, .int .i64 g.cap].toArray), (57, .bool (decide (g = g))), (58, .bool (!(decide (g = g)))), (59, .agg [o28, o29, o30, o31, o32, o33, o34, o35].toArray), (60, .agg [o2, o3, o4, o5, o6, o7, o8, o9].toArray), (61, .agg [o45, o46, o47, o48, o49, o50, o51, o52].toArray), (62, .bool (decide (x = x))), (63, .bool (!(decide (x = x)))), (64, .agg [o27, .int .i64 g.workers, .int .i64 g.cap].toArray), (65, .int .i64 1), (66, .int .i64 ((numNs 1 g.nodes : Nat) : Int)), (67, .agg [o28, o29, o30, o31, o32, o33, o34, o35].toArray), (68, .int .i64 ((numNs 1 g.nodes : Nat) : Int)), (69, .int .i64 ((numW (numNs 1 g.nodes) x : Nat) : Int)), (82, .bool (((decide (((numW (numNs 1 g.nodes) x : Nat) : Int) < 0)) || (!(decide (((takeM g x).1) = ((takeM g x).1))))) || (!(((takeM g x).2) == ((takeM g x).2))))), (83, .agg [o36, o37, o38, o39, o40, o41, o42, o43].toArray), (84, .int .i64 1), (85, .int .i64 ((numW 1 ((takeM g x).1) : Nat) : Int)), (86, .agg [o36, o37, o38, o39, o40, o41, o42, o43].toArray), (87, .int .i64 1), (88, .int .i64 ((numW 1 (markW 1 ((takeM g x).1)) : Nat) : Int)), (89, .int .i64 ((numW 1 (markW 1 ((takeM g x).1)) : Nat) : Int)), (90, .bool (decide (((numW 1 (markW 1 ((takeM g x).1)) : Nat) : Int) < 0))), (91, .int .i64 ((numW 1 (markW 1 ((takeM g x).1)) : Nat) : Int)), (92, .int .i64 ((numW 1 ((takeM g x).1) : Nat) : Int)), (93, .bool (((numW 1 (markW 1 ((takeM g x).1)) : Nat) : Int) != ((numW 1 ((takeM g x).1) : Nat) : Int))), (95, .agg [o1, .int .i64 g.workers, .int .i64 g.cap].toArray), (97, .agg [o2, o3, o4, o5, o6, o7, o8, o9].toArray)] [] rfl trivial (fun w' => Ext w w' ∧ w36.heap.size ≤ w'.heap.size ∧ Blk w' b1 ([o1, .int .i64 g.workers, .int .i64 g.cap]) ∧ Blk w' b2 ([o2, o3, o4, o5, o6, o7, o8, o9]) ∧ OwS w' w6.heap.size w7.heap.size o10 g.nodes ∧ Own w' w8.heap.size w9.heap.size 5 o11 (List.flatMap (Enc.enc (α := Record)) x.queue) ∧ Own w' w8.heap.size w9.heap.size 5 o12 (List.flatMap (Enc.enc (α := Record)) x.staged) ∧ Own w' w8.heap.size w9.heap.size 5 o13 (List.flatMap (Enc.enc (α := Record)) x.inputs) ∧ Own w' w8.heap.size w9.heap.size 4 o14 (List.flatMap (Enc.enc (α := Cell)) x.cells) ∧ Own w' w8.heap.size w9.heap.size 1 o15 (List.flatMap (Enc.enc (α := Int)) x.sums) ∧ Own w' w8.heap.size w9.heap.size 1 o16 (List.flatMap (Enc.enc (α := Bool)) x.black) ∧ Own w' w8.heap.size w9.heap.size 1 o17 (List.flatMap (Enc.enc (α := Bool)) x.caps) ∧ Own w' w8.heap.size w9.heap.size 2 o18 (List.flatMap (Enc.enc (α := Done)) x.dones) ∧ Own w' w10.heap.size w11.heap.size 5 o19 (List.flatMap (Enc.enc (α := Record)) (((takeM g x).1).queue)) ∧ Own w' w10.heap.size w11.heap.size 5 o20 (List.flatMap (Enc.enc (α := Record)) (((takeM g x).1).staged)) ∧ Own w' w10.heap.size w11.heap.size 5 o21 (List.flatMap (Enc.enc (α := Record)) (((takeM g x).1).inputs)) ∧ Own w' w10.heap.size w11.heap.size 4 o22 (List.flatMap (Enc.enc (α := Cell)) (((takeM g x).1).cells)) ∧ Own w' w10.heap.size w11.heap.size 1 o23 (List.flatMap (Enc.enc (α := Int)) (((takeM g x).1).sums)) ∧ Own w' w10.heap.size w11.heap.size 1 o24 (List.flatMap (Enc.enc (α := Bool)) (((takeM g x).1).black)) ∧ Own w' w10.heap.size w11.heap.size 1 o25 (List.flatMap (Enc.enc (α := Bool)) (((takeM g x).1).caps)) ∧ Own w' w10.heap.size w11.heap.size 2 o26 (List.flatMap (Enc.enc (α := Done)) (((takeM g x).1).dones)) ∧ Blk w' b3 [o19, o20, o21, o22, o23, o24, o25, o26] ∧ OwS w' w13.heap.size w14.heap.size o27 (markNs 1 g.nodes) ∧ Blk w' b4 [o27, .int .i64 g.workers, .int .i64 g.cap] ∧ Blk w' b5 [o28, o29, o30, o31, o32, o33, o34, o35] ∧ Blk w' b6 [o36, o37, o38, o39, o40, o41, o42, o43] ∧ OwS w' w25.heap.size w26.heap.size o44 g.nodes ∧ Own w' w28.heap.size w29.heap.size 5 o45 (List.flatMap (Enc.enc (α := Record)) x.queue) ∧ Own w' w28.heap.size w29.heap.size 5 o46 (List.flatMap (Enc.enc (α := Record)) x.staged) ∧ Own w' w28.heap.size w29.heap.size 5 o47 (List.flatMap (Enc.enc (α := Record)) x.inputs) ∧ Own w' w28.heap.size w29.heap.size 4 o48 (List.flatMap (Enc.enc (α := Cell)) x.cells) ∧ Own w' w28.heap.size w29.heap.size 1 o49 (List.flatMap (Enc.enc (α := Int)) x.sums) ∧ Own w' w28.heap.size w29.heap.size 1 o50 (List.flatMap (Enc.enc (α := Bool)) x.black) ∧ Own w' w28.heap.size w29.heap.size 1 o51 (List.flatMap (Enc.enc (α := Bool)) x.caps) ∧ Own w' w28.heap.size w29.heap.size 2 o52 (List.flatMap (Enc.enc (α := Done)) x.dones) ∧ Own w' w16.heap.size w17.heap.size 5 o28 (List.flatMap (Enc.enc (α := Record)) ((markW (numNs 1 g.nodes) x).queue)) ∧ Own w' w16.heap.size w17.heap.size 5 o29 (List.flatMap (Enc.enc (α := Record)) ((markW (numNs 1 g.nodes) x).staged)) ∧ Own w' w16.heap.size w17.heap.size 5 o30 (List.flatMap (Enc.enc (α := Record)) ((markW (numNs 1 g.nodes) x).inputs)) ∧ Own w' w16.heap.size w17.heap.size 4 o31 (List.flatMap (Enc.enc (α := Cell)) ((markW (numNs 1 g.nodes) x).cells)) ∧ Own w' w16.heap.size w17.heap.size 1 o32 (List.flatMap (Enc.enc (α := Int)) ((markW (numNs 1 g.nodes) x).sums)) ∧ Own w' w16.heap.size w17.heap.size 1 o33 (List.flatMap (Enc.enc (α := Bool)) ((markW (numNs 1 g.nodes) x).black)) ∧ Own w' w16.heap.size w17.heap.size 1 o34 (List.flatMap (Enc.enc (α := Bool)) ((markW (numNs 1 g.nodes) x).caps)) ∧ Own w' w16.heap.size w17.heap.size 2 o35 (List.flatMap (Enc.enc (α := Done)) ((markW (numNs 1 g.nodes) x).dones)) ∧ Own w' w19.heap.size w20.heap.size 5 o36 (List.flatMap (Enc.enc (α := Record)) ((markW 1 ((takeM g x).1)).queue)) ∧ Own w' w19.heap.size w20.heap.size 5 o37 (List.flatMap (Enc.enc (α := Record)) ((markW 1 ((takeM g x).1)).staged)) ∧ Own w' w19.heap.size w20.heap.size 5 o38 (List.flatMap (Enc.enc (α := Record)) ((markW 1 ((takeM g x).1)).inputs)) ∧ Own w' w19.heap.size w20.heap.size 4 o39 (List.flatMap (Enc.enc (α := Cell)) ((markW 1 ((takeM g x).1)).cells)) ∧ Own w' w19.heap.size w20.heap.size 1 o40 (List.flatMap (Enc.enc (α := Int)) ((markW 1 ((takeM g x).1)).sums)) ∧ Own w' w19.heap.size w20.heap.size 1 o41 (List.flatMap (Enc.enc (α := Bool)) ((markW 1 ((takeM g x).1)).black)) ∧ Own w' w19.heap.size w20.heap.size 1 o42 (List.flatMap (Enc.enc (α := Bool)) ((markW 1 ((takeM g x).1)).caps)) ∧ Own w' w19.heap.size w20.heap.size 2 o43 (List.flatMap (Enc.enc (α := Done)) ((markW 1 ((takeM g x).1)).dones))) (float_alloc st61) (fun w37 e31 => ?_) (fun w37 hphi_w37 => ?_)
      · replace E := E.trans e31; replace h1 := h1.ext e31; replace h2 := h2.ext e31; replace ho1 := ho1.ext e31; replace hw1 := hw1.ext e31; replace hw2 := hw2.ext e31; replace hw3 := hw3.ext e31; replace hw4 := hw4.ext e31; replace hw5 := hw5.ext e31; replace hw6 := hw6.ext e31; replace hw7 := hw7.ext e31; replace hw8 := hw8.ext e31; replace hw9 := hw9.ext e31; replace hw10 := hw10.ext e31; replace hw11 := hw11.ext e31; replace hw12 := hw12.ext e31; replace hw13 := hw13.ext e31; replace hw14 := hw14.ext e31; replace hw15 := hw15.ext e31; replace hw16 := hw16.ext e31; replace h3 := h3.ext e31; replace ho5 := ho5.ext e31; replace h4 := h4.ext e31; replace h5 := h5.ext e31; replace h6 := h6.ext e31; replace ho9 := ho9.ext e31; replace hw33 := hw33.ext e31; replace hw34 := hw34.ext e31; replace hw35 := hw35.ext e31; replace hw36 := hw36.ext e31; replace hw37 := hw37.ext e31; replace hw38 := hw38.ext e31; replace hw39 := hw39.ext e31; replace hw40 := hw40.ext e31; replace hw17 := hw17.ext e31; replace hw18 := hw18.ext e31; replace hw19 := hw19.ext e31; replace hw20 := hw20.ext e31; replace hw21 := hw21.ext e31; replace hw22 := hw22.ext e31; replace hw23 := hw23.ext e31; replace hw24 := hw24.ext e31; replace hw25 := hw25.ext e31; replace hw26 := hw26.ext e31; replace hw27 := hw27.ext e31; replace hw28 := hw28.ext e31; replace hw29 := hw29.ext e31; replace hw30 := hw30.ext e31; replace hw31 := hw31.ext e31; replace hw32 := hw32.ext e31
        have z37 := e31.size
        refine J_st (R_loadS st24 rfl h1.at rfl) rfl (J_st (R_loadS st57 rfl h2.at rfl) rfl (J_cutEnd ⟨rfl, rfl, rfl, rfl, rfl, rfl, rfl, rfl, rfl, rfl, rfl, rfl, rfl, rfl, rfl, rfl, rfl, rfl, rfl, rfl, rfl, rfl, rfl, rfl, rfl, rfl, rfl, rfl, rfl, rfl, rfl, rfl, rfl, rfl, rfl, rfl, rfl, rfl, rfl, rfl, rfl, rfl, rfl, rfl, rfl, rfl, rfl, rfl, rfl, rfl, rfl, rfl, rfl, rfl, rfl, rfl, rfl, rfl, rfl, rfl, rfl, rfl, rfl, rfl, rfl, rfl, rfl, rfl, rfl, rfl, rfl, rfl, rfl, rfl, trivial⟩ ⟨E, (by omega), h1, h2, ho1, hw1, hw2, hw3, hw4, hw5, hw6, hw7, hw8, hw9, hw10, hw11, hw12, hw13, hw14, hw15, hw16, h3, ho5, h4, h5, h6, ho9, hw33, hw34, hw35, hw36, hw37, hw38, hw39, hw40, hw17, hw18, hw19, hw20, hw21, hw22, hw23, hw24, hw25, hw26, hw27, hw28, hw29, hw30, hw31, hw32⟩))
      clear E h1 h2 ho1 hw1 hw2 hw3 hw4 hw5 hw6 hw7 hw8 hw9 hw10 hw11 hw12 hw13 hw14 hw15 hw16 h3 ho5 h4 h5 h6 ho9 hw33 hw34 hw35 hw36 hw37 hw38 hw39 hw40 hw17 hw18 hw19 hw20 hw21 hw22 hw23 hw24 hw25 hw26 hw27 hw28 hw29 hw30 hw31 hw32
      obtain ⟨E, z38, h1, h2, ho1, hw1, hw2, hw3, hw4, hw5, hw6, hw7, hw8, hw9, hw10, hw11, hw12, hw13, hw14, hw15, hw16, h3, ho5, h4, h5, h6, ho9, hw33, hw34, hw35, hw36, hw37, hw38, hw39, hw40, hw17, hw18, hw19, hw20, hw21, hw22, hw23, hw24, hw25, hw26, hw27, hw28, hw29, hw30, hw31, hw32⟩ := hphi_w37
      refine JI_un rfl (fun w38 e32 => ?_) rfl
      replace E := E.trans e32; replace h1 := h1.ext e32; replace h2 := h2.ext e32; replace ho1 := ho1.ext e32; replace hw1 := hw1.ext e32; replace hw2 := hw2.ext e32; replace hw3 := hw3.ext e32; replace hw4 := hw4.ext e32; replace hw5 := hw5.ext e32; replace hw6 := hw6.ext e32; replace hw7 := hw7.ext e32; replace hw8 := hw8.ext e32; replace hw9 := hw9.ext e32; replace hw10 := hw10.ext e32; replace hw11 := hw11.ext e32; replace hw12 := hw12.ext e32; replace hw13 := hw13.ext e32; replace hw14 := hw14.ext e32; replace hw15 := hw15.ext e32; replace hw16 := hw16.ext e32; replace h3 := h3.ext e32; replace ho5 := ho5.ext e32; replace h4 := h4.ext e32; replace h5 := h5.ext e32; replace h6 := h6.ext e32; replace ho9 := ho9.ext e32; replace hw33 := hw33.ext e32; replace hw34 := hw34.ext e32; replace hw35 := hw35.ext e32; replace hw36 := hw36.ext e32; replace hw37 := hw37.ext e32; replace hw38 := hw38.ext e32; replace hw39 := hw39.ext e32; replace hw40 := hw40.ext e32; replace hw17 := hw17.ext e32; replace hw18 := hw18.ext e32; replace hw19 := hw19.ext e32; replace hw20 := hw20.ext e32; replace hw21 := hw21.ext e32; replace hw22 := hw22.ext e32; replace hw23 := hw23.ext e32; replace hw24 := hw24.ext e32; replace hw25 := hw25.ext e32; replace hw26 := hw26.ext e32; replace hw27 := hw27.ext e32; replace hw28 := hw28.ext e32; replace hw29 := hw29.ext e32; replace hw30 := hw30.ext e32; replace hw31 := hw31.ext e32; replace hw32 := hw32.ext e32
      have z39 := e32.size
      refine J_call Try.call8 rfl (c_toGraph [o1, .int .i64 g.workers, .int .i64 g.cap] g _ (Graph.mkR g (RdD.any (hd1.ext E))) (by first | omega | (simp only [mkL_length]; omega) | (rw [mkL_length]; done) | (simp only [mkL_length]; done))) rfl (fun _ w39 e33 ho11 => ?_)
      obtain ⟨o53, rfl, ho11⟩ := ho11
      have g_ho11 : w.heap.size ≤ w38.heap.size := E.size
      replace E := E.trans e33; replace h1 := h1.ext e33; replace h2 := h2.ext e33; replace ho1 := ho1.ext e33; replace hw1 := hw1.ext e33; replace hw2 := hw2.ext e33; replace hw3 := hw3.ext e33; replace hw4 := hw4.ext e33; replace hw5 := hw5.ext e33; replace hw6 := hw6.ext e33; replace hw7 := hw7.ext e33; replace hw8 := hw8.ext e33; replace hw9 := hw9.ext e33; replace hw10 := hw10.ext e33; replace hw11 := hw11.ext e33; replace hw12 := hw12.ext e33; replace hw13 := hw13.ext e33; replace hw14 := hw14.ext e33; replace hw15 := hw15.ext e33; replace hw16 := hw16.ext e33; replace h3 := h3.ext e33; replace ho5 := ho5.ext e33; replace h4 := h4.ext e33; replace h5 := h5.ext e33; replace h6 := h6.ext e33; replace ho9 := ho9.ext e33; replace hw33 := hw33.ext e33; replace hw34 := hw34.ext e33; replace hw35 := hw35.ext e33; replace hw36 := hw36.ext e33; replace hw37 := hw37.ext e33; replace hw38 := hw38.ext e33; replace hw39 := hw39.ext e33; replace hw40 := hw40.ext e33; replace hw17 := hw17.ext e33; replace hw18 := hw18.ext e33; replace hw19 := hw19.ext e33; replace hw20 := hw20.ext e33; replace hw21 := hw21.ext e33; replace hw22 := hw22.ext e33; replace hw23 := hw23.ext e33; replace hw24 := hw24.ext e33; replace hw25 := hw25.ext e33; replace hw26 := hw26.ext e33; replace hw27 := hw27.ext e33; replace hw28 := hw28.ext e33; replace hw29 := hw29.ext e33; replace hw30 := hw30.ext e33; replace hw31 := hw31.ext e33; replace hw32 := hw32.ext e33
      have z40 := e33.size
      refine JI_go2 ?_
      refine JI_un rfl (fun w40 e34 => ?_) rfl
      replace E := E.trans e34; replace h1 := h1.ext e34; replace h2 := h2.ext e34; replace ho1 := ho1.ext e34; replace hw1 := hw1.ext e34; replace hw2 := hw2.ext e34; replace hw3 := hw3.ext e34; replace hw4 := hw4.ext e34; replace hw5 := hw5.ext e34; replace hw6 := hw6.ext e34; replace hw7 := hw7.ext e34; replace hw8 := hw8.ext e34; replace hw9 := hw9.ext e34; replace hw10 := hw10.ext e34; replace hw11 := hw11.ext e34; replace hw12 := hw12.ext e34; replace hw13 := hw13.ext e34; replace hw14 := hw14.ext e34; replace hw15 := hw15.ext e34; replace hw16 := hw16.ext e34; replace h3 := h3.ext e34; replace ho5 := ho5.ext e34; replace h4 := h4.ext e34; replace h5 := h5.ext e34; replace h6 := h6.ext e34; replace ho9 := ho9.ext e34; replace hw33 := hw33.ext e34; replace hw34 := hw34.ext e34; replace hw35 := hw35.ext e34; replace hw36 := hw36.ext e34; replace hw37 := hw37.ext e34; replace hw38 := hw38.ext e34; replace hw39 := hw39.ext e34; replace hw40 := hw40.ext e34; replace hw17 := hw17.ext e34; replace hw18 := hw18.ext e34; replace hw19 := hw19.ext e34; replace hw20 := hw20.ext e34; replace hw21 := hw21.ext e34; replace hw22 := hw22.ext e34; replace hw23 := hw23.ext e34; replace hw24 := hw24.ext e34; replace hw25 := hw25.ext e34; replace hw26 := hw26.ext e34; replace hw27 := hw27.ext e34; replace hw28 := hw28.ext e34; replace hw29 := hw29.ext e34; replace hw30 := hw30.ext e34; replace hw31 := hw31.ext e34; replace hw32 := hw32.ext e34; replace ho11 := ho11.ext e34
      have z41 := e34.size
      refine J_call Try.call22 rfl (c_toWorker [o2, o3, o4, o5, o6, o7, o8, o9] x _ (Worker.mkR x (RdD.any (hd2.ext E)) (RdD.any (hd3.ext E)) (RdD.any (hd4.ext E)) (RdD.any (hd5.ext E)) (RdD.any (hd6.ext E)) (RdD.any (hd7.ext E)) (RdD.any (hd8.ext E)) (RdD.any (hd9.ext E))) (by first | omega | (simp only [mkL_length]; omega) | (rw [mkL_length]; done) | (simp only [mkL_length]; done))) rfl (fun _ w41 e35 ho12 => ?_)
      obtain ⟨_, rfl, ho12⟩ := ho12
      have g_ho12 : w.heap.size ≤ w40.heap.size := E.size
      replace E := E.trans e35; replace h1 := h1.ext e35; replace h2 := h2.ext e35; replace ho1 := ho1.ext e35; replace hw1 := hw1.ext e35; replace hw2 := hw2.ext e35; replace hw3 := hw3.ext e35; replace hw4 := hw4.ext e35; replace hw5 := hw5.ext e35; replace hw6 := hw6.ext e35; replace hw7 := hw7.ext e35; replace hw8 := hw8.ext e35; replace hw9 := hw9.ext e35; replace hw10 := hw10.ext e35; replace hw11 := hw11.ext e35; replace hw12 := hw12.ext e35; replace hw13 := hw13.ext e35; replace hw14 := hw14.ext e35; replace hw15 := hw15.ext e35; replace hw16 := hw16.ext e35; replace h3 := h3.ext e35; replace ho5 := ho5.ext e35; replace h4 := h4.ext e35; replace h5 := h5.ext e35; replace h6 := h6.ext e35; replace ho9 := ho9.ext e35; replace hw33 := hw33.ext e35; replace hw34 := hw34.ext e35; replace hw35 := hw35.ext e35; replace hw36 := hw36.ext e35; replace hw37 := hw37.ext e35; replace hw38 := hw38.ext e35; replace hw39 := hw39.ext e35; replace hw40 := hw40.ext e35; replace hw17 := hw17.ext e35; replace hw18 := hw18.ext e35; replace hw19 := hw19.ext e35; replace hw20 := hw20.ext e35; replace hw21 := hw21.ext e35; replace hw22 := hw22.ext e35; replace hw23 := hw23.ext e35; replace hw24 := hw24.ext e35; replace hw25 := hw25.ext e35; replace hw26 := hw26.ext e35; replace hw27 := hw27.ext e35; replace hw28 := hw28.ext e35; replace hw29 := hw29.ext e35; replace hw30 := hw30.ext e35; replace hw31 := hw31.ext e35; replace hw32 := hw32.ext e35; replace ho11 := ho11.ext e35
      have z42 := e35.size
      obtain ⟨o54, o55, o56, o57, o58, o59, o60, o61, rfl, sp8, hw41, hw42, hw43, hw44, hw45, hw46, hw47, hw48⟩ := Worker.opO ho12
      refine JI_go2 ?_
      refine JI_un rfl (fun w42 e36 => ?_) rfl
      replace E := E.trans e36; replace h1 := h1.ext e36; replace h2 := h2.ext e36; replace ho1 := ho1.ext e36; replace hw1 := hw1.ext e36; replace hw2 := hw2.ext e36; replace hw3 := hw3.ext e36; replace hw4 := hw4.ext e36; replace hw5 := hw5.ext e36; replace hw6 := hw6.ext e36; replace hw7 := hw7.ext e36; replace hw8 := hw8.ext e36; replace hw9 := hw9.ext e36; replace hw10 := hw10.ext e36; replace hw11 := hw11.ext e36; replace hw12 := hw12.ext e36; replace hw13 := hw13.ext e36; replace hw14 := hw14.ext e36; replace hw15 := hw15.ext e36; replace hw16 := hw16.ext e36; replace h3 := h3.ext e36; replace ho5 := ho5.ext e36; replace h4 := h4.ext e36; replace h5 := h5.ext e36; replace h6 := h6.ext e36; replace ho9 := ho9.ext e36; replace hw33 := hw33.ext e36; replace hw34 := hw34.ext e36; replace hw35 := hw35.ext e36; replace hw36 := hw36.ext e36; replace hw37 := hw37.ext e36; replace hw38 := hw38.ext e36; replace hw39 := hw39.ext e36; replace hw40 := hw40.ext e36; replace hw17 := hw17.ext e36; replace hw18 := hw18.ext e36; replace hw19 := hw19.ext e36; replace hw20 := hw20.ext e36; replace hw21 := hw21.ext e36; replace hw22 := hw22.ext e36; replace hw23 := hw23.ext e36; replace hw24 := hw24.ext e36; replace hw25 := hw25.ext e36; replace hw26 := hw26.ext e36; replace hw27 := hw27.ext e36; replace hw28 := hw28.ext e36; replace hw29 := hw29.ext e36; replace hw30 := hw30.ext e36; replace hw31 := hw31.ext e36; replace hw32 := hw32.ext e36; replace ho11 := ho11.ext e36; replace hw41 := hw41.ext e36; replace hw42 := hw42.ext e36; replace hw43 := hw43.ext e36; replace hw44 := hw44.ext e36; replace hw45 := hw45.ext e36; replace hw46 := hw46.ext e36; replace hw47 := hw47.ext e36; replace hw48 := hw48.ext e36
      have z43 := e36.size
      refine J_call Try.call23 rfl (c_TakeInput [o53, .int .i64 g.workers, .int .i64 g.cap] g [o54, o55, o56, o57, o58, o59, o60, o61] x _ (Graph.mkR g (RdD.any (OwS.rd ho11))) (Worker.mkR x (RdD.any (Own.rdD hw41)) (RdD.any (Own.rdD hw42)) (RdD.any (Own.rdD hw43)) (RdD.any (Own.rdD hw44)) (RdD.any (Own.rdD hw45)) (RdD.any (Own.rdD hw46)) (RdD.any (Own.rdD hw47)) (RdD.any (Own.rdD hw48))) (by first | omega | (simp only [mkL_length]; omega) | (rw [mkL_length]; done) | (simp only [mkL_length]; done))) rfl (fun _ w43 e37 ho13 => ?_)
      obtain ⟨_, rfl, ho14⟩ := ho13
      have g_ho13 : w.heap.size ≤ w42.heap.size := E.size
      replace E := E.trans e37; replace h1 := h1.ext e37; replace h2 := h2.ext e37; replace ho1 := ho1.ext e37; replace hw1 := hw1.ext e37; replace hw2 := hw2.ext e37; replace hw3 := hw3.ext e37; replace hw4 := hw4.ext e37; replace hw5 := hw5.ext e37; replace hw6 := hw6.ext e37; replace hw7 := hw7.ext e37; replace hw8 := hw8.ext e37; replace hw9 := hw9.ext e37; replace hw10 := hw10.ext e37; replace hw11 := hw11.ext e37; replace hw12 := hw12.ext e37; replace hw13 := hw13.ext e37; replace hw14 := hw14.ext e37; replace hw15 := hw15.ext e37; replace hw16 := hw16.ext e37; replace h3 := h3.ext e37; replace ho5 := ho5.ext e37; replace h4 := h4.ext e37; replace h5 := h5.ext e37; replace h6 := h6.ext e37; replace ho9 := ho9.ext e37; replace hw33 := hw33.ext e37; replace hw34 := hw34.ext e37; replace hw35 := hw35.ext e37; replace hw36 := hw36.ext e37; replace hw37 := hw37.ext e37; replace hw38 := hw38.ext e37; replace hw39 := hw39.ext e37; replace hw40 := hw40.ext e37; replace hw17 := hw17.ext e37; replace hw18 := hw18.ext e37; replace hw19 := hw19.ext e37; replace hw20 := hw20.ext e37; replace hw21 := hw21.ext e37; replace hw22 := hw22.ext e37; replace hw23 := hw23.ext e37; replace hw24 := hw24.ext e37; replace hw25 := hw25.ext e37; replace hw26 := hw26.ext e37; replace hw27 := hw27.ext e37; replace hw28 := hw28.ext e37; replace hw29 := hw29.ext e37; replace hw30 := hw30.ext e37; replace hw31 := hw31.ext e37; replace hw32 := hw32.ext e37; replace ho11 := ho11.ext e37; replace hw41 := hw41.ext e37; replace hw42 := hw42.ext e37; replace hw43 := hw43.ext e37; replace hw44 := hw44.ext e37; replace hw45 := hw45.ext e37; replace hw46 := hw46.ext e37; replace hw47 := hw47.ext e37; replace hw48 := hw48.ext e37
      have z44 := e37.size
      obtain ⟨o62, o63, o64, o65, o66, o67, o68, o69, rfl, sp9, hw49, hw50, hw51, hw52, hw53, hw54, hw55, hw56⟩ := Worker.opO ho14
      refine JI_go2 ?_
      refine JI_seg 3 rfl ?_
      refine J_st (R_move rfl) rfl (J_st (R_extract rfl rfl) rfl (J_st (R_extract rfl rfl) rfl (JI_go ?_)))
      refine JI_end rfl (fun b7 w44 e38 g2 y2 h7 hI2 => ?_)
      have hI2_0 : b7 < w38.heap.size ∨ w39.heap.size ≤ b7 := hI2 (_, _) (by simp)
      have hI2_1 : b7 < w40.heap.size ∨ w41.heap.size ≤ b7 := hI2 (_, _) (by simp)
      have hI2_2 : b7 < w42.heap.size ∨ w43.heap.size ≤ b7 := hI2 (_, _) (by simp)
      replace E := E.trans e38; replace h1 := h1.ext e38; replace h2 := h2.ext e38; replace ho1 := ho1.ext e38; replace hw1 := hw1.ext e38; replace hw2 := hw2.ext e38; replace hw3 := hw3.ext e38; replace hw4 := hw4.ext e38; replace hw5 := hw5.ext e38; replace hw6 := hw6.ext e38; replace hw7 := hw7.ext e38; replace hw8 := hw8.ext e38; replace hw9 := hw9.ext e38; replace hw10 := hw10.ext e38; replace hw11 := hw11.ext e38; replace hw12 := hw12.ext e38; replace hw13 := hw13.ext e38; replace hw14 := hw14.ext e38; replace hw15 := hw15.ext e38; replace hw16 := hw16.ext e38; replace h3 := h3.ext e38; replace ho5 := ho5.ext e38; replace h4 := h4.ext e38; replace h5 := h5.ext e38; replace h6 := h6.ext e38; replace ho9 := ho9.ext e38; replace hw33 := hw33.ext e38; replace hw34 := hw34.ext e38; replace hw35 := hw35.ext e38; replace hw36 := hw36.ext e38; replace hw37 := hw37.ext e38; replace hw38 := hw38.ext e38; replace hw39 := hw39.ext e38; replace hw40 := hw40.ext e38; replace hw17 := hw17.ext e38; replace hw18 := hw18.ext e38; replace hw19 := hw19.ext e38; replace hw20 := hw20.ext e38; replace hw21 := hw21.ext e38; replace hw22 := hw22.ext e38; replace hw23 := hw23.ext e38; replace hw24 := hw24.ext e38; replace hw25 := hw25.ext e38; replace hw26 := hw26.ext e38; replace hw27 := hw27.ext e38; replace hw28 := hw28.ext e38; replace hw29 := hw29.ext e38; replace hw30 := hw30.ext e38; replace hw31 := hw31.ext e38; replace hw32 := hw32.ext e38; replace ho11 := ho11.ext e38; replace hw41 := hw41.ext e38; replace hw42 := hw42.ext e38; replace hw43 := hw43.ext e38; replace hw44 := hw44.ext e38; replace hw45 := hw45.ext e38; replace hw46 := hw46.ext e38; replace hw47 := hw47.ext e38; replace hw48 := hw48.ext e38; replace hw49 := hw49.ext e38; replace hw50 := hw50.ext e38; replace hw51 := hw51.ext e38; replace hw52 := hw52.ext e38; replace hw53 := hw53.ext e38; replace hw54 := hw54.ext e38; replace hw55 := hw55.ext e38; replace hw56 := hw56.ext e38
      have z45 := e38.size
      have g_b7 : w.heap.size ≤ b7 := by have := E.size; omega
      have y_b7 := h7.lt
      refine J2_sub [(0, .agg [o1, .int .i64 g.workers, .int .i64 g.cap].toArray), (1, .agg [o2, o3, o4, o5, o6, o7, o8, o9].toArray), (2, .pointer (some ⟨b1, 0, none⟩)), (3, .pointer (some ⟨b2, 0, none⟩)), (4, .bool false), (5, .int .i64 (szM (cntWorker x) (szM (cntGraph g) 1048576))), (6, .pointer (some ⟨b3, 0, none⟩)), (7, .bool ((takeM g x).2)), (8, .pointer (some ⟨b4, 0, none⟩)), (9, .pointer (some ⟨b5, 0, none⟩)), (10, .pointer (some ⟨b6, 0, none⟩)), (11, .bool ((takeM g x).2)), (12, .int .i64 ((numW (numNs 1 g.nodes) x : Nat) : Int)), (13, .int .i64 ((numW 1 ((takeM g x).1) : Nat) : Int)), (14, .int .i64 ((numW 1 (markW 1 ((takeM g x).1)) : Nat) : Int)), (15, .pointer (some ⟨b7, 0, none⟩)), (17, .agg [o1, .int .i64 g.workers, .int .i64 g.cap].toArray), (18, .int .i64 1048576), (19, .int .i64 (szM (cntGraph g) 1048576)), (20, .int .i64 (szM (cntGraph g) 1048576)), (21, .bool (decide ((szM (cntGraph g) 1048576) < 0))), (22, .agg [o2, o3, o4, o5, o6, o7, o8, o9].toArray), (23, .int .i64 (szM (cntGraph g) 1048576)), (24, .int .i64 (szM (cntWorker x) (szM (cntGraph g) 1048576))), (25, .int .i64 (szM (cntWorker x) (szM (cntGraph g) 1048576))), (26, .bool (decide ((szM (cntWorker x) (szM (cntGraph g) 1048576)) < 0))), (27, .tuple [.agg [o19, o20, o21, o22, o23, o24, o25, o26].toArray, .bool ((takeM g x).2)].toArray), (28, .agg [o1, .int .i64 g.workers, .int .i64 g.cap].toArray), (29, .agg [o10, .int .i64 g.workers, .int .i64 g.cap].toArray), (30, .agg [o2, o3, o4, o5, o6, o7, o8, o9].toArray), (31, .agg [o11, o12, o13, o14, o15, o16, o17, o18].toArray), (32, .tuple [.agg [o19, o20, o21, o22, o23, o24, o25, o26].toArray, .bool ((takeM g x).2)].toArray), (33, .agg [o19, o20, o21, o22, o23, o24, o25, o26].toArray), (34, .bool ((takeM g x).2)), (35, .agg [o1, .int .i64 g.workers, .int .i64 g.cap].toArray), (36, .agg [o27, .int .i64 g.workers, .int .i64 g.cap].toArray), (37, .agg [o2, o3, o4, o5, o6, o7, o8, o9].toArray), (38, .agg [o28, o29, o30, o31, o32, o33, o34, o35].toArray), (39, .tuple [.agg [o36, o37, o38, o39, o40, o41, o42, o43].toArray, .bool ((takeM g x).2)].toArray), (40, .agg [o27, .int .i64 g.workers, .int .i64 g.cap].toArray), (41, .agg [o28, o29, o30, o31, o32, o33, o34, o35].toArray), (42, .tuple [.agg [o36, o37, o38, o39, o40, o41, o42, o43].toArray, .bool ((takeM g x).2)].toArray), (43, .agg [o36, o37, o38, o39, o40, o41, o42, o43].toArray), (44, .bool ((takeM g x).2)), (53, .bool ((!(decide (((takeM g x).1) = ((takeM g x).1)))) || (!(((takeM g x).2) == ((takeM g x).2))))), (54, .agg [o27, .int .i64 g.workers, .int .i64 g.cap].toArray), (55, .agg [o1, .int .i64 g.workers, .int .i64 g.cap].toArray), (56, .agg [o44, .int .i64 g.workers, .int .i64 g.cap].toArray), (57, .bool (decide (g = g))), (58, .bool (!(decide (g = g)))), (59, .agg [o28, o29, o30, o31, o32, o33, o34, o35].toArray), (60, .agg [o2, o3, o4, o5, o6, o7, o8, o9].toArray), (61, .agg [o45, o46, o47, o48, o49, o50, o51, o52].toArray), (62, .bool (decide (x = x))), (63, .bool (!(decide (x = x)))), (64, .agg [o27, .int .i64 g.workers, .int .i64 g.cap].toArray), (65, .int .i64 1), (66, .int .i64 ((numNs 1 g.nodes : Nat) : Int)), (67, .agg [o28, o29, o30, o31, o32, o33, o34, o35].toArray), (68, .int .i64 ((numNs 1 g.nodes : Nat) : Int)), (69, .int .i64 ((numW (numNs 1 g.nodes) x : Nat) : Int)), (82, .bool (((decide (((numW (numNs 1 g.nodes) x : Nat) : Int) < 0)) || (!(decide (((takeM g x).1) = ((takeM g x).1))))) || (!(((takeM g x).2) == ((takeM g x).2))))), (83, .agg [o36, o37, o38, o39, o40, o41, o42, o43].toArray), (84, .int .i64 1), (85, .int .i64 ((numW 1 ((takeM g x).1) : Nat) : Int)), (86, .agg [o36, o37, o38, o39, o40, o41, o42, o43].toArray), (87, .int .i64 1), (88, .int .i64 ((numW 1 (markW 1 ((takeM g x).1)) : Nat) : Int)), (89, .int .i64 ((numW 1 (markW 1 ((takeM g x).1)) : Nat) : Int)), (90, .bool (decide (((numW 1 (markW 1 ((takeM g x).1)) : Nat) : Int) < 0))), (91, .int .i64 ((numW 1 (markW 1 ((takeM g x).1)) : Nat) : Int)), (92, .int .i64 ((numW 1 ((takeM g x).1) : Nat) : Int)), (93, .bool (((numW 1 (markW 1 ((takeM g x).1)) : Nat) : Int) != ((numW 1 ((takeM g x).1) : Nat) : Int))), (94, .tuple [.agg [o62, o63, o64, o65, o66, o67, o68, o69].toArray, .bool ((takeM g x).2)].toArray), (95, .agg [o1, .int .i64 g.workers, .int .i64 g.cap].toArray), (96, .agg [o53, .int .i64 g.workers, .int .i64 g.cap].toArray), (97, .agg [o2, o3, o4, o5, o6, o7, o8, o9].toArray), (98, .agg [o54, o55, o56, o57, o58, o59, o60, o61].toArray), (99, .tuple [.agg [o62, o63, o64, o65, o66, o67, o68, o69].toArray, .bool ((takeM g x).2)].toArray), (100, .agg [o62, o63, o64, o65, o66, o67, o68, o69].toArray), (101, .bool ((takeM g x).2))] ⟨rfl, rfl, rfl, rfl, rfl, rfl, rfl, rfl, rfl, rfl, rfl, rfl, rfl, rfl, rfl, rfl, rfl, rfl, rfl, rfl, rfl, rfl, rfl, rfl, rfl, rfl, rfl, rfl, rfl, rfl, rfl, rfl, rfl, rfl, rfl, rfl, rfl, rfl, rfl, rfl, rfl, rfl, rfl, rfl, rfl, rfl, rfl, rfl, rfl, rfl, rfl, rfl, rfl, rfl, rfl, rfl, rfl, rfl, rfl, rfl, rfl, rfl, rfl, rfl, rfl, rfl, rfl, rfl, rfl, rfl, rfl, rfl, rfl, rfl, rfl, rfl, rfl, rfl, rfl, rfl, rfl, trivial⟩ ?_
      refine J2_of rfl ?_
      refine J_storeS' (cs' := [o62, o63, o64, o65, o66, o67, o68, o69]) st61 rfl rfl rfl (all_cons hw49.one (all_cons hw50.one (all_cons hw51.one (all_cons hw52.one (all_cons hw53.one (all_cons hw54.one (all_cons hw55.one (all_cons hw56.one rfl)))))))) h7 (Nat.le_of_ble_eq_true rfl) rfl (fun w45 m5 h7' => ?_)
      replace h7 := h7'
      replace E := E.step m5 (fun g hg => by cases hg; omega); replace h1 := h1.mod m5 (fun g hg => by cases hg; omega); replace h2 := h2.mod m5 (fun g hg => by cases hg; omega); replace ho1 := ho1.mod m5 (fun g hg => by cases hg; omega); replace hw1 := hw1.mod m5 (fun g hg => by cases hg; omega); replace hw2 := hw2.mod m5 (fun g hg => by cases hg; omega); replace hw3 := hw3.mod m5 (fun g hg => by cases hg; omega); replace hw4 := hw4.mod m5 (fun g hg => by cases hg; omega); replace hw5 := hw5.mod m5 (fun g hg => by cases hg; omega); replace hw6 := hw6.mod m5 (fun g hg => by cases hg; omega); replace hw7 := hw7.mod m5 (fun g hg => by cases hg; omega); replace hw8 := hw8.mod m5 (fun g hg => by cases hg; omega); replace hw9 := hw9.mod m5 (fun g hg => by cases hg; omega); replace hw10 := hw10.mod m5 (fun g hg => by cases hg; omega); replace hw11 := hw11.mod m5 (fun g hg => by cases hg; omega); replace hw12 := hw12.mod m5 (fun g hg => by cases hg; omega); replace hw13 := hw13.mod m5 (fun g hg => by cases hg; omega); replace hw14 := hw14.mod m5 (fun g hg => by cases hg; omega); replace hw15 := hw15.mod m5 (fun g hg => by cases hg; omega); replace hw16 := hw16.mod m5 (fun g hg => by cases hg; omega); replace h3 := h3.mod m5 (fun g hg => by cases hg; omega); replace ho5 := ho5.mod m5 (fun g hg => by cases hg; omega); replace h4 := h4.mod m5 (fun g hg => by cases hg; omega); replace h5 := h5.mod m5 (fun g hg => by cases hg; omega); replace h6 := h6.mod m5 (fun g hg => by cases hg; omega); replace ho9 := ho9.mod m5 (fun g hg => by cases hg; omega); replace hw33 := hw33.mod m5 (fun g hg => by cases hg; omega); replace hw34 := hw34.mod m5 (fun g hg => by cases hg; omega); replace hw35 := hw35.mod m5 (fun g hg => by cases hg; omega); replace hw36 := hw36.mod m5 (fun g hg => by cases hg; omega); replace hw37 := hw37.mod m5 (fun g hg => by cases hg; omega); replace hw38 := hw38.mod m5 (fun g hg => by cases hg; omega); replace hw39 := hw39.mod m5 (fun g hg => by cases hg; omega); replace hw40 := hw40.mod m5 (fun g hg => by cases hg; omega); replace hw17 := hw17.mod m5 (fun g hg => by cases hg; omega); replace hw18 := hw18.mod m5 (fun g hg => by cases hg; omega); replace hw19 := hw19.mod m5 (fun g hg => by cases hg; omega); replace hw20 := hw20.mod m5 (fun g hg => by cases hg; omega); replace hw21 := hw21.mod m5 (fun g hg => by cases hg; omega); replace hw22 := hw22.mod m5 (fun g hg => by cases hg; omega); replace hw23 := hw23.mod m5 (fun g hg => by cases hg; omega); replace hw24 := hw24.mod m5 (fun g hg => by cases hg; omega); replace hw25 := hw25.mod m5 (fun g hg => by cases hg; omega); replace hw26 := hw26.mod m5 (fun g hg => by cases hg; omega); replace hw27 := hw27.mod m5 (fun g hg => by cases hg; omega); replace hw28 := hw28.mod m5 (fun g hg => by cases hg; omega); replace hw29 := hw29.mod m5 (fun g hg => by cases hg; omega); replace hw30 := hw30.mod m5 (fun g hg => by cases hg; omega); replace hw31 := hw31.mod m5 (fun g hg => by cases hg; omega); replace hw32 := hw32.mod m5 (fun g hg => by cases hg; omega); replace ho11 := ho11.mod m5 (fun g hg => by cases hg; omega); replace hw41 := hw41.mod m5 (fun g hg => by cases hg; omega); replace hw42 := hw42.mod m5 (fun g hg => by cases hg; omega); replace hw43 := hw43.mod m5 (fun g hg => by cases hg; omega); replace hw44 := hw44.mod m5 (fun g hg => by cases hg; omega); replace hw45 := hw45.mod m5 (fun g hg => by cases hg; omega); replace hw46 := hw46.mod m5 (fun g hg => by cases hg; omega); replace hw47 := hw47.mod m5 (fun g hg => by cases hg; omega); replace hw48 := hw48.mod m5 (fun g hg => by cases hg; omega); replace hw49 := hw49.mod m5 (fun g hg => by cases hg; omega); replace hw50 := hw50.mod m5 (fun g hg => by cases hg; omega); replace hw51 := hw51.mod m5 (fun g hg => by cases hg; omega); replace hw52 := hw52.mod m5 (fun g hg => by cases hg; omega); replace hw53 := hw53.mod m5 (fun g hg => by cases hg; omega); replace hw54 := hw54.mod m5 (fun g hg => by cases hg; omega); replace hw55 := hw55.mod m5 (fun g hg => by cases hg; omega); replace hw56 := hw56.mod m5 (fun g hg => by cases hg; omega)
      have z46 := m5.size
      refine J_st (R_assign rfl) rfl (J_done ?_)
      refine S_seq ?_
      refine S_seq ?_
      refine S_reg [true, true, false, true, true, true, true, true, true] rfl rfl ?_
      refine J_st (R_loadS st61 rfl h7.at rfl) rfl (J_st (R_loadS st61 rfl h3.at rfl) rfl ?_)
      refine J_call Try.call24 rfl (c_eqWorker [o62, o63, o64, o65, o66, o67, o68, o69] ((takeM g x).1) [o19, o20, o21, o22, o23, o24, o25, o26] ((takeM g x).1) _ (Worker.mkR ((takeM g x).1) (RdD.any (Own.rdD hw49)) (RdD.any (Own.rdD hw50)) (RdD.any (Own.rdD hw51)) (RdD.any (Own.rdD hw52)) (RdD.any (Own.rdD hw53)) (RdD.any (Own.rdD hw54)) (RdD.any (Own.rdD hw55)) (RdD.any (Own.rdD hw56))) (Worker.mkR ((takeM g x).1) (RdD.any (Own.rdD hw9)) (RdD.any (Own.rdD hw10)) (RdD.any (Own.rdD hw11)) (RdD.any (Own.rdD hw12)) (RdD.any (Own.rdD hw13)) (RdD.any (Own.rdD hw14)) (RdD.any (Own.rdD hw15)) (RdD.any (Own.rdD hw16)))) rfl (fun _ w46 e39 hv => ?_)
      subst hv
      replace E := E.trans e39; replace h1 := h1.ext e39; replace h2 := h2.ext e39; replace ho1 := ho1.ext e39; replace hw1 := hw1.ext e39; replace hw2 := hw2.ext e39; replace hw3 := hw3.ext e39; replace hw4 := hw4.ext e39; replace hw5 := hw5.ext e39; replace hw6 := hw6.ext e39; replace hw7 := hw7.ext e39; replace hw8 := hw8.ext e39; replace hw9 := hw9.ext e39; replace hw10 := hw10.ext e39; replace hw11 := hw11.ext e39; replace hw12 := hw12.ext e39; replace hw13 := hw13.ext e39; replace hw14 := hw14.ext e39; replace hw15 := hw15.ext e39; replace hw16 := hw16.ext e39; replace h3 := h3.ext e39; replace ho5 := ho5.ext e39; replace h4 := h4.ext e39; replace h5 := h5.ext e39; replace h6 := h6.ext e39; replace ho9 := ho9.ext e39; replace hw33 := hw33.ext e39; replace hw34 := hw34.ext e39; replace hw35 := hw35.ext e39; replace hw36 := hw36.ext e39; replace hw37 := hw37.ext e39; replace hw38 := hw38.ext e39; replace hw39 := hw39.ext e39; replace hw40 := hw40.ext e39; replace hw17 := hw17.ext e39; replace hw18 := hw18.ext e39; replace hw19 := hw19.ext e39; replace hw20 := hw20.ext e39; replace hw21 := hw21.ext e39; replace hw22 := hw22.ext e39; replace hw23 := hw23.ext e39; replace hw24 := hw24.ext e39; replace hw25 := hw25.ext e39; replace hw26 := hw26.ext e39; replace hw27 := hw27.ext e39; replace hw28 := hw28.ext e39; replace hw29 := hw29.ext e39; replace hw30 := hw30.ext e39; replace hw31 := hw31.ext e39; replace hw32 := hw32.ext e39; replace ho11 := ho11.ext e39; replace hw41 := hw41.ext e39; replace hw42 := hw42.ext e39; replace hw43 := hw43.ext e39; replace hw44 := hw44.ext e39; replace hw45 := hw45.ext e39; replace hw46 := hw46.ext e39; replace hw47 := hw47.ext e39; replace hw48 := hw48.ext e39; replace hw49 := hw49.ext e39; replace hw50 := hw50.ext e39; replace hw51 := hw51.ext e39; replace hw52 := hw52.ext e39; replace hw53 := hw53.ext e39; replace hw54 := hw54.ext e39; replace hw55 := hw55.ext e39; replace hw56 := hw56.ext e39; replace h7 := h7.ext e39
      have z47 := e39.size
      refine J_st (R_not rfl) rfl (J_st (R_move rfl) rfl ?_)
      refine J_cut 4 [(0, .agg [o1, .int .i64 g.workers, .int .i64 g.cap].toArray), (1, .agg [o2, o3, o4, o5, o6, o7, o8, o9].toArray), (2, .pointer (some ⟨b1, 0, none⟩)), (3, .pointer (some ⟨b2, 0, none⟩)), (4, .bool false), (5, .int .i64 (szM (cntWorker x) (szM (cntGraph g) 1048576))), (6, .pointer (some ⟨b3, 0, none⟩)), (7, .bool ((takeM g x).2)), (8, .pointer (some ⟨b4, 0, none⟩)), (9, .pointer (some ⟨b5, 0, none⟩)), (10, .pointer (some ⟨b6, 0, none⟩)), (11, .bool ((takeM g x).2)), (12, .int .i64 ((numW (numNs 1 g.nodes) x : Nat) : Int)), (13, .int .i64 ((numW 1 ((takeM g x).1) : Nat) : Int)), (14, .int .i64 ((numW 1 (markW 1 ((takeM g x).1)) : Nat) : Int)), (15, .pointer (some ⟨b7, 0, none⟩)), (16, .bool ((takeM g x).2)), (17, .agg [o1, .int .i64 g.workers, .int .i64 g.cap].toArray), (18, .int .i64 1048576), (19, .int .i64 (szM (cntGraph g) 1048576)), (20, .int .i64 (szM (cntGraph g) 1048576)), (21, .bool (decide ((szM (cntGraph g) 1048576) < 0))), (22, .agg [o2, o3, o4, o5, o6, o7, o8, o9].toArray), (23, .int .i64 (szM (cntGraph g) 1048576)), (24, .int .i64 (szM (cntWorker x) (szM (cntGraph g) 1048576))), (25, .int .i64 (szM (cntWorker x) (szM (cntGraph g) 1048576))), (26, .bool (decide ((szM (cntWorker x) (szM (cntGraph g) 1048576)) < 0))), (27, .tuple [.agg [o19, o20, o21, o22, o23, o24, o25, o26].toArray, .bool ((takeM g x).2)].toArray), (28, .agg [o1, .int .i64 g.workers, .int .i64 g.cap].toArray), (29, .agg [o10, .int .i64 g.workers, .int .i64 g.cap].toArray), (30, .agg [o2, o3, o4, o5, o6, o7, o8, o9].toArray), (31, .agg [o11, o12, o13, o14, o15, o16, o17, o18].toArray), (32, .tuple [.agg [o19, o20, o21, o22, o23, o24, o25, o26].toArray, .bool ((takeM g x).2)].toArray), (33, .agg [o19, o20, o21, o22, o23, o24, o25, o26].toArray), (34, .bool ((takeM g x).2)), (35, .agg [o1, .int .i64 g.workers, .int .i64 g.cap].toArray), (36, .agg [o27, .int .i64 g.workers, .int .i64 g.cap].toArray), (37, .agg [o2, o3, o4, o5, o6, o7, o8, o9].toArray), (38, .agg [o28, o29, o30, o31, o32, o33, o34, o35].toArray), (39, .tuple [.agg [o36, o37, o38, o39, o40, o41, o42, o43].toArray, .bool ((takeM g x).2)].toArray), (40, .agg [o27, .int .i64 g.workers, .int .i64 g.cap].toArray), (41, .agg [o28, o29, o30, o31, o32, o33, o34, o35].toArray), (42, .tuple [.agg [o36, o37, o38, o39, o40, o41, o42, o43].toArray, .bool ((takeM g x).2)].toArray), (43, .agg [o36, o37, o38, o39, o40, o41, o42, o43].toArray), (44, .bool ((takeM g x).2)), (53, .bool ((!(decide (((takeM g x).1) = ((takeM g x).1)))) || (!(((takeM g x).2) == ((takeM g x).2))))), (54, .agg [o27, .int .i64 g.workers, .int .i64 g.cap].toArray), (55, .agg [o1, .int .i64 g.workers, .int .i64 g.cap].toArray), (56, .agg [o44, .int .i64 g.workers, .int .i64 g.cap].toArray), (57, .bool (decide (g = g))), (58, .bool (!(decide (g = g)))), (59, .agg [o28, o29, o30, o31, o32, o33, o34, o35].toArray), (60, .agg [o2, o3, o4, o5, o6, o7, o8, o9].toArray), (61, .agg [o45, o46, o47, o48, o49, o50, o51, o52].toArray), (62, .bool (decide (x = x))), (63, .bool (!(decide (x = x)))), (64, .agg [o27, .int .i64 g.workers, .int .i64 g.cap].toArray), (65, .int .i64 1), (66, .int .i64 ((numNs 1 g.nodes : Nat) : Int)), (67, .agg [o28, o29, o30, o31, o32, o33, o34, o35].toArray), (68, .int .i64 ((numNs 1 g.nodes : Nat) : Int)), (69, .int .i64 ((numW (numNs 1 g.nodes) x : Nat) : Int)), (82, .bool (((decide (((numW (numNs 1 g.nodes) x : Nat) : Int) < 0)) || (!(decide (((takeM g x).1) = ((takeM g x).1))))) || (!(((takeM g x).2) == ((takeM g x).2))))), (83, .agg [o36, o37, o38, o39, o40, o41, o42, o43].toArray), (84, .int .i64 1), (85, .int .i64 ((numW 1 ((takeM g x).1) : Nat) : Int)), (86, .agg [o36, o37, o38, o39, o40, o41, o42, o43].toArray), (87, .int .i64 1), (88, .int .i64 ((numW 1 (markW 1 ((takeM g x).1)) : Nat) : Int)), (89, .int .i64 ((numW 1 (markW 1 ((takeM g x).1)) : Nat) : Int)), (90, .bool (decide (((numW 1 (markW 1 ((takeM g x).1)) : Nat) : Int) < 0))), (91, .int .i64 ((numW 1 (markW 1 ((takeM g x).1)) : Nat) : Int)), (92, .int .i64 ((numW 1 ((takeM g x).1) : Nat) : Int)), (93, .bool (((numW 1 (markW 1 ((takeM g x).1)) : Nat) : Int) != ((numW 1 ((takeM g x).1) : Nat) : Int))), (94, .tuple [.agg [o62, o63, o64, o65, o66, o67, o68, o69].toArray, .bool ((takeM g x).2)].toArray), (95, .agg [o1, .int .i64 g.workers, .int .i64 g.cap].toArray), (96, .agg [o53, .int .i64 g.workers, .int .i64 g.cap].toArray), (97, .agg [o2, o3, o4, o5, o6, o7, o8, o9].toArray), (98, .agg [o54, o55, o56, o57, o58, o59, o60, o61].toArray), (99, .tuple [.agg [o62, o63, o64, o65, o66, o67, o68, o69].toArray, .bool ((takeM g x).2)].toArray), (100, .agg [o62, o63, o64, o65, o66, o67, o68, o69].toArray), (101, .bool ((takeM g x).2)), (110, .bool ((!(decide (((takeM g x).1) = ((takeM g x).1)))) || (!(((takeM g x).2) == ((takeM g x).2)))))] (fun w' => w46 = w') ?_ ?_
      · refine J_if (gd := 106) rfl rfl (fun hg4 => ?_) (fun hg4 => ?_)
        · exact absurd hg4 (by first | (simp; done) | (simp only [nat_nlt] <;> simp) | (simp only [mkL_length, nat_nlt] <;> simp) | (simp only [mkL_length] <;> simp))
        · refine J_gd rfl rfl (R_move rfl) rfl (J_gd rfl rfl (R_move rfl) rfl (J_gd rfl rfl (R_neqB (Try.underlying4) rfl rfl) rfl (J_st (R_pickF rfl rfl) rfl (J_cutEnd ⟨rfl, rfl, rfl, rfl, rfl, rfl, rfl, rfl, rfl, rfl, rfl, rfl, rfl, rfl, rfl, rfl, rfl, rfl, rfl, rfl, rfl, rfl, rfl, rfl, rfl, rfl, rfl, rfl, rfl, rfl, rfl, rfl, rfl, rfl, rfl, rfl, rfl, rfl, rfl, rfl, rfl, rfl, rfl, rfl, rfl, rfl, rfl, rfl, rfl, rfl, rfl, rfl, rfl, rfl, rfl, rfl, rfl, rfl, rfl, rfl, rfl, rfl, rfl, rfl, rfl, rfl, rfl, rfl, rfl, rfl, rfl, rfl, rfl, rfl, rfl, rfl, rfl, rfl, rfl, rfl, rfl, rfl, congrArg (fun b => some (Value.bool b)) (show (!(((takeM g x).2) == ((takeM g x).2))) = ((!(decide (((takeM g x).1) = ((takeM g x).1)))) || (!(((takeM g x).2) == ((takeM g x).2)))) by first | (rw [hg4] <;> rfl) | (simp [hg4]; done) | (simp only [nat_nlt] <;> simp)), trivial⟩ rfl))))
      rintro _ rfl
      refine J_done ?_
      refine S_condFe rfl (by first | (simp; done) | (simp only [nat_nlt] <;> simp) | (simp only [mkL_length, nat_nlt] <;> simp) | (simp only [mkL_length] <;> simp)) ?_
      refine S_skip ?_
      refine S_seq ?_
      refine S_reg [true] rfl rfl ?_
      refine J_st (R_assign rfl) rfl (J_done ?_)
      refine S_seq ?_
      refine S_reg [true, true, false, true] rfl rfl ?_
      refine J_st (R_loadS st61 rfl h6.at rfl) rfl (J_st (R_move rfl) rfl ?_)
      refine J_call Try.call26 rfl (heldWorker [o36, o37, o38, o39, o40, o41, o42, o43] (markW 1 ((takeM g x).1)) 1 _ (Worker.mkR (markW 1 ((takeM g x).1)) (RdD.any (Own.rdD hw25)) (RdD.any (Own.rdD hw26)) (RdD.any (Own.rdD hw27)) (RdD.any (Own.rdD hw28)) (RdD.any (Own.rdD hw29)) (RdD.any (Own.rdD hw30)) (RdD.any (Own.rdD hw31)) (RdD.any (Own.rdD hw32))) (markW_idem _ _) (by rw [cntW_mark]; omega)) rfl (fun _ w48 e40 hv => ?_)
      subst hv
      replace E := E.trans e40; replace h1 := h1.ext e40; replace h2 := h2.ext e40; replace ho1 := ho1.ext e40; replace hw1 := hw1.ext e40; replace hw2 := hw2.ext e40; replace hw3 := hw3.ext e40; replace hw4 := hw4.ext e40; replace hw5 := hw5.ext e40; replace hw6 := hw6.ext e40; replace hw7 := hw7.ext e40; replace hw8 := hw8.ext e40; replace hw9 := hw9.ext e40; replace hw10 := hw10.ext e40; replace hw11 := hw11.ext e40; replace hw12 := hw12.ext e40; replace hw13 := hw13.ext e40; replace hw14 := hw14.ext e40; replace hw15 := hw15.ext e40; replace hw16 := hw16.ext e40; replace h3 := h3.ext e40; replace ho5 := ho5.ext e40; replace h4 := h4.ext e40; replace h5 := h5.ext e40; replace h6 := h6.ext e40; replace ho9 := ho9.ext e40; replace hw33 := hw33.ext e40; replace hw34 := hw34.ext e40; replace hw35 := hw35.ext e40; replace hw36 := hw36.ext e40; replace hw37 := hw37.ext e40; replace hw38 := hw38.ext e40; replace hw39 := hw39.ext e40; replace hw40 := hw40.ext e40; replace hw17 := hw17.ext e40; replace hw18 := hw18.ext e40; replace hw19 := hw19.ext e40; replace hw20 := hw20.ext e40; replace hw21 := hw21.ext e40; replace hw22 := hw22.ext e40; replace hw23 := hw23.ext e40; replace hw24 := hw24.ext e40; replace hw25 := hw25.ext e40; replace hw26 := hw26.ext e40; replace hw27 := hw27.ext e40; replace hw28 := hw28.ext e40; replace hw29 := hw29.ext e40; replace hw30 := hw30.ext e40; replace hw31 := hw31.ext e40; replace hw32 := hw32.ext e40; replace ho11 := ho11.ext e40; replace hw41 := hw41.ext e40; replace hw42 := hw42.ext e40; replace hw43 := hw43.ext e40; replace hw44 := hw44.ext e40; replace hw45 := hw45.ext e40; replace hw46 := hw46.ext e40; replace hw47 := hw47.ext e40; replace hw48 := hw48.ext e40; replace hw49 := hw49.ext e40; replace hw50 := hw50.ext e40; replace hw51 := hw51.ext e40; replace hw52 := hw52.ext e40; replace hw53 := hw53.ext e40; replace hw54 := hw54.ext e40; replace hw55 := hw55.ext e40; replace hw56 := hw56.ext e40; replace h7 := h7.ext e40
      have z48 := e40.size
      refine J_st (R_assign rfl) rfl (J_done ?_)
      refine S_seq ?_
      refine S_seq ?_
      refine S_reg [true, true] rfl rfl ?_
      refine J_st (R_move rfl) rfl (J_st (R_lss rfl rfl) rfl (J_done ?_))
      refine S_condFe rfl (by first | (simp; done) | (simp only [nat_nlt] <;> simp) | (simp only [mkL_length, nat_nlt] <;> simp) | (simp only [mkL_length] <;> simp)) ?_
      refine S_skip ?_
      refine S_seq ?_
      refine S_seq ?_
      refine S_reg [true, true, true] rfl rfl ?_
      refine J_st (R_move rfl) rfl (J_st (R_move rfl) rfl (J_st (R_neq rfl rfl) rfl (J_done ?_)))
      refine S_condFe rfl (by rw [numW_mark]; simp) ?_
      refine S_skip ?_
      refine S_seq ?_
      refine S_reg [true] rfl rfl ?_
      refine J_st (R_assign rfl) rfl (J_done ?_)
      refine S_ret (E_done1 rfl rfl E ?_)
      rfl

end Go.Proofs.Ytfohhffgomfhdaa
