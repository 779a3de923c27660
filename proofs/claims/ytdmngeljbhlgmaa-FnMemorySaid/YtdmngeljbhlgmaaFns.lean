/- What the functions that the laws call come to: a contract each; no condition. -/
import Derived.Test.YtdmngeljbhlgmaaTypes
namespace Go.Proofs.Ytdmngeljbhlgmaa
open Go Go.Proofs.Ytdmngeljbhlgmaa.X Go.Proofs
set_option maxRecDepth 20000 in
theorem c_l02Order (a : Int) (b : Int) (w : World)  : Ct Try.prog 74 [.int .i64 a, .int .i64 b] w (fun v _ => v = .int .i64 (ordI a b)) := by
  refine ct_of Try.func74 rfl Try.ntmps74 rfl ?_
  refine S_sub [(0, .int .i64 a), (1, .int .i64 b)] ⟨rfl, rfl, trivial⟩ ?_
  have E : Ext w w := Ext.refl w
  refine S_seq ?_
  refine S_reg [true] rfl rfl ?_
  refine J_st (R_assign rfl) rfl (J_done ?_)
  refine S_seq ?_
  refine S_block ?_
  refine S_seq ?_
  refine S_reg [true, true, true, true] rfl rfl ?_
  refine J_st (R_move rfl) rfl (J_st (R_move rfl) rfl (J_st (R_lss rfl rfl) rfl (J_st (R_assign rfl) rfl (J_done ?_))))
  refine S_cond rfl (fun hc1 => ?_) (fun hc1 => ?_)
  · refine S_seq ?_
    refine S_reg [true] rfl rfl ?_
    refine J_st (R_assign rfl) rfl (J_done ?_)
    refine S_ret (E_inB_ret (E_done1 rfl rfl E ?_))
    refine congrArg (Value.int .i64) ?_
    simp at *
    unfold ordI; (repeat' split) <;> first | rfl | omega
  · refine S_seq ?_
    refine S_reg [true, true, true, true] rfl rfl ?_
    refine J_st (R_move rfl) rfl (J_st (R_move rfl) rfl (J_st (R_gtr rfl rfl) rfl (J_st (R_assign rfl) rfl (J_done ?_))))
    refine S_cond rfl (fun hc2 => ?_) (fun hc2 => ?_)
    · refine S_seq ?_
      refine S_reg [true] rfl rfl ?_
      refine J_st (R_assign rfl) rfl (J_done ?_)
      refine S_ret (E_inB_ret (E_done1 rfl rfl E ?_))
      refine congrArg (Value.int .i64) ?_
      simp at *
      unfold ordI; (repeat' split) <;> first | rfl | omega
    · refine S_skip ?_
      refine S_nil (E_inB ?_)
      refine S_seq ?_
      refine S_reg [true] rfl rfl ?_
      refine J_st (R_assign rfl) rfl (J_done ?_)
      refine S_ret (E_done1 rfl rfl E ?_)
      refine congrArg (Value.int .i64) ?_
      simp at *
      unfold ordI; (repeat' split) <;> first | rfl | omega

set_option maxRecDepth 20000 in
theorem c_isNaN (a : Int) (w : World)  : Ct Try.prog 97 [.int .i64 a] w (fun v _ => v = .bool false) := by
  refine ct_of Try.func97 rfl Try.ntmps97 rfl ?_
  refine S_sub [(0, .int .i64 a)] ⟨rfl, trivial⟩ ?_
  have E : Ext w w := Ext.refl w
  refine S_seq ?_
  refine S_reg [true] rfl rfl ?_
  refine J_st (R_assign rfl) rfl (J_done ?_)
  refine S_seq ?_
  refine S_reg [true, true, true, true] rfl rfl ?_
  refine J_st (R_move rfl) rfl (J_st (R_move rfl) rfl (J_st (R_neq rfl rfl) rfl (J_st (R_assign rfl) rfl (J_done ?_))))
  refine S_ret (E_done1 rfl rfl E ?_)
  simp

set_option maxRecDepth 20000 in
theorem c_cmpCompare (a : Int) (b : Int) (w : World)  : Ct Try.prog 94 [.int .i64 a, .int .i64 b] w (fun v _ => v = .int .i64 (ordI a b)) := by
  refine ct_of Try.func94 rfl Try.ntmps94 rfl ?_
  refine S_sub [(0, .int .i64 a), (1, .int .i64 b)] ⟨rfl, rfl, trivial⟩ ?_
  have E : Ext w w := Ext.refl w
  refine S_seq ?_
  refine S_reg [true] rfl rfl ?_
  refine J_st (R_assign rfl) rfl (J_done ?_)
  refine S_seq ?_
  refine S_reg [true, false, true] rfl rfl ?_
  refine J_st (R_move rfl) rfl ?_
  refine J_call Try.call97 rfl (c_isNaN a _ ) rfl (fun _ w1 e1 hv => ?_)
  subst hv
  replace E := E.trans e1
  have z1 := e1.size
  refine J_st (R_assign rfl) rfl (J_done ?_)
  refine S_seq ?_
  refine S_reg [true, false, true] rfl rfl ?_
  refine J_st (R_move rfl) rfl ?_
  refine J_call Try.call97 rfl (c_isNaN b _ ) rfl (fun _ w2 e2 hv => ?_)
  subst hv
  replace E := E.trans e2
  have z2 := e2.size
  refine J_st (R_assign rfl) rfl (J_done ?_)
  refine S_seq ?_
  refine S_seq ?_
  refine S_reg [true] rfl rfl ?_
  refine J_st (R_move rfl) rfl (J_done ?_)
  refine S_condF rfl ?_
  refine S_skip ?_
  refine S_seq ?_
  refine S_seq ?_
  refine S_reg [true] rfl rfl ?_
  refine J_st (R_move rfl) rfl (J_done ?_)
  refine S_condF rfl ?_
  refine S_skip ?_
  refine S_seq ?_
  refine S_seq ?_
  refine S_reg [true, true, true] rfl rfl ?_
  refine J_st (R_move rfl) rfl (J_st (R_move rfl) rfl (J_st (R_lss rfl rfl) rfl (J_done ?_)))
  refine S_cond rfl (fun hc1 => ?_) (fun hc1 => ?_)
  · refine S_seq ?_
    refine S_reg [true] rfl rfl ?_
    refine J_st (R_assign rfl) rfl (J_done ?_)
    refine S_ret (E_done1 rfl rfl E ?_)
    refine congrArg (Value.int .i64) ?_
    simp at *
    unfold ordI; (repeat' split) <;> first | rfl | omega
  · refine S_skip ?_
    refine S_seq ?_
    refine S_seq ?_
    refine S_reg [true, true, true] rfl rfl ?_
    refine J_st (R_move rfl) rfl (J_st (R_move rfl) rfl (J_st (R_gtr rfl rfl) rfl (J_done ?_)))
    refine S_cond rfl (fun hc2 => ?_) (fun hc2 => ?_)
    · refine S_seq ?_
      refine S_reg [true] rfl rfl ?_
      refine J_st (R_assign rfl) rfl (J_done ?_)
      refine S_ret (E_done1 rfl rfl E ?_)
      refine congrArg (Value.int .i64) ?_
      simp at *
      unfold ordI; (repeat' split) <;> first | rfl | omega
    · refine S_skip ?_
      refine S_seq ?_
      refine S_reg [true] rfl rfl ?_
      refine J_st (R_assign rfl) rfl (J_done ?_)
      refine S_ret (E_done1 rfl rfl E ?_)
      refine congrArg (Value.int .i64) ?_
      simp at *
      unfold ordI; (repeat' split) <;> first | rfl | omega

set_option maxRecDepth 20000 in
theorem c_slicesCompare (vxs : Value) (xs : List Int) (vys : Value) (ys : List Int) (w : World) (hxs : RdS w vxs xs) (hys : RdS w vys ys) : Ct Try.prog 89 [vxs, vys] w (fun v _ => v = .int .i64 (cmpL xs ys)) := by
  refine ct_of Try.func89 rfl Try.ntmps89 rfl ?_
  refine S_sub [(0, vxs), (1, vys)] ⟨rfl, rfl, trivial⟩ ?_
  have E : Ext w w := Ext.refl w
  refine S_seq ?_
  refine S_reg [true] rfl rfl ?_
  refine J_st (R_assign rfl) rfl (J_done ?_)
  refine S_seq ?_
  refine S_seq ?_
  refine S_reg [true, true, true] rfl rfl ?_
  refine J_st (R_move rfl) rfl (J_st (R_len Try.underlying30 rfl (hxs.ext E).len) rfl (J_st (R_move rfl) rfl (J_done ?_)))
  refine S_block ?_
  refine S_loop (fun (k : Nat) => [(0, vxs), (1, vys), (4, .int .i64 0), (9, vxs), (10, .int .i64 ((xs.length : Nat) : Int)), (11, .int .i64 ((k : Nat) : Int))]) (fun (k : Nat) w' => Ext w w' ∧ w.heap.size ≤ w'.heap.size ∧ k ≤ xs.length ∧ k ≤ ys.length ∧ cmpL (xs.drop k) (ys.drop k) = cmpL xs ys) (fun (k : Nat) => xs.length - k) 0 ⟨rfl, rfl, rfl, rfl, rfl, rfl, trivial⟩ ⟨E, Nat.le_refl _, Nat.zero_le _, Nat.zero_le _, rfl⟩ ?_
  clear E
  rintro k w1 ⟨E, z1, hk, hky, hI⟩
  refine S_seq ?_
  refine S_reg [true] rfl rfl ?_
  refine J_st (R_lss rfl rfl) rfl (J_done ?_)
  refine S_seq ?_
  refine S_cond rfl (fun hc1 => ?_) (fun hc1 => ?_)
  · have hc1n : k < xs.length := by first | (have h := of_decide_eq_true hc1; omega) | (have h := hc1; simp at h; omega)
    refine S_skip ?_
    refine S_seq ?_
    refine S_block ?_
    refine S_seq ?_
    refine S_reg [true, true, true, true, true] rfl rfl ?_
    refine J_st (R_move rfl) rfl ?_
    have hi1 : k < xs.length := (by first | assumption | omega | (simp only [List.length_set]; first | assumption | omega) | (simp only [List.getElem_set_self, List.length_set]; first | assumption | omega) | (simp only [setW, setLk, List.length_set]; first | assumption | omega) | (simp; done))
    refine J_st (R_index (i := k) sl30 rfl rfl (hxs.ext E) hi1) rfl (J_st (R_load sc3 rfl (((hxs.ext E).get hi1).one 0 rfl)) rfl (J_st (R_assign rfl) rfl (J_st (R_assign rfl) rfl (J_done ?_))))
    refine S_seq ?_
    refine S_seq ?_
    refine S_reg [true, true, true, true] rfl rfl ?_
    refine J_st (R_move rfl) rfl (J_st (R_move rfl) rfl (J_st (R_len Try.underlying30 rfl (hys.ext E).len) rfl (J_st (R_geq rfl rfl) rfl (J_done ?_))))
    refine S_cond rfl (fun hc2 => ?_) (fun hc2 => ?_)
    · have hc2n : k ≥ ys.length := by first | (have h := of_decide_eq_true hc2; omega) | (have h := hc2; simp at h; omega)
      refine S_seq ?_
      refine S_reg [true] rfl rfl ?_
      refine J_st (R_assign rfl) rfl (J_done ?_)
      refine S_ret (E_inB_ret (E_lp_ret (E_inB_ret (E_done1 rfl rfl E ?_))))
      exact cmpL_1 hI (by omega) (by omega)
    · have hc2n : ¬ k ≥ ys.length := by first | (have h := of_decide_eq_false hc2; omega) | (have h := hc2; simp at h; omega)
      refine S_skip ?_
      refine S_seq ?_
      refine S_reg [true, true, true, true, true] rfl rfl ?_
      refine J_st (R_move rfl) rfl (J_st (R_move rfl) rfl ?_)
      have hi2 : k < ys.length := (by first | assumption | omega | (simp only [List.length_set]; first | assumption | omega) | (simp only [List.getElem_set_self, List.length_set]; first | assumption | omega) | (simp only [setW, setLk, List.length_set]; first | assumption | omega) | (simp; done))
      refine J_st (R_index (i := k) sl30 rfl rfl (hys.ext E) hi2) rfl (J_st (R_load sc3 rfl (((hys.ext E).get hi2).one 0 rfl)) rfl (J_st (R_assign rfl) rfl (J_done ?_)))
      refine S_seq ?_
      refine S_reg [true, true, false, true] rfl rfl ?_
      refine J_st (R_move rfl) rfl (J_st (R_move rfl) rfl ?_)
      refine J_call Try.call94 rfl (c_cmpCompare (xs[k]'hi1) (ys[k]'hi2) _ ) rfl (fun _ w2 e1 hv => ?_)
      subst hv
      replace E := E.trans e1
      have z2 := e1.size
      refine J_st (R_assign rfl) rfl (J_done ?_)
      refine S_seq ?_
      refine S_reg [true, true] rfl rfl ?_
      refine J_st (R_move rfl) rfl (J_st (R_neq rfl rfl) rfl (J_done ?_))
      refine S_cond rfl (fun hc3 => ?_) (fun hc3 => ?_)
      · refine S_seq ?_
        refine S_reg [true, true] rfl rfl ?_
        refine J_st (R_move rfl) rfl (J_st (R_assign rfl) rfl (J_done ?_))
        refine S_ret (E_inB_ret (E_lp_ret (E_inB_ret (E_done1 rfl rfl E ?_))))
        exact cmpL_2 hI (by omega) (by omega) (by simpa using hc3)
      · refine S_skip ?_
        refine S_nil (E_inB ?_)
        refine S_reg [true, true] rfl rfl ?_
        refine J_st (R_add rfl rfl (add_one hc1n hxs.1)) rfl (J_st (R_move rfl) rfl (J_done ?_))
        refine S_nil (E_again (k + 1) (by omega) ⟨rfl, rfl, rfl, rfl, rfl, rfl, trivial⟩ ⟨E, (by omega), (by omega), (by omega), cmpL_step hI (by omega) (by omega) (by simpa using hc3)⟩)
  · have hc1n : ¬ k < xs.length := by first | (have h := of_decide_eq_false hc1; omega) | (have h := hc1; simp at h; omega)
    refine S_exit (E_lp_exit (E_inB_exit ?_))
    refine S_seq ?_
    refine S_seq ?_
    refine S_reg [true, true, true, true, true] rfl rfl ?_
    refine J_st (R_move rfl) rfl (J_st (R_len Try.underlying30 rfl (hxs.ext E).len) rfl (J_st (R_move rfl) rfl (J_st (R_len Try.underlying30 rfl (hys.ext E).len) rfl (J_st (R_lss rfl rfl) rfl (J_done ?_)))))
    refine S_cond rfl (fun hc4 => ?_) (fun hc4 => ?_)
    · have hc4n : xs.length < ys.length := by first | (have h := of_decide_eq_true hc4; omega) | (have h := hc4; simp at h; omega)
      refine S_seq ?_
      refine S_reg [true] rfl rfl ?_
      refine J_st (R_assign rfl) rfl (J_done ?_)
      refine S_ret (E_done1 rfl rfl E ?_)
      exact cmpL_3 hI (by omega) (by omega)
    · have hc4n : ¬ xs.length < ys.length := by first | (have h := of_decide_eq_false hc4; omega) | (have h := hc4; simp at h; omega)
      refine S_skip ?_
      refine S_seq ?_
      refine S_reg [true] rfl rfl ?_
      refine J_st (R_assign rfl) rfl (J_done ?_)
      refine S_ret (E_done1 rfl rfl E ?_)
      exact cmpL_4 hI (by omega) (by omega)

set_option maxRecDepth 20000 in
theorem c_orderOf (vxs : Value) (xs : List Int) (vys : Value) (ys : List Int) (w : World) (hxs : RdS w vxs xs) (hys : RdS w vys ys) : Ct Try.prog 73 [vxs, vys] w (fun v _ => v = .int .i64 (cmpL xs ys)) := by
  refine ct_of Try.func73 rfl Try.ntmps73 rfl ?_
  refine S_sub [(0, vxs), (1, vys)] ⟨rfl, rfl, trivial⟩ ?_
  have E : Ext w w := Ext.refl w
  refine S_seq ?_
  refine S_reg [true] rfl rfl ?_
  refine J_st (R_assign rfl) rfl (J_done ?_)
  refine S_seq ?_
  refine S_reg [true, true, false, true] rfl rfl ?_
  refine J_st (R_move rfl) rfl (J_st (R_move rfl) rfl ?_)
  refine J_call Try.call89 rfl (c_slicesCompare vxs xs vys ys _ (hxs.ext E) (hys.ext E)) rfl (fun _ w1 e1 hv => ?_)
  subst hv
  replace E := E.trans e1
  have z1 := e1.size
  refine J_st (R_assign rfl) rfl (J_done ?_)
  refine S_ret (E_done1 rfl rfl E ?_)
  rfl

set_option maxRecDepth 20000 in
theorem c_CellOrder (x : Cell) (y : Cell) (w : World)  : Ct Try.prog 42 [.agg (Enc.enc x).toArray, .agg (Enc.enc y).toArray] w (fun v _ => v = .int .i64 (cellOrd x y)) := by
  refine ct_of Try.func42 rfl Try.ntmps42 rfl ?_
  refine S_sub [(0, .agg (Enc.enc x).toArray), (1, .agg (Enc.enc y).toArray)] ⟨rfl, rfl, trivial⟩ ?_
  have E : Ext w w := Ext.refl w
  refine S_seq ?_
  refine S_reg [false, false, true] rfl rfl ?_
  refine J_box rfl rfl (fun b1 w1 e1 s1 h1 => ?_)
  have g_b1 : w.heap.size ≤ b1 := by have := E.size; omega
  have y_b1 := h1.lt
  replace E := E.trans e1
  have z1 := e1.size
  refine J_box rfl rfl (fun b2 w2 e2 s2 h2 => ?_)
  have g_b2 : w.heap.size ≤ b2 := by have := E.size; omega
  have y_b2 := h2.lt
  replace E := E.trans e2; replace h1 := h1.ext e2
  have z2 := e2.size
  refine J_st (R_assign rfl) rfl (J_done ?_)
  refine S_seq ?_
  refine S_reg [true, true, true, true, true, true, true, true, false, true, true, true, true, true, true, true, true, false, false, true] rfl rfl ?_
  refine J_st (R_fieldAddr0 fl47_1 rfl) rfl (J_st (R_load sc3 rfl (h1.one 1 rfl)) rfl (J_st (R_fieldAddr0 fl47_0 rfl) rfl (J_st (R_load sc3 rfl (h1.one 0 rfl)) rfl (J_st (R_fieldAddr0 fl47_2 rfl) rfl (J_st (R_load sc3 rfl (h1.one 2 rfl)) rfl (J_st (R_fieldAddr0 fl47_3 rfl) rfl (J_st (R_load sc3 rfl (h1.one 3 rfl)) rfl ?_)))))))
  refine J_buildSlice (vs := [.int .i64 x.epoch, .int .i64 x.op, .int .i64 x.key, .int .i64 x.val]) (css := [[.int .i64 x.epoch], [.int .i64 x.op], [.int .i64 x.key], [.int .i64 x.val]]) sl30 rfl rfl ⟨⟨rfl, rfl⟩, ⟨rfl, rfl⟩, ⟨rfl, rfl⟩, ⟨rfl, rfl⟩, trivial⟩ rfl rfl (fun b3 w3 e3 s3 h3 => ?_)
  replace h3 : Blk w3 b3 [.int .i64 x.epoch, .int .i64 x.op, .int .i64 x.key, .int .i64 x.val] := h3
  have g_b3 : w.heap.size ≤ b3 := by have := E.size; omega
  have y_b3 := h3.lt
  replace E := E.trans e3; replace h1 := h1.ext e3; replace h2 := h2.ext e3
  have z3 := e3.size
  refine J_st (R_fieldAddr0 fl47_1 rfl) rfl (J_st (R_load sc3 rfl (h2.one 1 rfl)) rfl (J_st (R_fieldAddr0 fl47_0 rfl) rfl (J_st (R_load sc3 rfl (h2.one 0 rfl)) rfl (J_st (R_fieldAddr0 fl47_2 rfl) rfl (J_st (R_load sc3 rfl (h2.one 2 rfl)) rfl (J_st (R_fieldAddr0 fl47_3 rfl) rfl (J_st (R_load sc3 rfl (h2.one 3 rfl)) rfl ?_)))))))
  refine J_buildSlice (vs := [.int .i64 y.epoch, .int .i64 y.op, .int .i64 y.key, .int .i64 y.val]) (css := [[.int .i64 y.epoch], [.int .i64 y.op], [.int .i64 y.key], [.int .i64 y.val]]) sl30 rfl rfl ⟨⟨rfl, rfl⟩, ⟨rfl, rfl⟩, ⟨rfl, rfl⟩, ⟨rfl, rfl⟩, trivial⟩ rfl rfl (fun b4 w4 e4 s4 h4 => ?_)
  replace h4 : Blk w4 b4 [.int .i64 y.epoch, .int .i64 y.op, .int .i64 y.key, .int .i64 y.val] := h4
  have g_b4 : w.heap.size ≤ b4 := by have := E.size; omega
  have y_b4 := h4.lt
  replace E := E.trans e4; replace h1 := h1.ext e4; replace h2 := h2.ext e4; replace h3 := h3.ext e4
  have z4 := e4.size
  refine J_call Try.call73 rfl (c_orderOf (.slice (some ⟨b3, 0, none⟩) 4 4) [x.epoch, x.op, x.key, x.val] (.slice (some ⟨b4, 0, none⟩) 4 4) [y.epoch, y.op, y.key, y.val] _ (Blk.rd (α := Int) (xs := [x.epoch, x.op, x.key, x.val]) (by decide) h3 rfl (by simp [maxLen])) (Blk.rd (α := Int) (xs := [y.epoch, y.op, y.key, y.val]) (by decide) h4 rfl (by simp [maxLen]))) rfl (fun _ w5 e5 hv => ?_)
  subst hv
  replace E := E.trans e5; replace h1 := h1.ext e5; replace h2 := h2.ext e5; replace h3 := h3.ext e5; replace h4 := h4.ext e5
  have z5 := e5.size
  refine J_st (R_assign rfl) rfl (J_done ?_)
  refine S_ret (E_done1 rfl rfl E ?_)
  rfl

set_option maxRecDepth 20000 in
theorem s_CellOrder (x : Cell) (y : Cell) (w : World)  : Ct Try.prog 43 [.agg (Enc.enc x).toArray, .agg (Enc.enc y).toArray] w (fun v _ => v = .int .i64 (cellOrd x y)) := by
  refine ct_of Try.func43 rfl Try.ntmps43 rfl ?_
  refine S_sub [(0, .agg (Enc.enc x).toArray), (1, .agg (Enc.enc y).toArray)] ⟨rfl, rfl, trivial⟩ ?_
  have E : Ext w w := Ext.refl w
  refine S_seq ?_
  refine S_reg [false, false, true] rfl rfl ?_
  refine J_box rfl rfl (fun b1 w1 e1 s1 h1 => ?_)
  have g_b1 : w.heap.size ≤ b1 := by have := E.size; omega
  have y_b1 := h1.lt
  replace E := E.trans e1
  have z1 := e1.size
  refine J_box rfl rfl (fun b2 w2 e2 s2 h2 => ?_)
  have g_b2 : w.heap.size ≤ b2 := by have := E.size; omega
  have y_b2 := h2.lt
  replace E := E.trans e2; replace h1 := h1.ext e2
  have z2 := e2.size
  refine J_st (R_assign rfl) rfl (J_done ?_)
  refine S_seq ?_
  refine S_regD mixed [(0, true), (1, true), (2, true), (3, true), (5, true), (6, true), (7, true), (8, true), (10, true), (11, true), (12, true), (13, true), (15, true), (16, true), (17, true), (18, true), (4, false), (9, false), (14, false), (19, false), (20, false), (21, true)] (by decide +kernel) rfl (fun w3 e3 => ?_)
  replace E := E.trans e3; replace h1 := h1.ext e3; replace h2 := h2.ext e3
  have z3 := e3.size
  refine J_st (R_fieldAddr0 fl47_1 rfl) rfl (J_st (R_load sc3 rfl (h1.one 1 rfl)) rfl (J_st (R_fieldAddr0 fl47_1 rfl) rfl (J_st (R_load sc3 rfl (h2.one 1 rfl)) rfl (J_st (R_fieldAddr0 fl47_0 rfl) rfl (J_st (R_load sc3 rfl (h1.one 0 rfl)) rfl (J_st (R_fieldAddr0 fl47_0 rfl) rfl (J_st (R_load sc3 rfl (h2.one 0 rfl)) rfl (J_st (R_fieldAddr0 fl47_2 rfl) rfl (J_st (R_load sc3 rfl (h1.one 2 rfl)) rfl (J_st (R_fieldAddr0 fl47_2 rfl) rfl (J_st (R_load sc3 rfl (h2.one 2 rfl)) rfl (J_st (R_fieldAddr0 fl47_3 rfl) rfl (J_st (R_load sc3 rfl (h1.one 3 rfl)) rfl (J_st (R_fieldAddr0 fl47_3 rfl) rfl (J_st (R_load sc3 rfl (h2.one 3 rfl)) rfl ?_)))))))))))))))
  refine J_call Try.call74 rfl (c_l02Order x.epoch y.epoch _ ) rfl (fun _ w4 e4 hv => ?_)
  subst hv
  replace E := E.trans e4; replace h1 := h1.ext e4; replace h2 := h2.ext e4
  have z4 := e4.size
  refine J_call Try.call74 rfl (c_l02Order x.op y.op _ ) rfl (fun _ w5 e5 hv => ?_)
  subst hv
  replace E := E.trans e5; replace h1 := h1.ext e5; replace h2 := h2.ext e5
  have z5 := e5.size
  refine J_call Try.call74 rfl (c_l02Order x.key y.key _ ) rfl (fun _ w6 e6 hv => ?_)
  subst hv
  replace E := E.trans e6; replace h1 := h1.ext e6; replace h2 := h2.ext e6
  have z6 := e6.size
  refine J_call Try.call74 rfl (c_l02Order x.val y.val _ ) rfl (fun _ w7 e7 hv => ?_)
  subst hv
  replace E := E.trans e7; replace h1 := h1.ext e7; replace h2 := h2.ext e7
  have z7 := e7.size
  refine J_buildSlice (vs := [.int .i64 (ordI x.epoch y.epoch), .int .i64 (ordI x.op y.op), .int .i64 (ordI x.key y.key), .int .i64 (ordI x.val y.val)]) (css := [[.int .i64 (ordI x.epoch y.epoch)], [.int .i64 (ordI x.op y.op)], [.int .i64 (ordI x.key y.key)], [.int .i64 (ordI x.val y.val)]]) sl30 rfl rfl ⟨⟨rfl, rfl⟩, ⟨rfl, rfl⟩, ⟨rfl, rfl⟩, ⟨rfl, rfl⟩, trivial⟩ rfl rfl (fun b3 w8 e8 s3 h3 => ?_)
  replace h3 : Blk w8 b3 [.int .i64 (ordI x.epoch y.epoch), .int .i64 (ordI x.op y.op), .int .i64 (ordI x.key y.key), .int .i64 (ordI x.val y.val)] := h3
  have g_b3 : w.heap.size ≤ b3 := by have := E.size; omega
  have y_b3 := h3.lt
  replace E := E.trans e8; replace h1 := h1.ext e8; replace h2 := h2.ext e8
  have z8 := e8.size
  refine J_st (R_assign rfl) rfl (J_done ?_)
  refine S_seq ?_
  refine S_seq ?_
  refine S_reg [true] rfl rfl ?_
  refine J_st (R_assign rfl) rfl (J_done ?_)
  refine S_block ?_
  refine S_loop (fun (k : Nat) => [(4, .int .i64 0), (5, .slice (some ⟨b3, 0, none⟩) 4 4), (6, .int .i64 ((k : Nat) : Int))]) (fun (k : Nat) w' => Ext w w' ∧ w8.heap.size ≤ w'.heap.size ∧ Blk w' b1 (Enc.enc x) ∧ Blk w' b2 (Enc.enc y) ∧ Blk w' b3 [.int .i64 (ordI x.epoch y.epoch), .int .i64 (ordI x.op y.op), .int .i64 (ordI x.key y.key), .int .i64 (ordI x.val y.val)] ∧ k ≤ 4 ∧ firstNZ (List.drop k [ordI x.epoch y.epoch, ordI x.op y.op, ordI x.key y.key, ordI x.val y.val]) = firstNZ [ordI x.epoch y.epoch, ordI x.op y.op, ordI x.key y.key, ordI x.val y.val]) (fun (k : Nat) => 4 - k) 0 ⟨rfl, rfl, rfl, trivial⟩ ⟨E, Nat.le_refl _, h1, h2, h3, Nat.zero_le _, rfl⟩ ?_
  clear E h1 h2 h3
  rintro k w9 ⟨E, z9, h1, h2, h3, hk, hI⟩
  refine S_seq ?_
  refine S_seq ?_
  refine S_reg [true, true] rfl rfl ?_
  refine J_st (R_move rfl) rfl (J_st (R_lss rfl rfl) rfl (J_done ?_))
  refine S_cond rfl (fun hc1 => ?_) (fun hc1 => ?_)
  · have hc1n : k < 4 := by first | (have h := of_decide_eq_true hc1; omega) | (have h := hc1; simp at h; omega)
    refine S_skip ?_
    refine S_seq ?_
    refine S_block ?_
    refine S_seq ?_
    refine S_reg [true, true, true, true, true] rfl rfl ?_
    refine J_st (R_move rfl) rfl (J_st (R_move rfl) rfl ?_)
    have hi1 : k < [ordI x.epoch y.epoch, ordI x.op y.op, ordI x.key y.key, ordI x.val y.val].length := (by first | assumption | omega | (simp only [List.length_set]; first | assumption | omega) | (simp only [List.getElem_set_self, List.length_set]; first | assumption | omega) | (simp only [setW, setLk, List.length_set]; first | assumption | omega) | (simp; done))
    refine J_st (R_index (i := k) sl30 rfl rfl (Blk.rd (α := Int) (xs := [ordI x.epoch y.epoch, ordI x.op y.op, ordI x.key y.key, ordI x.val y.val]) (by decide) h3 rfl (by simp [maxLen])) hi1) rfl (J_st (R_load sc3 rfl (((Blk.rd (α := Int) (xs := [ordI x.epoch y.epoch, ordI x.op y.op, ordI x.key y.key, ordI x.val y.val]) (by decide) h3 rfl (by simp [maxLen])).get hi1).one 0 rfl)) rfl (J_st (R_neq rfl rfl) rfl (J_done ?_)))
    refine S_cond rfl (fun hc2 => ?_) (fun hc2 => ?_)
    · refine S_seq ?_
      refine S_reg [true, true, true, true, true] rfl rfl ?_
      refine J_st (R_move rfl) rfl (J_st (R_move rfl) rfl (J_st (R_index (i := k) sl30 rfl rfl (Blk.rd (α := Int) (xs := [ordI x.epoch y.epoch, ordI x.op y.op, ordI x.key y.key, ordI x.val y.val]) (by decide) h3 rfl (by simp [maxLen])) hi1) rfl (J_st (R_load sc3 rfl (((Blk.rd (α := Int) (xs := [ordI x.epoch y.epoch, ordI x.op y.op, ordI x.key y.key, ordI x.val y.val]) (by decide) h3 rfl (by simp [maxLen])).get hi1).one 0 rfl)) rfl (J_st (R_assign rfl) rfl (J_done ?_)))))
      refine S_ret (E_inB_ret (E_lp_ret (E_inB_ret (E_done1 rfl rfl E ?_))))
      exact cellOrd_a (firstNZ_yes hI (by simpa using hc1n) (by simpa using hc2))
    · refine S_skip ?_
      refine S_nil (E_inB ?_)
      refine S_reg [true, true, true] rfl rfl ?_
      refine J_st (R_move rfl) rfl (J_st (R_add rfl rfl (add_one hc1n (by first | assumption | (unfold maxLen; omega)))) rfl (J_st (R_assign rfl) rfl (J_done ?_)))
      refine S_nil (E_again (k + 1) (by omega) ⟨rfl, rfl, rfl, trivial⟩ ⟨E, (by omega), h1, h2, h3, (by omega), firstNZ_step hI (by simpa using hc1n) (by simpa using hc2)⟩)
  · have hc1n : ¬ k < 4 := by first | (have h := of_decide_eq_false hc1; omega) | (have h := hc1; simp at h; omega)
    refine S_exit (E_lp_exit (E_inB_exit ?_))
    refine S_seq ?_
    refine S_reg [true] rfl rfl ?_
    refine J_st (R_assign rfl) rfl (J_done ?_)
    refine S_ret (E_done1 rfl rfl E ?_)
    exact cellOrd_b (firstNZ_no hI (by simp; omega))

set_option maxRecDepth 20000 in
theorem s_HasCell (vxs : Value) (xs : List Cell) (x : Cell) (w : World) (hxs : RdS w vxs xs) : Ct Try.prog 69 [vxs, .agg (Enc.enc x).toArray] w (fun v _ => v = .bool (decide (x ∈ xs))) := by
  refine ct_of Try.func69 rfl Try.ntmps69 rfl ?_
  refine S_sub [(0, vxs), (1, .agg (Enc.enc x).toArray)] ⟨rfl, rfl, trivial⟩ ?_
  have E : Ext w w := Ext.refl w
  refine S_seq ?_
  refine S_reg [false, true] rfl rfl ?_
  refine J_box rfl rfl (fun b1 w1 e1 s1 h1 => ?_)
  have g_b1 : w.heap.size ≤ b1 := by have := E.size; omega
  have y_b1 := h1.lt
  replace E := E.trans e1
  have z1 := e1.size
  refine J_st (R_assign rfl) rfl (J_done ?_)
  refine S_seq ?_
  refine S_seq ?_
  refine S_reg [true] rfl rfl ?_
  refine J_st (R_assign rfl) rfl (J_done ?_)
  refine S_block ?_
  refine S_loop (fun (k : Nat) => [(0, vxs), (3, .pointer (some ⟨b1, 0, none⟩)), (4, .bool false), (5, .int .i64 ((k : Nat) : Int))]) (fun (k : Nat) w' => Ext w w' ∧ w1.heap.size ≤ w'.heap.size ∧ Blk w' b1 (Enc.enc x) ∧ k ≤ xs.length ∧ x ∉ xs.take k) (fun (k : Nat) => xs.length - k) 0 ⟨rfl, rfl, rfl, rfl, trivial⟩ ⟨E, Nat.le_refl _, h1, Nat.zero_le _, (by simp)⟩ ?_
  clear E h1
  rintro k w2 ⟨E, z2, h1, hk, hI⟩
  refine S_seq ?_
  refine S_seq ?_
  refine S_reg [true, true, true, true] rfl rfl ?_
  refine J_st (R_move rfl) rfl (J_st (R_move rfl) rfl (J_st (R_len Try.underlying45 rfl (hxs.ext E).len) rfl (J_st (R_lss rfl rfl) rfl (J_done ?_))))
  refine S_cond rfl (fun hc1 => ?_) (fun hc1 => ?_)
  · have hc1n : k < xs.length := by first | (have h := of_decide_eq_true hc1; omega) | (have h := hc1; simp at h; omega)
    refine S_skip ?_
    refine S_seq ?_
    refine S_block ?_
    refine S_seq ?_
    refine S_regD mixed [(0, true), (1, true), (2, true), (3, true), (4, true), (5, true)] (by decide +kernel) rfl (fun w3 e2 => ?_)
    replace E := E.trans e2; replace h1 := h1.ext e2
    have z3 := e2.size
    refine J_st (R_move rfl) rfl (J_st (R_move rfl) rfl ?_)
    have hi1 : k < xs.length := (by first | assumption | omega | (simp only [List.length_set]; first | assumption | omega) | (simp only [List.getElem_set_self, List.length_set]; first | assumption | omega) | (simp only [setW, setLk, List.length_set]; first | assumption | omega) | (simp; done))
    refine J_st (R_index (i := k) sl45 rfl rfl (hxs.ext E) hi1) rfl (J_st (R_loadS st47 rfl ((hxs.ext E).get hi1) rfl) rfl (J_st (R_loadS st47 rfl h1.at rfl) rfl (J_st (R_eqlS (eq47 (xs[k]'hi1) x) eqg47 rfl rfl) rfl (J_done ?_))))
    refine S_cond rfl (fun hc2 => ?_) (fun hc2 => ?_)
    · refine S_seq ?_
      refine S_reg [true] rfl rfl ?_
      refine J_st (R_assign rfl) rfl (J_done ?_)
      refine S_ret (E_inB_ret (E_lp_ret (E_inB_ret (E_done1 rfl rfl E ?_))))
      exact has_yes hc1n (by simpa using hc2)
    · refine S_skip ?_
      refine S_nil (E_inB ?_)
      refine S_reg [true, true, true] rfl rfl ?_
      refine J_st (R_move rfl) rfl (J_st (R_add rfl rfl (add_one hc1n hxs.1)) rfl (J_st (R_assign rfl) rfl (J_done ?_)))
      refine S_nil (E_again (k + 1) (by omega) ⟨rfl, rfl, rfl, rfl, trivial⟩ ⟨E, (by omega), h1, (by omega), has_step hI (by assumption) (by simpa using hc2)⟩)
  · have hc1n : ¬ k < xs.length := by first | (have h := of_decide_eq_false hc1; omega) | (have h := hc1; simp at h; omega)
    refine S_exit (E_lp_exit (E_inB_exit ?_))
    refine S_seq ?_
    refine S_reg [true] rfl rfl ?_
    refine J_st (R_assign rfl) rfl (J_done ?_)
    refine S_ret (E_done1 rfl rfl E ?_)
    exact has_no hI (by omega)

set_option maxRecDepth 20000 in
theorem c_slicesIndex (vxs : Value) (xs : List Cell) (x : Cell) (w : World) (hxs : RdS w vxs xs) : Ct Try.prog 88 [vxs, .agg (Enc.enc x).toArray] w (fun v _ => v = .int .i64 (idxI xs x)) := by
  refine ct_of Try.func88 rfl Try.ntmps88 rfl ?_
  refine S_sub [(0, vxs), (1, .agg (Enc.enc x).toArray)] ⟨rfl, rfl, trivial⟩ ?_
  have E : Ext w w := Ext.refl w
  refine S_seq ?_
  refine S_reg [false, true] rfl rfl ?_
  refine J_box rfl rfl (fun b1 w1 e1 s1 h1 => ?_)
  have g_b1 : w.heap.size ≤ b1 := by have := E.size; omega
  have y_b1 := h1.lt
  replace E := E.trans e1
  have z1 := e1.size
  refine J_st (R_assign rfl) rfl (J_done ?_)
  refine S_seq ?_
  refine S_seq ?_
  refine S_reg [true, true, true] rfl rfl ?_
  refine J_st (R_move rfl) rfl (J_st (R_len Try.underlying45 rfl (hxs.ext E).len) rfl (J_st (R_move rfl) rfl (J_done ?_)))
  refine S_block ?_
  refine S_loop (fun (k : Nat) => [(0, vxs), (3, .pointer (some ⟨b1, 0, none⟩)), (4, .int .i64 0), (7, .int .i64 ((xs.length : Nat) : Int)), (8, .int .i64 ((k : Nat) : Int))]) (fun (k : Nat) w' => Ext w w' ∧ w1.heap.size ≤ w'.heap.size ∧ Blk w' b1 (Enc.enc x) ∧ k ≤ xs.length ∧ x ∉ xs.take k) (fun (k : Nat) => xs.length - k) 0 ⟨rfl, rfl, rfl, rfl, rfl, trivial⟩ ⟨E, Nat.le_refl _, h1, Nat.zero_le _, (by simp)⟩ ?_
  clear E h1
  rintro k w2 ⟨E, z2, h1, hk, hI⟩
  refine S_seq ?_
  refine S_reg [true] rfl rfl ?_
  refine J_st (R_lss rfl rfl) rfl (J_done ?_)
  refine S_seq ?_
  refine S_cond rfl (fun hc1 => ?_) (fun hc1 => ?_)
  · have hc1n : k < xs.length := by first | (have h := of_decide_eq_true hc1; omega) | (have h := hc1; simp at h; omega)
    refine S_skip ?_
    refine S_seq ?_
    refine S_block ?_
    refine S_seq ?_
    refine S_reg [true, true] rfl rfl ?_
    refine J_st (R_move rfl) rfl (J_st (R_assign rfl) rfl (J_done ?_))
    refine S_seq ?_
    refine S_regD mixed [(0, true), (1, true), (2, true), (3, true), (4, true), (5, true)] (by decide +kernel) rfl (fun w3 e2 => ?_)
    replace E := E.trans e2; replace h1 := h1.ext e2
    have z3 := e2.size
    refine J_st (R_loadS st47 rfl h1.at rfl) rfl (J_st (R_move rfl) rfl (J_st (R_move rfl) rfl ?_))
    have hi1 : k < xs.length := (by first | assumption | omega | (simp only [List.length_set]; first | assumption | omega) | (simp only [List.getElem_set_self, List.length_set]; first | assumption | omega) | (simp only [setW, setLk, List.length_set]; first | assumption | omega) | (simp; done))
    refine J_st (R_index (i := k) sl45 rfl rfl (hxs.ext E) hi1) rfl (J_st (R_loadS st47 rfl ((hxs.ext E).get hi1) rfl) rfl (J_st (R_eqlS (eq47 x (xs[k]'hi1)) eqg47 rfl rfl) rfl (J_done ?_)))
    refine S_cond rfl (fun hc2 => ?_) (fun hc2 => ?_)
    · refine S_seq ?_
      refine S_reg [true, true] rfl rfl ?_
      refine J_st (R_move rfl) rfl (J_st (R_assign rfl) rfl (J_done ?_))
      refine S_ret (E_inB_ret (E_lp_ret (E_inB_ret (E_done1 rfl rfl E ?_))))
      exact idx_yes hI hc1n (by simpa [eq_comm] using hc2)
    · refine S_skip ?_
      refine S_nil (E_inB ?_)
      refine S_reg [true, true] rfl rfl ?_
      refine J_st (R_add rfl rfl (add_one hc1n hxs.1)) rfl (J_st (R_move rfl) rfl (J_done ?_))
      refine S_nil (E_again (k + 1) (by omega) ⟨rfl, rfl, rfl, rfl, rfl, trivial⟩ ⟨E, (by omega), h1, (by omega), has_step hI (by assumption) (by simpa [eq_comm] using hc2)⟩)
  · have hc1n : ¬ k < xs.length := by first | (have h := of_decide_eq_false hc1; omega) | (have h := hc1; simp at h; omega)
    refine S_exit (E_lp_exit (E_inB_exit ?_))
    refine S_seq ?_
    refine S_reg [true] rfl rfl ?_
    refine J_st (R_assign rfl) rfl (J_done ?_)
    refine S_ret (E_done1 rfl rfl E ?_)
    exact idx_no hI (by omega)

set_option maxRecDepth 20000 in
theorem c_slicesContains (vxs : Value) (xs : List Cell) (x : Cell) (w : World) (hxs : RdS w vxs xs) : Ct Try.prog 72 [vxs, .agg (Enc.enc x).toArray] w (fun v _ => v = .bool (decide (x ∈ xs))) := by
  refine ct_of Try.func72 rfl Try.ntmps72 rfl ?_
  refine S_sub [(0, vxs), (1, .agg (Enc.enc x).toArray)] ⟨rfl, rfl, trivial⟩ ?_
  have E : Ext w w := Ext.refl w
  refine S_seq ?_
  refine S_reg [false, true] rfl rfl ?_
  refine J_box rfl rfl (fun b1 w1 e1 s1 h1 => ?_)
  have g_b1 : w.heap.size ≤ b1 := by have := E.size; omega
  have y_b1 := h1.lt
  replace E := E.trans e1
  have z1 := e1.size
  refine J_st (R_assign rfl) rfl (J_done ?_)
  refine S_seq ?_
  refine S_reg [true, true, false, true, true] rfl rfl ?_
  refine J_st (R_move rfl) rfl (J_st (R_loadS st47 rfl h1.at rfl) rfl ?_)
  refine J_call Try.call88 rfl (c_slicesIndex vxs xs x _ (hxs.ext E)) rfl (fun _ w2 e2 hv => ?_)
  subst hv
  replace E := E.trans e2; replace h1 := h1.ext e2
  have z2 := e2.size
  refine J_st (R_geq rfl rfl) rfl (J_st (R_assign rfl) rfl (J_done ?_))
  refine S_ret (E_done1 rfl rfl E ?_)
  exact has_idx

set_option maxRecDepth 20000 in
theorem c_HasCell (vxs : Value) (xs : List Cell) (x : Cell) (w : World) (hxs : RdS w vxs xs) : Ct Try.prog 39 [vxs, .agg (Enc.enc x).toArray] w (fun v _ => v = .bool (decide (x ∈ xs))) := by
  refine ct_of Try.func39 rfl Try.ntmps39 rfl ?_
  refine S_sub [(0, vxs), (1, .agg (Enc.enc x).toArray)] ⟨rfl, rfl, trivial⟩ ?_
  have E : Ext w w := Ext.refl w
  refine S_seq ?_
  refine S_reg [false, true] rfl rfl ?_
  refine J_box rfl rfl (fun b1 w1 e1 s1 h1 => ?_)
  have g_b1 : w.heap.size ≤ b1 := by have := E.size; omega
  have y_b1 := h1.lt
  replace E := E.trans e1
  have z1 := e1.size
  refine J_st (R_assign rfl) rfl (J_done ?_)
  refine S_seq ?_
  refine S_reg [true, true, false, true] rfl rfl ?_
  refine J_st (R_move rfl) rfl (J_st (R_loadS st47 rfl h1.at rfl) rfl ?_)
  refine J_call Try.call72 rfl (c_slicesContains vxs xs x _ (hxs.ext E)) rfl (fun _ w2 e2 hv => ?_)
  subst hv
  replace E := E.trans e2; replace h1 := h1.ext e2
  have z2 := e2.size
  refine J_st (R_assign rfl) rfl (J_done ?_)
  refine S_ret (E_done1 rfl rfl E ?_)
  rfl

set_option maxRecDepth 20000 in
theorem c_sameSlot (x : Cell) (y : Cell) (w : World)  : Ct Try.prog 71 [.agg (Enc.enc x).toArray, .agg (Enc.enc y).toArray] w (fun v _ => v = .bool (slot x y)) := by
  refine ct_of Try.func71 rfl Try.ntmps71 rfl ?_
  refine S_sub [(0, .agg (Enc.enc x).toArray), (1, .agg (Enc.enc y).toArray)] ⟨rfl, rfl, trivial⟩ ?_
  have E : Ext w w := Ext.refl w
  refine S_seq ?_
  refine S_reg [false, false, true] rfl rfl ?_
  refine J_box rfl rfl (fun b1 w1 e1 s1 h1 => ?_)
  have g_b1 : w.heap.size ≤ b1 := by have := E.size; omega
  have y_b1 := h1.lt
  replace E := E.trans e1
  have z1 := e1.size
  refine J_box rfl rfl (fun b2 w2 e2 s2 h2 => ?_)
  have g_b2 : w.heap.size ≤ b2 := by have := E.size; omega
  have y_b2 := h2.lt
  replace E := E.trans e2; replace h1 := h1.ext e2
  have z2 := e2.size
  refine J_st (R_assign rfl) rfl (J_done ?_)
  refine S_seq ?_
  refine S_reg [true, true, true, true, true, true, true, true, true, true, true, true, true, true, true, true, true, true, true, true] rfl rfl ?_
  refine J_st (R_fieldAddr0 fl47_0 rfl) rfl (J_st (R_load sc3 rfl (h1.one 0 rfl)) rfl (J_st (R_fieldAddr0 fl47_0 rfl) rfl (J_st (R_load sc3 rfl (h2.one 0 rfl)) rfl (J_st (R_eql rfl rfl) rfl (J_st (R_move rfl) rfl ?_)))))
  refine J_cut 13 [(0, .agg (Enc.enc x).toArray), (1, .agg (Enc.enc y).toArray), (2, .pointer (some ⟨b1, 0, none⟩)), (3, .pointer (some ⟨b2, 0, none⟩)), (4, .bool false), (23, .bool (((x.op == y.op) && (x.epoch == y.epoch)) && (x.key == y.key)))] (fun w' => w2 = w') ?_ ?_
  · refine J_if (gd := 10) rfl rfl (fun hg1 => ?_) (fun hg1 => ?_)
    · refine J_gd rfl rfl (R_fieldAddr0 fl47_1 rfl) rfl (J_gd rfl rfl (R_load sc3 rfl (h1.one 1 rfl)) rfl (J_gd rfl rfl (R_fieldAddr0 fl47_1 rfl) rfl (J_gd rfl rfl (R_load sc3 rfl (h2.one 1 rfl)) rfl (J_gd rfl rfl (R_eql rfl rfl) rfl (J_st (R_pickT rfl rfl) rfl (J_st (R_move rfl) rfl ?_))))))
      refine J_if (gd := 17) rfl rfl (fun hg2 => ?_) (fun hg2 => ?_)
      · refine J_gd rfl rfl (R_fieldAddr0 fl47_2 rfl) rfl (J_gd rfl rfl (R_load sc3 rfl (h1.one 2 rfl)) rfl (J_gd rfl rfl (R_fieldAddr0 fl47_2 rfl) rfl (J_gd rfl rfl (R_load sc3 rfl (h2.one 2 rfl)) rfl (J_gd rfl rfl (R_eql rfl rfl) rfl (J_st (R_pickT rfl rfl) rfl (J_cutEnd ⟨rfl, rfl, rfl, rfl, rfl, congrArg (fun b => some (Value.bool b)) (show (x.key == y.key) = (((x.op == y.op) && (x.epoch == y.epoch)) && (x.key == y.key)) by first | (rw [hg1, hg2] <;> rfl) | (simp [hg1, hg2]; done) | (simp only [nat_nlt] <;> simp)), trivial⟩ rfl))))))
      · refine J_gdno rfl rfl rfl rfl (J_gdno rfl rfl rfl rfl (J_gdno rfl rfl rfl rfl (J_gdno rfl rfl rfl rfl (J_gdno rfl rfl rfl rfl (J_st (R_pickF rfl rfl) rfl (J_cutEnd ⟨rfl, rfl, rfl, rfl, rfl, congrArg (fun b => some (Value.bool b)) (show false = (((x.op == y.op) && (x.epoch == y.epoch)) && (x.key == y.key)) by first | (rw [hg1, hg2] <;> rfl) | (simp [hg1, hg2]; done) | (simp only [nat_nlt] <;> simp)), trivial⟩ rfl))))))
    · refine J_gdno rfl rfl rfl rfl (J_gdno rfl rfl rfl rfl (J_gdno rfl rfl rfl rfl (J_gdno rfl rfl rfl rfl (J_gdno rfl rfl rfl rfl (J_st (R_pickF rfl rfl) rfl (J_st (R_move rfl) rfl (J_gdno rfl rfl rfl rfl (J_gdno rfl rfl rfl rfl (J_gdno rfl rfl rfl rfl (J_gdno rfl rfl rfl rfl (J_gdno rfl rfl rfl rfl (J_st (R_pickF rfl rfl) rfl (J_cutEnd ⟨rfl, rfl, rfl, rfl, rfl, congrArg (fun b => some (Value.bool b)) (show false = (((x.op == y.op) && (x.epoch == y.epoch)) && (x.key == y.key)) by first | (rw [hg1] <;> rfl) | (simp [hg1]; done) | (simp only [nat_nlt] <;> simp)), trivial⟩ rfl)))))))))))))
  rintro _ rfl
  refine J_st (R_assign rfl) rfl (J_done ?_)
  refine S_ret (E_done1 rfl rfl E ?_)
  rfl

set_option maxRecDepth 20000 in
theorem c_LeastOf (vxs : Value) (xs : List Cell) (op : Int) (epoch : Int) (key : Int) (w : World) (hxs : RdS w vxs xs) : Ct Try.prog 34 [vxs, .int .i64 op, .int .i64 epoch, .int .i64 key] w (fun v _ => v = .tuple [.int .i64 ((leastM xs op epoch key).1), .bool ((leastM xs op epoch key).2)].toArray) := by
  refine ct_of Try.func34 rfl Try.ntmps34 rfl ?_
  refine S_sub [(0, vxs), (1, .int .i64 op), (2, .int .i64 epoch), (3, .int .i64 key)] ⟨rfl, rfl, rfl, rfl, trivial⟩ ?_
  have E : Ext w w := Ext.refl w
  refine S_seq ?_
  refine S_reg [true, true] rfl rfl ?_
  refine J_st (R_assign rfl) rfl (J_st (R_assign rfl) rfl (J_done ?_))
  refine S_seq ?_
  refine S_reg [true, true] rfl rfl ?_
  refine J_st (R_assign rfl) rfl (J_st (R_assign rfl) rfl (J_done ?_))
  refine S_seq ?_
  refine S_seq ?_
  refine S_reg [true, true, true] rfl rfl ?_
  refine J_st (R_move rfl) rfl (J_st (R_len Try.underlying45 rfl (hxs.ext E).len) rfl (J_st (R_move rfl) rfl (J_done ?_)))
  refine S_block ?_
  refine S_loop (fun (xq : Nat × Int × Bool) => let ⟨k, n, s⟩ := xq; [(1, .int .i64 op), (2, .int .i64 epoch), (3, .int .i64 key), (8, .int .i64 0), (9, .bool false), (10, .int .i64 n), (11, .bool s), (14, vxs), (15, .int .i64 ((xs.length : Nat) : Int)), (16, .int .i64 ((k : Nat) : Int))]) (fun (xq : Nat × Int × Bool) w' => let ⟨k, n, s⟩ := xq; Ext w w' ∧ w.heap.size ≤ w'.heap.size ∧ k ≤ xs.length ∧ leastGo op epoch key (xs.drop k) n s = leastM xs op epoch key) (fun (xq : Nat × Int × Bool) => let ⟨k, n, s⟩ := xq; xs.length - k) (0, 0, false) ⟨rfl, rfl, rfl, rfl, rfl, rfl, rfl, rfl, rfl, rfl, trivial⟩ ⟨E, Nat.le_refl _, Nat.zero_le _, rfl⟩ ?_
  clear E
  rintro ⟨k, n, s⟩ w1 ⟨E, z1, hk, hI⟩
  refine S_sub [(1, .int .i64 op), (2, .int .i64 epoch), (3, .int .i64 key), (8, .int .i64 0), (9, .bool false), (10, .int .i64 n), (11, .bool s), (14, vxs), (15, .int .i64 ((xs.length : Nat) : Int)), (16, .int .i64 ((k : Nat) : Int))] ⟨rfl, rfl, rfl, rfl, rfl, rfl, rfl, rfl, rfl, rfl, trivial⟩ ?_
  refine S_seq ?_
  refine S_reg [true] rfl rfl ?_
  refine J_st (R_lss rfl rfl) rfl (J_done ?_)
  refine S_seq ?_
  refine S_cond rfl (fun hc1 => ?_) (fun hc1 => ?_)
  · have hc1n : k < xs.length := by first | (have h := of_decide_eq_true hc1; omega) | (have h := hc1; simp at h; omega)
    refine S_skip ?_
    refine S_seq ?_
    refine S_block ?_
    refine S_seq ?_
    refine S_reg [true, true, false, false] rfl rfl ?_
    have hi1 : k < xs.length := (by first | assumption | omega | (simp only [List.length_set]; first | assumption | omega) | (simp only [List.getElem_set_self, List.length_set]; first | assumption | omega) | (simp only [setW, setLk, List.length_set]; first | assumption | omega) | (simp; done))
    refine J_st (R_index (i := k) sl45 rfl rfl (hxs.ext E) hi1) rfl (J_st (R_loadS st47 rfl ((hxs.ext E).get hi1) rfl) rfl ?_)
    refine J_alloc st47 rfl (fun b1 w2 e1 s1 h1 => ?_)
    have g_b1 : w.heap.size ≤ b1 := by have := E.size; omega
    have y_b1 := h1.lt
    replace E := E.trans e1
    have z2 := e1.size
    refine J_storeS' (cs' := [.int .i64 ((xs[k]'hi1).op), .int .i64 ((xs[k]'hi1).epoch), .int .i64 ((xs[k]'hi1).key), .int .i64 ((xs[k]'hi1).val)]) st47 rfl rfl rfl rfl h1 (Nat.le_of_ble_eq_true rfl) rfl (fun w3 m1 h1' => ?_)
    replace h1 := h1'
    replace E := E.step m1 (fun g hg => by cases hg; omega)
    have z3 := m1.size
    refine J_done ?_
    refine S_seq ?_
    refine S_reg [true, true, true, true, true, false, true, true, true, true, true, true, true, true, true, true] rfl rfl ?_
    refine J_st (R_loadS st47 rfl h1.at rfl) rfl (J_st (R_move rfl) rfl (J_st (R_move rfl) rfl (J_st (R_move rfl) rfl (J_st (R_build (⟨op, epoch, key, 0⟩ : Cell) rfl (fun _ => by kernel_rfl)) rfl ?_))))
    refine J_call Try.call71 rfl (c_sameSlot (xs[k]'hi1) (⟨op, epoch, key, 0⟩ : Cell) _ ) rfl (fun _ w4 e2 hv => ?_)
    subst hv
    replace E := E.trans e2; replace h1 := h1.ext e2
    have z4 := e2.size
    refine J_st (R_move rfl) rfl ?_
    refine J_cut 9 [(1, .int .i64 op), (2, .int .i64 epoch), (3, .int .i64 key), (8, .int .i64 0), (9, .bool false), (10, .int .i64 n), (11, .bool s), (13, .pointer (some ⟨b1, 0, none⟩)), (14, vxs), (15, .int .i64 ((xs.length : Nat) : Int)), (16, .int .i64 ((k : Nat) : Int)), (17, .bool (decide (((k : Nat) : Int) < ((xs.length : Nat) : Int)))), (18, .pointer (some ⟨sblk vxs, soff vxs + k * 4, none⟩)), (19, .agg (Enc.enc (xs[k]'hi1)).toArray), (35, .bool ((slot (xs[k]'hi1) (⟨op, epoch, key, 0⟩ : Cell)) && ((!s) || (decide (((xs[k]'hi1).val) < n)))))] (fun w' => w4 = w') ?_ ?_
    · refine J_if (gd := 26) rfl rfl (fun hg1 => ?_) (fun hg1 => ?_)
      · refine J_gd rfl rfl (R_move rfl) rfl (J_gd rfl rfl (R_not rfl) rfl (J_gd rfl rfl (R_move rfl) rfl ?_))
        refine J_if (gd := 29) rfl rfl (fun hg2 => ?_) (fun hg2 => ?_)
        · refine J_gdno rfl rfl rfl rfl (J_gdno rfl rfl rfl rfl (J_gdno rfl rfl rfl rfl (J_gdno rfl rfl rfl rfl (J_gd rfl rfl (R_pickT rfl rfl) rfl (J_st (R_pickT rfl rfl) rfl (J_cutEnd ⟨rfl, rfl, rfl, rfl, rfl, rfl, rfl, rfl, rfl, rfl, rfl, rfl, rfl, rfl, congrArg (fun b => some (Value.bool b)) (show true = ((slot (xs[k]'hi1) (⟨op, epoch, key, 0⟩ : Cell)) && ((!s) || (decide (((xs[k]'hi1).val) < n)))) by first | (rw [hg1, hg2] <;> rfl) | (simp [hg1, hg2]; done) | (simp only [nat_nlt] <;> simp)), trivial⟩ rfl))))))
        · refine J_gd rfl rfl (R_fieldAddr0 fl47_3 rfl) rfl (J_gd rfl rfl (R_load sc3 rfl (h1.one 3 rfl)) rfl (J_gd rfl rfl (R_move rfl) rfl (J_gd rfl rfl (R_lss rfl rfl) rfl (J_gd rfl rfl (R_pickF rfl rfl) rfl (J_st (R_pickT rfl rfl) rfl (J_cutEnd ⟨rfl, rfl, rfl, rfl, rfl, rfl, rfl, rfl, rfl, rfl, rfl, rfl, rfl, rfl, congrArg (fun b => some (Value.bool b)) (show (decide (((xs[k]'hi1).val) < n)) = ((slot (xs[k]'hi1) (⟨op, epoch, key, 0⟩ : Cell)) && ((!s) || (decide (((xs[k]'hi1).val) < n)))) by first | (rw [hg1, hg2] <;> rfl) | (simp [hg1, hg2]; done) | (simp only [nat_nlt] <;> simp)), trivial⟩ rfl))))))
      · refine J_gdno rfl rfl rfl rfl (J_gdno rfl rfl rfl rfl (J_gdno rfl rfl rfl rfl (J_gdx rfl rfl rfl (J_gdx rfl rfl rfl (J_gdx rfl rfl rfl (J_gdx rfl rfl rfl (J_gdno rfl rfl rfl rfl (J_st (R_pickF rfl rfl) rfl (J_cutEnd ⟨rfl, rfl, rfl, rfl, rfl, rfl, rfl, rfl, rfl, rfl, rfl, rfl, rfl, rfl, congrArg (fun b => some (Value.bool b)) (show false = ((slot (xs[k]'hi1) (⟨op, epoch, key, 0⟩ : Cell)) && ((!s) || (decide (((xs[k]'hi1).val) < n)))) by first | (rw [hg1] <;> rfl) | (simp [hg1]; done) | (simp only [nat_nlt] <;> simp)), trivial⟩ rfl)))))))))
    rintro _ rfl
    refine J_done ?_
    refine S_cond rfl (fun hc2 => ?_) (fun hc2 => ?_)
    · refine S_reg [true, true, true, true] rfl rfl ?_
      refine J_st (R_fieldAddr0 fl47_3 rfl) rfl (J_st (R_load sc3 rfl (h1.one 3 rfl)) rfl (J_st (R_assign rfl) rfl (J_st (R_assign rfl) rfl (J_done ?_))))
      refine S_nil (E_inB ?_)
      refine S_reg [true, true] rfl rfl ?_
      refine J_st (R_add rfl rfl (add_one hc1n hxs.1)) rfl (J_st (R_move rfl) rfl (J_done ?_))
      refine S_nil (E_again (k + 1, (xs[k]'hi1).val, true) (by simp; omega) ⟨rfl, rfl, rfl, rfl, rfl, rfl, rfl, rfl, rfl, rfl, trivial⟩ ⟨E, (by omega), (by omega), leastGo_yes hI hc1n (by simpa [slot] using hc2)⟩)
    · refine S_skip ?_
      refine S_nil (E_inB ?_)
      refine S_reg [true, true] rfl rfl ?_
      refine J_st (R_add rfl rfl (add_one hc1n hxs.1)) rfl (J_st (R_move rfl) rfl (J_done ?_))
      refine S_nil (E_again (k + 1, n, s) (by simp; omega) ⟨rfl, rfl, rfl, rfl, rfl, rfl, rfl, rfl, rfl, rfl, trivial⟩ ⟨E, (by omega), (by omega), leastGo_no hI hc1n (by simpa [slot] using hc2)⟩)
  · have hc1n : ¬ k < xs.length := by first | (have h := of_decide_eq_false hc1; omega) | (have h := hc1; simp at h; omega)
    refine S_exit (E_lp_exit (E_inB_exit ?_))
    refine S_seq ?_
    refine S_reg [true, true, true, true] rfl rfl ?_
    refine J_st (R_move rfl) rfl (J_st (R_move rfl) rfl (J_st (R_assign rfl) rfl (J_st (R_assign rfl) rfl (J_done ?_))))
    refine S_ret (E_doneN (l := [.tmp 8, .tmp 9]) (vs := [.int .i64 n, .bool s]) rfl ⟨.tmp rfl, .tmp rfl, trivial⟩ rfl E ?_)
    simp only [← hI, List.drop_of_length_le (show xs.length ≤ k by omega), leastGo]

set_option maxRecDepth 20000 in
theorem s_LeastOf (vxs : Value) (xs : List Cell) (op : Int) (epoch : Int) (key : Int) (w : World) (hxs : RdS w vxs xs) : Ct Try.prog 35 [vxs, .int .i64 op, .int .i64 epoch, .int .i64 key] w (fun v _ => v = .tuple [.int .i64 ((leastM xs op epoch key).1), .bool ((leastM xs op epoch key).2)].toArray) := by
  refine ct_of Try.func35 rfl Try.ntmps35 rfl ?_
  refine S_sub [(0, vxs), (1, .int .i64 op), (2, .int .i64 epoch), (3, .int .i64 key)] ⟨rfl, rfl, rfl, rfl, trivial⟩ ?_
  have E : Ext w w := Ext.refl w
  refine S_seq ?_
  refine S_reg [true, true] rfl rfl ?_
  refine J_st (R_assign rfl) rfl (J_st (R_assign rfl) rfl (J_done ?_))
  refine S_seq ?_
  refine S_reg [true] rfl rfl ?_
  refine J_st (R_assign rfl) rfl (J_done ?_)
  refine S_seq ?_
  refine S_reg [true] rfl rfl ?_
  refine J_st (R_assign rfl) rfl (J_done ?_)
  refine S_seq ?_
  refine S_seq ?_
  refine S_reg [true] rfl rfl ?_
  refine J_st (R_assign rfl) rfl (J_done ?_)
  refine S_block ?_
  refine S_loop (fun (xq : Nat × Int × Bool) => let ⟨k, n, s⟩ := xq; [(0, vxs), (1, .int .i64 op), (2, .int .i64 epoch), (3, .int .i64 key), (8, .int .i64 0), (9, .bool false), (10, .int .i64 n), (11, .bool s), (12, .int .i64 ((k : Nat) : Int))]) (fun (xq : Nat × Int × Bool) w' => let ⟨k, n, s⟩ := xq; Ext w w' ∧ w.heap.size ≤ w'.heap.size ∧ k ≤ xs.length ∧ leastGo op epoch key (xs.drop k) n s = leastM xs op epoch key) (fun (xq : Nat × Int × Bool) => let ⟨k, n, s⟩ := xq; xs.length - k) (0, 0, false) ⟨rfl, rfl, rfl, rfl, rfl, rfl, rfl, rfl, rfl, trivial⟩ ⟨E, Nat.le_refl _, Nat.zero_le _, rfl⟩ ?_
  clear E
  rintro ⟨k, n, s⟩ w1 ⟨E, z1, hk, hI⟩
  refine S_sub [(0, vxs), (1, .int .i64 op), (2, .int .i64 epoch), (3, .int .i64 key), (8, .int .i64 0), (9, .bool false), (10, .int .i64 n), (11, .bool s), (12, .int .i64 ((k : Nat) : Int))] ⟨rfl, rfl, rfl, rfl, rfl, rfl, rfl, rfl, rfl, trivial⟩ ?_
  refine S_seq ?_
  refine S_seq ?_
  refine S_reg [true, true, true, true] rfl rfl ?_
  refine J_st (R_move rfl) rfl (J_st (R_move rfl) rfl (J_st (R_len Try.underlying45 rfl (hxs.ext E).len) rfl (J_st (R_lss rfl rfl) rfl (J_done ?_))))
  refine S_cond rfl (fun hc1 => ?_) (fun hc1 => ?_)
  · have hc1n : k < xs.length := by first | (have h := of_decide_eq_true hc1; omega) | (have h := hc1; simp at h; omega)
    refine S_skip ?_
    refine S_seq ?_
    refine S_block ?_
    refine S_seq ?_
    refine S_reg [true, true, true, true, false, false] rfl rfl ?_
    refine J_st (R_move rfl) rfl (J_st (R_move rfl) rfl ?_)
    have hi1 : k < xs.length := (by first | assumption | omega | (simp only [List.length_set]; first | assumption | omega) | (simp only [List.getElem_set_self, List.length_set]; first | assumption | omega) | (simp only [setW, setLk, List.length_set]; first | assumption | omega) | (simp; done))
    refine J_st (R_index (i := k) sl45 rfl rfl (hxs.ext E) hi1) rfl (J_st (R_loadS st47 rfl ((hxs.ext E).get hi1) rfl) rfl ?_)
    refine J_alloc st47 rfl (fun b1 w2 e1 s1 h1 => ?_)
    have g_b1 : w.heap.size ≤ b1 := by have := E.size; omega
    have y_b1 := h1.lt
    replace E := E.trans e1
    have z2 := e1.size
    refine J_storeS' (cs' := [.int .i64 ((xs[k]'hi1).op), .int .i64 ((xs[k]'hi1).epoch), .int .i64 ((xs[k]'hi1).key), .int .i64 ((xs[k]'hi1).val)]) st47 rfl rfl rfl rfl h1 (Nat.le_of_ble_eq_true rfl) rfl (fun w3 m1 h1' => ?_)
    replace h1 := h1'
    replace E := E.step m1 (fun g hg => by cases hg; omega)
    have z3 := m1.size
    refine J_done ?_
    refine S_seq ?_
    refine S_reg [true, true, true, true, true, true, true, true, true, true, true, true, true, true, true, true, true, true, true, true, true, true, true, true, true, true] rfl rfl ?_
    refine J_st (R_fieldAddr0 fl47_0 rfl) rfl (J_st (R_load sc3 rfl (h1.one 0 rfl)) rfl (J_st (R_move rfl) rfl (J_st (R_eql rfl rfl) rfl (J_st (R_move rfl) rfl ?_))))
    refine J_cut 21 [(0, vxs), (1, .int .i64 op), (2, .int .i64 epoch), (3, .int .i64 key), (8, .int .i64 0), (9, .bool false), (10, .int .i64 n), (11, .bool s), (12, .int .i64 ((k : Nat) : Int)), (13, .pointer (some ⟨b1, 0, none⟩)), (14, .int .i64 ((k : Nat) : Int)), (15, vxs), (16, .int .i64 ((xs.length : Nat) : Int)), (17, .bool (decide (((k : Nat) : Int) < ((xs.length : Nat) : Int)))), (20, vxs), (21, .int .i64 ((k : Nat) : Int)), (22, .pointer (some ⟨sblk vxs, soff vxs + k * 4, none⟩)), (23, .agg (Enc.enc (xs[k]'hi1)).toArray), (49, .bool ((((((xs[k]'hi1).op) == op) && (((xs[k]'hi1).epoch) == epoch)) && (((xs[k]'hi1).key) == key)) && ((!s) || (decide (((xs[k]'hi1).val) < n)))))] (fun w' => w3 = w') ?_ ?_
    · refine J_if (gd := 28) rfl rfl (fun hg1 => ?_) (fun hg1 => ?_)
      · refine J_gd rfl rfl (R_fieldAddr0 fl47_1 rfl) rfl (J_gd rfl rfl (R_load sc3 rfl (h1.one 1 rfl)) rfl (J_gd rfl rfl (R_move rfl) rfl (J_gd rfl rfl (R_eql rfl rfl) rfl (J_st (R_pickT rfl rfl) rfl (J_st (R_move rfl) rfl ?_)))))
        refine J_if (gd := 34) rfl rfl (fun hg2 => ?_) (fun hg2 => ?_)
        · refine J_gd rfl rfl (R_fieldAddr0 fl47_2 rfl) rfl (J_gd rfl rfl (R_load sc3 rfl (h1.one 2 rfl)) rfl (J_gd rfl rfl (R_move rfl) rfl (J_gd rfl rfl (R_eql rfl rfl) rfl (J_st (R_pickT rfl rfl) rfl (J_st (R_move rfl) rfl ?_)))))
          refine J_if (gd := 40) rfl rfl (fun hg3 => ?_) (fun hg3 => ?_)
          · refine J_gd rfl rfl (R_move rfl) rfl (J_gd rfl rfl (R_not rfl) rfl (J_gd rfl rfl (R_move rfl) rfl ?_))
            refine J_if (gd := 43) rfl rfl (fun hg4 => ?_) (fun hg4 => ?_)
            · refine J_gdno rfl rfl rfl rfl (J_gdno rfl rfl rfl rfl (J_gdno rfl rfl rfl rfl (J_gdno rfl rfl rfl rfl (J_gd rfl rfl (R_pickT rfl rfl) rfl (J_st (R_pickT rfl rfl) rfl (J_cutEnd ⟨rfl, rfl, rfl, rfl, rfl, rfl, rfl, rfl, rfl, rfl, rfl, rfl, rfl, rfl, rfl, rfl, rfl, rfl, congrArg (fun b => some (Value.bool b)) (show true = ((((((xs[k]'hi1).op) == op) && (((xs[k]'hi1).epoch) == epoch)) && (((xs[k]'hi1).key) == key)) && ((!s) || (decide (((xs[k]'hi1).val) < n)))) by first | (rw [hg1, hg2, hg3, hg4] <;> rfl) | (simp [hg1, hg2, hg3, hg4]; done) | (simp only [nat_nlt] <;> simp)), trivial⟩ rfl))))))
            · refine J_gd rfl rfl (R_fieldAddr0 fl47_3 rfl) rfl (J_gd rfl rfl (R_load sc3 rfl (h1.one 3 rfl)) rfl (J_gd rfl rfl (R_move rfl) rfl (J_gd rfl rfl (R_lss rfl rfl) rfl (J_gd rfl rfl (R_pickF rfl rfl) rfl (J_st (R_pickT rfl rfl) rfl (J_cutEnd ⟨rfl, rfl, rfl, rfl, rfl, rfl, rfl, rfl, rfl, rfl, rfl, rfl, rfl, rfl, rfl, rfl, rfl, rfl, congrArg (fun b => some (Value.bool b)) (show (decide (((xs[k]'hi1).val) < n)) = ((((((xs[k]'hi1).op) == op) && (((xs[k]'hi1).epoch) == epoch)) && (((xs[k]'hi1).key) == key)) && ((!s) || (decide (((xs[k]'hi1).val) < n)))) by first | (rw [hg1, hg2, hg3, hg4] <;> rfl) | (simp [hg1, hg2, hg3, hg4]; done) | (simp only [nat_nlt] <;> simp)), trivial⟩ rfl))))))
          · refine J_gdno rfl rfl rfl rfl (J_gdno rfl rfl rfl rfl (J_gdno rfl rfl rfl rfl (J_gdx rfl rfl rfl (J_gdx rfl rfl rfl (J_gdx rfl rfl rfl (J_gdx rfl rfl rfl (J_gdno rfl rfl rfl rfl (J_st (R_pickF rfl rfl) rfl (J_cutEnd ⟨rfl, rfl, rfl, rfl, rfl, rfl, rfl, rfl, rfl, rfl, rfl, rfl, rfl, rfl, rfl, rfl, rfl, rfl, congrArg (fun b => some (Value.bool b)) (show false = ((((((xs[k]'hi1).op) == op) && (((xs[k]'hi1).epoch) == epoch)) && (((xs[k]'hi1).key) == key)) && ((!s) || (decide (((xs[k]'hi1).val) < n)))) by first | (rw [hg1, hg2, hg3] <;> rfl) | (simp [hg1, hg2, hg3]; done) | (simp only [nat_nlt] <;> simp)), trivial⟩ rfl)))))))))
        · refine J_gdno rfl rfl rfl rfl (J_gdno rfl rfl rfl rfl (J_gdno rfl rfl rfl rfl (J_gdno rfl rfl rfl rfl (J_st (R_pickF rfl rfl) rfl (J_st (R_move rfl) rfl (J_gdno rfl rfl rfl rfl (J_gdno rfl rfl rfl rfl (J_gdno rfl rfl rfl rfl (J_gdx rfl rfl rfl (J_gdx rfl rfl rfl (J_gdx rfl rfl rfl (J_gdx rfl rfl rfl (J_gdno rfl rfl rfl rfl (J_st (R_pickF rfl rfl) rfl (J_cutEnd ⟨rfl, rfl, rfl, rfl, rfl, rfl, rfl, rfl, rfl, rfl, rfl, rfl, rfl, rfl, rfl, rfl, rfl, rfl, congrArg (fun b => some (Value.bool b)) (show false = ((((((xs[k]'hi1).op) == op) && (((xs[k]'hi1).epoch) == epoch)) && (((xs[k]'hi1).key) == key)) && ((!s) || (decide (((xs[k]'hi1).val) < n)))) by first | (rw [hg1, hg2] <;> rfl) | (simp [hg1, hg2]; done) | (simp only [nat_nlt] <;> simp)), trivial⟩ rfl)))))))))))))))
      · refine J_gdno rfl rfl rfl rfl (J_gdno rfl rfl rfl rfl (J_gdno rfl rfl rfl rfl (J_gdno rfl rfl rfl rfl (J_st (R_pickF rfl rfl) rfl (J_st (R_move rfl) rfl (J_gdno rfl rfl rfl rfl (J_gdno rfl rfl rfl rfl (J_gdno rfl rfl rfl rfl (J_gdno rfl rfl rfl rfl (J_st (R_pickF rfl rfl) rfl (J_st (R_move rfl) rfl (J_gdno rfl rfl rfl rfl (J_gdno rfl rfl rfl rfl (J_gdno rfl rfl rfl rfl (J_gdx rfl rfl rfl (J_gdx rfl rfl rfl (J_gdx rfl rfl rfl (J_gdx rfl rfl rfl (J_gdno rfl rfl rfl rfl (J_st (R_pickF rfl rfl) rfl (J_cutEnd ⟨rfl, rfl, rfl, rfl, rfl, rfl, rfl, rfl, rfl, rfl, rfl, rfl, rfl, rfl, rfl, rfl, rfl, rfl, congrArg (fun b => some (Value.bool b)) (show false = ((((((xs[k]'hi1).op) == op) && (((xs[k]'hi1).epoch) == epoch)) && (((xs[k]'hi1).key) == key)) && ((!s) || (decide (((xs[k]'hi1).val) < n)))) by first | (rw [hg1] <;> rfl) | (simp [hg1]; done) | (simp only [nat_nlt] <;> simp)), trivial⟩ rfl)))))))))))))))))))))
    rintro _ rfl
    refine J_done ?_
    refine S_cond rfl (fun hc2 => ?_) (fun hc2 => ?_)
    · refine S_seq ?_
      refine S_reg [true, true, true] rfl rfl ?_
      refine J_st (R_fieldAddr0 fl47_3 rfl) rfl (J_st (R_load sc3 rfl (h1.one 3 rfl)) rfl (J_st (R_assign rfl) rfl (J_done ?_)))
      refine S_reg [true] rfl rfl ?_
      refine J_st (R_assign rfl) rfl (J_done ?_)
      refine S_nil (E_inB ?_)
      refine S_reg [true, true, true] rfl rfl ?_
      refine J_st (R_move rfl) rfl (J_st (R_add rfl rfl (add_one hc1n hxs.1)) rfl (J_st (R_assign rfl) rfl (J_done ?_)))
      refine S_nil (E_again (k + 1, (xs[k]'hi1).val, true) (by simp; omega) ⟨rfl, rfl, rfl, rfl, rfl, rfl, rfl, rfl, rfl, trivial⟩ ⟨E, (by omega), (by omega), leastGo_yes hI hc1n (by simpa [slot] using hc2)⟩)
    · refine S_skip ?_
      refine S_nil (E_inB ?_)
      refine S_reg [true, true, true] rfl rfl ?_
      refine J_st (R_move rfl) rfl (J_st (R_add rfl rfl (add_one hc1n hxs.1)) rfl (J_st (R_assign rfl) rfl (J_done ?_)))
      refine S_nil (E_again (k + 1, n, s) (by simp; omega) ⟨rfl, rfl, rfl, rfl, rfl, rfl, rfl, rfl, rfl, trivial⟩ ⟨E, (by omega), (by omega), leastGo_no hI hc1n (by simpa [slot] using hc2)⟩)
  · have hc1n : ¬ k < xs.length := by first | (have h := of_decide_eq_false hc1; omega) | (have h := hc1; simp at h; omega)
    refine S_exit (E_lp_exit (E_inB_exit ?_))
    refine S_seq ?_
    refine S_reg [true, true, true, true] rfl rfl ?_
    refine J_st (R_move rfl) rfl (J_st (R_move rfl) rfl (J_st (R_assign rfl) rfl (J_st (R_assign rfl) rfl (J_done ?_))))
    refine S_ret (E_doneN (l := [.tmp 8, .tmp 9]) (vs := [.int .i64 n, .bool s]) rfl ⟨.tmp rfl, .tmp rfl, trivial⟩ rfl E ?_)
    simp only [← hI, List.drop_of_length_le (show xs.length ≤ k by omega), leastGo]

set_option maxRecDepth 20000 in
theorem s_CellsOk (vxs : Value) (xs : List Cell) (w : World) (hxs : RdS w vxs xs) : Ct Try.prog 30 [vxs] w (fun v _ => v = .bool ((adj xs).all cellLt)) := by
  refine ct_of Try.func30 rfl Try.ntmps30 rfl ?_
  refine S_sub [(0, vxs)] ⟨rfl, trivial⟩ ?_
  have E : Ext w w := Ext.refl w
  refine S_seq ?_
  refine S_reg [true] rfl rfl ?_
  refine J_st (R_assign rfl) rfl (J_done ?_)
  refine S_seq ?_
  refine S_seq ?_
  refine S_reg [true] rfl rfl ?_
  refine J_st (R_assign rfl) rfl (J_done ?_)
  refine S_block ?_
  refine S_loop (fun (j : Nat) => [(0, vxs), (2, .bool false), (3, .int .i64 ((j + 1 : Nat) : Int))]) (fun (j : Nat) w' => Ext w w' ∧ w.heap.size ≤ w'.heap.size ∧ ((adj xs).take j).all cellLt = true) (fun (j : Nat) => xs.length - j) 0 ⟨rfl, rfl, rfl, trivial⟩ ⟨E, Nat.le_refl _, rfl⟩ ?_
  clear E
  rintro j w1 ⟨E, z1, hI⟩
  have hlm := hxs.1
  unfold maxLen at hlm
  refine S_seq ?_
  refine S_seq ?_
  refine S_reg [true, true, true, true] rfl rfl ?_
  refine J_st (R_move rfl) rfl (J_st (R_move rfl) rfl (J_st (R_len Try.underlying45 rfl (hxs.ext E).len) rfl (J_st (R_lss rfl rfl) rfl (J_done ?_))))
  refine S_cond rfl (fun hc1 => ?_) (fun hc1 => ?_)
  · have hc1n : j + 1 < xs.length := by first | (have h := of_decide_eq_true hc1; omega) | (have h := hc1; simp at h; omega)
    refine S_skip ?_
    refine S_seq ?_
    refine S_block ?_
    refine S_seq ?_
    refine S_regD mixed [(0, true), (1, true), (2, true), (3, true), (4, true), (5, true), (6, true), (7, true), (8, true), (9, false), (10, true)] (by decide +kernel) rfl (fun w2 e1 => ?_)
    replace E := E.trans e1
    have z2 := e1.size
    refine J_st (R_move rfl) rfl (J_st (R_move rfl) rfl (J_st (R_sub rfl rfl (sub_one (m := j) (by unfold maxLen; omega))) rfl ?_))
    have hi1 : j < xs.length := (by first | assumption | omega | (simp only [List.length_set]; first | assumption | omega) | (simp only [List.getElem_set_self, List.length_set]; first | assumption | omega) | (simp only [setW, setLk, List.length_set]; first | assumption | omega) | (simp; done))
    refine J_st (R_index (i := j) sl45 rfl rfl (hxs.ext E) hi1) rfl (J_st (R_loadS st47 rfl ((hxs.ext E).get hi1) rfl) rfl (J_st (R_move rfl) rfl (J_st (R_move rfl) rfl ?_)))
    have hi2 : j + 1 < xs.length := (by first | assumption | omega | (simp only [List.length_set]; first | assumption | omega) | (simp only [List.getElem_set_self, List.length_set]; first | assumption | omega) | (simp only [setW, setLk, List.length_set]; first | assumption | omega) | (simp; done))
    refine J_st (R_index (i := j + 1) sl45 rfl rfl (hxs.ext E) hi2) rfl (J_st (R_loadS st47 rfl ((hxs.ext E).get hi2) rfl) rfl ?_)
    refine J_call Try.call43 rfl (s_CellOrder (xs[j]'hi1) (xs[j + 1]'hi2) _ ) rfl (fun _ w3 e2 hv => ?_)
    subst hv
    replace E := E.trans e2
    have z3 := e2.size
    refine J_st (R_geq rfl rfl) rfl (J_done ?_)
    refine S_cond rfl (fun hc2 => ?_) (fun hc2 => ?_)
    · refine S_seq ?_
      refine S_reg [true] rfl rfl ?_
      refine J_st (R_assign rfl) rfl (J_done ?_)
      refine S_ret (E_inB_ret (E_lp_ret (E_inB_ret (E_done1 rfl rfl E ?_))))
      exact adj_no hc1n (by simpa [cellLt] using hc2)
    · refine S_skip ?_
      refine S_nil (E_inB ?_)
      refine S_reg [true, true, true] rfl rfl ?_
      refine J_st (R_move rfl) rfl (J_st (R_add rfl rfl (add_one hc1n hxs.1)) rfl (J_st (R_assign rfl) rfl (J_done ?_)))
      refine S_nil (E_again (j + 1) (by omega) ⟨rfl, rfl, rfl, trivial⟩ ⟨E, (by omega), adj_step hI (by assumption) (by simpa [cellLt] using hc2)⟩)
  · have hc1n : ¬ j + 1 < xs.length := by first | (have h := of_decide_eq_false hc1; omega) | (have h := hc1; simp at h; omega)
    refine S_exit (E_lp_exit (E_inB_exit ?_))
    refine S_seq ?_
    refine S_reg [true] rfl rfl ?_
    refine J_st (R_assign rfl) rfl (J_done ?_)
    refine S_ret (E_done1 rfl rfl E ?_)
    exact adj_yes hI (by omega)

set_option maxRecDepth 20000 in
theorem c_CellsOk (vxs : Value) (xs : List Cell) (w : World) (hxs : RdS w vxs xs) : Ct Try.prog 29 [vxs] w (fun v _ => v = .bool ((adj xs).all cellLt)) := by
  refine ct_of Try.func29 rfl Try.ntmps29 rfl ?_
  refine S_sub [(0, vxs)] ⟨rfl, trivial⟩ ?_
  have E : Ext w w := Ext.refl w
  refine S_seq ?_
  refine S_reg [true] rfl rfl ?_
  refine J_st (R_assign rfl) rfl (J_done ?_)
  refine S_seq ?_
  refine S_seq ?_
  refine S_reg [true] rfl rfl ?_
  refine J_st (R_assign rfl) rfl (J_done ?_)
  refine S_block ?_
  refine S_loop (fun (j : Nat) => [(0, vxs), (2, .bool false), (3, .int .i64 ((j + 1 : Nat) : Int))]) (fun (j : Nat) w' => Ext w w' ∧ w.heap.size ≤ w'.heap.size ∧ ((adj xs).take j).all cellLt = true) (fun (j : Nat) => xs.length - j) 0 ⟨rfl, rfl, rfl, trivial⟩ ⟨E, Nat.le_refl _, rfl⟩ ?_
  clear E
  rintro j w1 ⟨E, z1, hI⟩
  have hlm := hxs.1
  unfold maxLen at hlm
  refine S_seq ?_
  refine S_seq ?_
  refine S_reg [true, true, true, true] rfl rfl ?_
  refine J_st (R_move rfl) rfl (J_st (R_move rfl) rfl (J_st (R_len Try.underlying45 rfl (hxs.ext E).len) rfl (J_st (R_lss rfl rfl) rfl (J_done ?_))))
  refine S_cond rfl (fun hc1 => ?_) (fun hc1 => ?_)
  · have hc1n : j + 1 < xs.length := by first | (have h := of_decide_eq_true hc1; omega) | (have h := hc1; simp at h; omega)
    refine S_skip ?_
    refine S_seq ?_
    refine S_block ?_
    refine S_seq ?_
    refine S_regD mixed [(0, true), (1, true), (2, true), (3, true), (4, true), (5, true), (6, true), (7, true), (8, true), (9, false), (10, true)] (by decide +kernel) rfl (fun w2 e1 => ?_)
    replace E := E.trans e1
    have z2 := e1.size
    refine J_st (R_move rfl) rfl (J_st (R_move rfl) rfl (J_st (R_sub rfl rfl (sub_one (m := j) (by unfold maxLen; omega))) rfl ?_))
    have hi1 : j < xs.length := (by first | assumption | omega | (simp only [List.length_set]; first | assumption | omega) | (simp only [List.getElem_set_self, List.length_set]; first | assumption | omega) | (simp only [setW, setLk, List.length_set]; first | assumption | omega) | (simp; done))
    refine J_st (R_index (i := j) sl45 rfl rfl (hxs.ext E) hi1) rfl (J_st (R_loadS st47 rfl ((hxs.ext E).get hi1) rfl) rfl (J_st (R_move rfl) rfl (J_st (R_move rfl) rfl ?_)))
    have hi2 : j + 1 < xs.length := (by first | assumption | omega | (simp only [List.length_set]; first | assumption | omega) | (simp only [List.getElem_set_self, List.length_set]; first | assumption | omega) | (simp only [setW, setLk, List.length_set]; first | assumption | omega) | (simp; done))
    refine J_st (R_index (i := j + 1) sl45 rfl rfl (hxs.ext E) hi2) rfl (J_st (R_loadS st47 rfl ((hxs.ext E).get hi2) rfl) rfl ?_)
    refine J_call Try.call42 rfl (c_CellOrder (xs[j]'hi1) (xs[j + 1]'hi2) _ ) rfl (fun _ w3 e2 hv => ?_)
    subst hv
    replace E := E.trans e2
    have z3 := e2.size
    refine J_st (R_geq rfl rfl) rfl (J_done ?_)
    refine S_cond rfl (fun hc2 => ?_) (fun hc2 => ?_)
    · refine S_seq ?_
      refine S_reg [true] rfl rfl ?_
      refine J_st (R_assign rfl) rfl (J_done ?_)
      refine S_ret (E_inB_ret (E_lp_ret (E_inB_ret (E_done1 rfl rfl E ?_))))
      exact adj_no hc1n (by simpa [cellLt] using hc2)
    · refine S_skip ?_
      refine S_nil (E_inB ?_)
      refine S_reg [true, true, true] rfl rfl ?_
      refine J_st (R_move rfl) rfl (J_st (R_add rfl rfl (add_one hc1n hxs.1)) rfl (J_st (R_assign rfl) rfl (J_done ?_)))
      refine S_nil (E_again (j + 1) (by omega) ⟨rfl, rfl, rfl, trivial⟩ ⟨E, (by omega), adj_step hI (by assumption) (by simpa [cellLt] using hc2)⟩)
  · have hc1n : ¬ j + 1 < xs.length := by first | (have h := of_decide_eq_false hc1; omega) | (have h := hc1; simp at h; omega)
    refine S_exit (E_lp_exit (E_inB_exit ?_))
    refine S_seq ?_
    refine S_reg [true] rfl rfl ?_
    refine J_st (R_assign rfl) rfl (J_done ?_)
    refine S_ret (E_done1 rfl rfl E ?_)
    exact adj_yes hI (by omega)

set_option maxRecDepth 20000 in
theorem s_CellsOf (vxs : Value) (xs : List Cell) (op : Int) (epoch : Int) (w : World) (hxs : RdS w vxs xs) (hb : xs.length ≤ 1048576) : Ct Try.prog 41 [vxs, .int .i64 op, .int .i64 epoch] w (fun v w' => Own w' w.heap.size w'.heap.size 4 v (List.flatMap (Enc.enc (α := Cell)) (xs.filter (isOf op epoch)))) := by
  refine ct_of Try.func41 rfl Try.ntmps41 rfl ?_
  refine S_sub [(0, vxs), (1, .int .i64 op), (2, .int .i64 epoch)] ⟨rfl, rfl, rfl, trivial⟩ ?_
  have E : Ext w w := Ext.refl w
  refine S_seq ?_
  refine S_reg [true] rfl rfl ?_
  refine J_st (R_assign rfl) rfl (J_done ?_)
  refine S_seq ?_
  refine S_reg [false, true] rfl rfl ?_
  refine J_buildSlice (vs := []) (css := []) sl45 rfl rfl trivial rfl rfl (fun b1 w1 e1 s1 h1 => ?_)
  replace h1 : Blk w1 b1 [] := h1
  have g_b1 : w.heap.size ≤ b1 := by have := E.size; omega
  have y_b1 := h1.lt
  replace E := E.trans e1
  have z1 := e1.size
  refine J_st (R_assign rfl) rfl (J_done ?_)
  refine S_seq ?_
  refine S_seq ?_
  refine S_reg [true] rfl rfl ?_
  refine J_st (R_assign rfl) rfl (J_done ?_)
  refine S_block ?_
  refine S_loop (fun (xq : Nat × Value) => let ⟨k, vo⟩ := xq; [(0, vxs), (1, .int .i64 op), (2, .int .i64 epoch), (6, .slice none 0 0), (7, vo), (8, .int .i64 ((k : Nat) : Int))]) (fun (xq : Nat × Value) w' => let ⟨k, vo⟩ := xq; Ext w w' ∧ w1.heap.size ≤ w'.heap.size ∧ k ≤ xs.length ∧ Own w' b1 w'.heap.size 4 vo (List.flatMap (Enc.enc (α := Cell)) ((xs.take k).filter (isOf op epoch)))) (fun (xq : Nat × Value) => let ⟨k, vo⟩ := xq; xs.length - k) (0, .slice (some ⟨b1, 0, none⟩) 0 0) ⟨rfl, rfl, rfl, rfl, rfl, rfl, trivial⟩ ⟨E, Nat.le_refl _, Nat.zero_le _, Own.fin (Own.ofBlk (lo := b1) (hi := b1 + 1) (sz := 4) h1 (Nat.le_refl _) (Nat.lt_succ_self _) (by simp) (by simp [maxLen])) (by have := E.size; omega) (by omega) rfl⟩ ?_
  clear E h1
  rintro ⟨k, vo⟩ w2 ⟨E, z2, hk, ho⟩
  refine S_sub [(0, vxs), (1, .int .i64 op), (2, .int .i64 epoch), (6, .slice none 0 0), (7, vo), (8, .int .i64 ((k : Nat) : Int))] ⟨rfl, rfl, rfl, rfl, rfl, rfl, trivial⟩ ?_
  refine S_seq ?_
  refine S_seq ?_
  refine S_reg [true, true, true, true] rfl rfl ?_
  refine J_st (R_move rfl) rfl (J_st (R_move rfl) rfl (J_st (R_len Try.underlying45 rfl (hxs.ext E).len) rfl (J_st (R_lss rfl rfl) rfl (J_done ?_))))
  refine S_cond rfl (fun hc1 => ?_) (fun hc1 => ?_)
  · have hc1n : k < xs.length := by first | (have h := of_decide_eq_true hc1; omega) | (have h := hc1; simp at h; omega)
    refine S_skip ?_
    refine S_seq ?_
    refine S_block ?_
    refine S_seq ?_
    refine S_reg [true, true, true, true, true, true, true, true, true, true, true, true, true, true, true, true] rfl rfl ?_
    refine J_st (R_move rfl) rfl (J_st (R_move rfl) rfl ?_)
    have hi1 : k < xs.length := (by first | assumption | omega | (simp only [List.length_set]; first | assumption | omega) | (simp only [List.getElem_set_self, List.length_set]; first | assumption | omega) | (simp only [setW, setLk, List.length_set]; first | assumption | omega) | (simp; done))
    refine J_st (R_index (i := k) sl45 rfl rfl (hxs.ext E) hi1) rfl (J_st (R_fieldAddr fl47_0 rfl) rfl (J_st (R_load sc3 rfl (((hxs.ext E).get hi1).one 0 rfl)) rfl (J_st (R_move rfl) rfl (J_st (R_eql rfl rfl) rfl (J_st (R_move rfl) rfl ?_)))))
    refine J_cut 8 [(0, vxs), (1, .int .i64 op), (2, .int .i64 epoch), (6, .slice none 0 0), (7, vo), (8, .int .i64 ((k : Nat) : Int)), (10, .int .i64 ((k : Nat) : Int)), (11, vxs), (12, .int .i64 ((xs.length : Nat) : Int)), (13, .bool (decide (((k : Nat) : Int) < ((xs.length : Nat) : Int)))), (31, .bool ((((xs[k]'hi1).op) == op) && (((xs[k]'hi1).epoch) == epoch)))] (fun w' => w2 = w') ?_ ?_
    · refine J_if (gd := 23) rfl rfl (fun hg1 => ?_) (fun hg1 => ?_)
      · refine J_gd rfl rfl (R_move rfl) rfl (J_gd rfl rfl (R_move rfl) rfl (J_gd rfl rfl (R_index (i := k) sl45 rfl rfl (hxs.ext E) hi1) rfl (J_gd rfl rfl (R_fieldAddr fl47_1 rfl) rfl (J_gd rfl rfl (R_load sc3 rfl (((hxs.ext E).get hi1).one 1 rfl)) rfl (J_gd rfl rfl (R_move rfl) rfl (J_gd rfl rfl (R_eql rfl rfl) rfl (J_st (R_pickT rfl rfl) rfl (J_cutEnd ⟨rfl, rfl, rfl, rfl, rfl, rfl, rfl, rfl, rfl, rfl, congrArg (fun b => some (Value.bool b)) (show (((xs[k]'hi1).epoch) == epoch) = ((((xs[k]'hi1).op) == op) && (((xs[k]'hi1).epoch) == epoch)) by first | (rw [hg1] <;> rfl) | (simp [hg1]; done) | (simp only [nat_nlt] <;> simp)), trivial⟩ rfl))))))))
      · refine J_gdno rfl rfl rfl rfl (J_gdno rfl rfl rfl rfl (J_gdno rfl rfl rfl rfl (J_gdno rfl rfl rfl rfl (J_gdno rfl rfl rfl rfl (J_gdno rfl rfl rfl rfl (J_gdno rfl rfl rfl rfl (J_st (R_pickF rfl rfl) rfl (J_cutEnd ⟨rfl, rfl, rfl, rfl, rfl, rfl, rfl, rfl, rfl, rfl, congrArg (fun b => some (Value.bool b)) (show false = ((((xs[k]'hi1).op) == op) && (((xs[k]'hi1).epoch) == epoch)) by first | (rw [hg1] <;> rfl) | (simp [hg1]; done) | (simp only [nat_nlt] <;> simp)), trivial⟩ rfl))))))))
    rintro _ rfl
    refine J_done ?_
    refine S_cond rfl (fun hc2 => ?_) (fun hc2 => ?_)
    · refine S_reg [true, true, true, true, true, false, false, true] rfl rfl ?_
      refine J_st (R_move rfl) rfl (J_st (R_move rfl) rfl (J_st (R_move rfl) rfl (J_st (R_index (i := k) sl45 rfl rfl (hxs.ext E) hi1) rfl (J_st (R_loadS st47 rfl ((hxs.ext E).get hi1) rfl) rfl ?_))))
      refine J_buildSlice (vs := [.agg (Enc.enc (xs[k]'hi1)).toArray]) (css := [[.int .i64 ((xs[k]'hi1).op), .int .i64 ((xs[k]'hi1).epoch), .int .i64 ((xs[k]'hi1).key), .int .i64 ((xs[k]'hi1).val)]]) sl45 rfl rfl ⟨⟨rfl, rfl⟩, trivial⟩ rfl rfl (fun b2 w4 e2 s2 h2 => ?_)
      replace h2 : Blk w4 b2 [.int .i64 ((xs[k]'hi1).op), .int .i64 ((xs[k]'hi1).epoch), .int .i64 ((xs[k]'hi1).key), .int .i64 ((xs[k]'hi1).val)] := h2
      have g_b2 : w.heap.size ≤ b2 := by have := E.size; omega
      have y_b2 := h2.lt
      replace E := E.trans e2; replace ho := ho.ext e2
      have z3 := e2.size
      refine J_append sl45 rfl rfl ho (Src.ofBlk h2 rfl) rfl (by have h := filt_len xs (isOf op epoch) k; simp only [show Enc.sz Cell = 4 from rfl] at h; simp at h ⊢; omega) (by decide) (by omega) (by omega) rfl rfl (fun v1 w5 m1 ho1 => ?_)
      replace E := E.step m1 (fun g hg => by have := Own.blk ho g hg; omega)
      have z4 := m1.size
      refine J_st (R_assign rfl) rfl (J_done ?_)
      refine S_nil (E_inB ?_)
      refine S_reg [true, true, true] rfl rfl ?_
      refine J_st (R_move rfl) rfl (J_st (R_add rfl rfl (add_one hc1n hxs.1)) rfl (J_st (R_assign rfl) rfl (J_done ?_)))
      refine S_nil (E_again (k + 1, v1) (by simp; omega) ⟨rfl, rfl, rfl, rfl, rfl, rfl, trivial⟩ ⟨E, (by omega), (by omega), Own.fin ho1 (Nat.le_refl _) (by omega) (filt_yes (by assumption) (by simpa [isOf] using hc2))⟩)
    · refine S_skip ?_
      refine S_nil (E_inB ?_)
      refine S_reg [true, true, true] rfl rfl ?_
      refine J_st (R_move rfl) rfl (J_st (R_add rfl rfl (add_one hc1n hxs.1)) rfl (J_st (R_assign rfl) rfl (J_done ?_)))
      refine S_nil (E_again (k + 1, vo) (by simp; omega) ⟨rfl, rfl, rfl, rfl, rfl, rfl, trivial⟩ ⟨E, (by omega), (by omega), Own.fin ho (Nat.le_refl _) (by omega) (filt_no (by assumption) (by simpa [isOf] using hc2))⟩)
  · have hc1n : ¬ k < xs.length := by first | (have h := of_decide_eq_false hc1; omega) | (have h := hc1; simp at h; omega)
    refine S_exit (E_lp_exit (E_inB_exit ?_))
    refine S_seq ?_
    refine S_reg [true, true] rfl rfl ?_
    refine J_st (R_move rfl) rfl (J_st (R_assign rfl) rfl (J_done ?_))
    refine S_ret (E_done1 rfl rfl E ?_)
    exact Own.fin ho (by omega) (by omega) (filt_all (by omega))

set_option maxRecDepth 20000 in
theorem c_CellsOf (vxs : Value) (xs : List Cell) (op : Int) (epoch : Int) (w : World) (hxs : RdS w vxs xs) (hb : xs.length ≤ 1048576) : Ct Try.prog 40 [vxs, .int .i64 op, .int .i64 epoch] w (fun v w' => Own w' w.heap.size w'.heap.size 4 v (List.flatMap (Enc.enc (α := Cell)) (xs.filter (isOf op epoch)))) := by
  refine ct_of Try.func40 rfl Try.ntmps40 rfl ?_
  refine S_sub [(0, vxs), (1, .int .i64 op), (2, .int .i64 epoch)] ⟨rfl, rfl, rfl, trivial⟩ ?_
  have E : Ext w w := Ext.refl w
  refine S_seq ?_
  refine S_reg [true] rfl rfl ?_
  refine J_st (R_assign rfl) rfl (J_done ?_)
  refine S_seq ?_
  refine S_reg [true] rfl rfl ?_
  refine J_st (R_assign rfl) rfl (J_done ?_)
  refine S_seq ?_
  refine S_seq ?_
  refine S_reg [true, true, true] rfl rfl ?_
  refine J_st (R_move rfl) rfl (J_st (R_len Try.underlying45 rfl (hxs.ext E).len) rfl (J_st (R_move rfl) rfl (J_done ?_)))
  refine S_block ?_
  refine S_loop (fun (xq : Nat × Value) => let ⟨k, vo⟩ := xq; [(1, .int .i64 op), (2, .int .i64 epoch), (6, .slice none 0 0), (7, vo), (10, vxs), (11, .int .i64 ((xs.length : Nat) : Int)), (12, .int .i64 ((k : Nat) : Int))]) (fun (xq : Nat × Value) w' => let ⟨k, vo⟩ := xq; Ext w w' ∧ w.heap.size ≤ w'.heap.size ∧ k ≤ xs.length ∧ Own w' w.heap.size w'.heap.size 4 vo (List.flatMap (Enc.enc (α := Cell)) ((xs.take k).filter (isOf op epoch)))) (fun (xq : Nat × Value) => let ⟨k, vo⟩ := xq; xs.length - k) (0, .slice none 0 0) ⟨rfl, rfl, rfl, rfl, rfl, rfl, rfl, trivial⟩ ⟨E, Nat.le_refl _, Nat.zero_le _, Own.fin (Own.nil w w.heap.size w.heap.size _) (by have := E.size; omega) (by omega) rfl⟩ ?_
  clear E
  rintro ⟨k, vo⟩ w1 ⟨E, z1, hk, ho⟩
  refine S_sub [(1, .int .i64 op), (2, .int .i64 epoch), (6, .slice none 0 0), (7, vo), (10, vxs), (11, .int .i64 ((xs.length : Nat) : Int)), (12, .int .i64 ((k : Nat) : Int))] ⟨rfl, rfl, rfl, rfl, rfl, rfl, rfl, trivial⟩ ?_
  refine S_seq ?_
  refine S_reg [true] rfl rfl ?_
  refine J_st (R_lss rfl rfl) rfl (J_done ?_)
  refine S_seq ?_
  refine S_cond rfl (fun hc1 => ?_) (fun hc1 => ?_)
  · have hc1n : k < xs.length := by first | (have h := of_decide_eq_true hc1; omega) | (have h := hc1; simp at h; omega)
    refine S_skip ?_
    refine S_seq ?_
    refine S_block ?_
    refine S_seq ?_
    refine S_reg [true, true, false, false] rfl rfl ?_
    have hi1 : k < xs.length := (by first | assumption | omega | (simp only [List.length_set]; first | assumption | omega) | (simp only [List.getElem_set_self, List.length_set]; first | assumption | omega) | (simp only [setW, setLk, List.length_set]; first | assumption | omega) | (simp; done))
    refine J_st (R_index (i := k) sl45 rfl rfl (hxs.ext E) hi1) rfl (J_st (R_loadS st47 rfl ((hxs.ext E).get hi1) rfl) rfl ?_)
    refine J_alloc st47 rfl (fun b1 w2 e1 s1 h1 => ?_)
    have g_b1 : w.heap.size ≤ b1 := by have := E.size; omega
    have y_b1 := h1.lt
    replace E := E.trans e1; replace ho := ho.ext e1
    have z2 := e1.size
    refine J_storeS' (cs' := [.int .i64 ((xs[k]'hi1).op), .int .i64 ((xs[k]'hi1).epoch), .int .i64 ((xs[k]'hi1).key), .int .i64 ((xs[k]'hi1).val)]) st47 rfl rfl rfl rfl h1 (Nat.le_of_ble_eq_true rfl) rfl (fun w3 m1 h1' => ?_)
    replace h1 := h1'
    replace E := E.step m1 (fun g hg => by cases hg; omega); replace ho := ho.mod m1 (fun g hg => by cases hg; omega)
    have z3 := m1.size
    refine J_done ?_
    refine S_seq ?_
    refine S_reg [true, true, true, true, true, true, true, true, true, true] rfl rfl ?_
    refine J_st (R_fieldAddr0 fl47_0 rfl) rfl (J_st (R_load sc3 rfl (h1.one 0 rfl)) rfl (J_st (R_move rfl) rfl (J_st (R_eql rfl rfl) rfl (J_st (R_move rfl) rfl ?_))))
    refine J_cut 5 [(1, .int .i64 op), (2, .int .i64 epoch), (6, .slice none 0 0), (7, vo), (9, .pointer (some ⟨b1, 0, none⟩)), (10, vxs), (11, .int .i64 ((xs.length : Nat) : Int)), (12, .int .i64 ((k : Nat) : Int)), (13, .bool (decide (((k : Nat) : Int) < ((xs.length : Nat) : Int)))), (14, .pointer (some ⟨sblk vxs, soff vxs + k * 4, none⟩)), (15, .agg (Enc.enc (xs[k]'hi1)).toArray), (25, .bool ((((xs[k]'hi1).op) == op) && (((xs[k]'hi1).epoch) == epoch)))] (fun w' => w3 = w') ?_ ?_
    · refine J_if (gd := 20) rfl rfl (fun hg1 => ?_) (fun hg1 => ?_)
      · refine J_gd rfl rfl (R_fieldAddr0 fl47_1 rfl) rfl (J_gd rfl rfl (R_load sc3 rfl (h1.one 1 rfl)) rfl (J_gd rfl rfl (R_move rfl) rfl (J_gd rfl rfl (R_eql rfl rfl) rfl (J_st (R_pickT rfl rfl) rfl (J_cutEnd ⟨rfl, rfl, rfl, rfl, rfl, rfl, rfl, rfl, rfl, rfl, rfl, congrArg (fun b => some (Value.bool b)) (show (((xs[k]'hi1).epoch) == epoch) = ((((xs[k]'hi1).op) == op) && (((xs[k]'hi1).epoch) == epoch)) by first | (rw [hg1] <;> rfl) | (simp [hg1]; done) | (simp only [nat_nlt] <;> simp)), trivial⟩ rfl)))))
      · refine J_gdno rfl rfl rfl rfl (J_gdno rfl rfl rfl rfl (J_gdno rfl rfl rfl rfl (J_gdno rfl rfl rfl rfl (J_st (R_pickF rfl rfl) rfl (J_cutEnd ⟨rfl, rfl, rfl, rfl, rfl, rfl, rfl, rfl, rfl, rfl, rfl, congrArg (fun b => some (Value.bool b)) (show false = ((((xs[k]'hi1).op) == op) && (((xs[k]'hi1).epoch) == epoch)) by first | (rw [hg1] <;> rfl) | (simp [hg1]; done) | (simp only [nat_nlt] <;> simp)), trivial⟩ rfl)))))
    rintro _ rfl
    refine J_done ?_
    refine S_cond rfl (fun hc2 => ?_) (fun hc2 => ?_)
    · refine S_reg [true, true, false, false, true] rfl rfl ?_
      refine J_st (R_move rfl) rfl (J_st (R_loadS st47 rfl h1.at rfl) rfl ?_)
      refine J_buildSlice (vs := [.agg (Enc.enc (xs[k]'hi1)).toArray]) (css := [[.int .i64 ((xs[k]'hi1).op), .int .i64 ((xs[k]'hi1).epoch), .int .i64 ((xs[k]'hi1).key), .int .i64 ((xs[k]'hi1).val)]]) sl45 rfl rfl ⟨⟨rfl, rfl⟩, trivial⟩ rfl rfl (fun b2 w5 e2 s2 h2 => ?_)
      replace h2 : Blk w5 b2 [.int .i64 ((xs[k]'hi1).op), .int .i64 ((xs[k]'hi1).epoch), .int .i64 ((xs[k]'hi1).key), .int .i64 ((xs[k]'hi1).val)] := h2
      have g_b2 : w.heap.size ≤ b2 := by have := E.size; omega
      have y_b2 := h2.lt
      replace E := E.trans e2; replace ho := ho.ext e2; replace h1 := h1.ext e2
      have z4 := e2.size
      refine J_append sl45 rfl rfl ho (Src.ofBlk h2 rfl) rfl (by have h := filt_len xs (isOf op epoch) k; simp only [show Enc.sz Cell = 4 from rfl] at h; simp at h ⊢; omega) (by decide) (by omega) (by omega) rfl rfl (fun v1 w6 m2 ho1 => ?_)
      replace E := E.step m2 (fun g hg => by have := Own.blk ho g hg; omega); replace h1 := h1.mod m2 (fun g hg => by have := Own.blk ho g hg; omega)
      have z5 := m2.size
      refine J_st (R_assign rfl) rfl (J_done ?_)
      refine S_nil (E_inB ?_)
      refine S_reg [true, true] rfl rfl ?_
      refine J_st (R_add rfl rfl (add_one hc1n hxs.1)) rfl (J_st (R_move rfl) rfl (J_done ?_))
      refine S_nil (E_again (k + 1, v1) (by simp; omega) ⟨rfl, rfl, rfl, rfl, rfl, rfl, rfl, trivial⟩ ⟨E, (by omega), (by omega), Own.fin ho1 (Nat.le_refl _) (by omega) (filt_yes (by assumption) (by simpa [isOf] using hc2))⟩)
    · refine S_skip ?_
      refine S_nil (E_inB ?_)
      refine S_reg [true, true] rfl rfl ?_
      refine J_st (R_add rfl rfl (add_one hc1n hxs.1)) rfl (J_st (R_move rfl) rfl (J_done ?_))
      refine S_nil (E_again (k + 1, vo) (by simp; omega) ⟨rfl, rfl, rfl, rfl, rfl, rfl, rfl, trivial⟩ ⟨E, (by omega), (by omega), Own.fin ho (Nat.le_refl _) (by omega) (filt_no (by assumption) (by simpa [isOf] using hc2))⟩)
  · have hc1n : ¬ k < xs.length := by first | (have h := of_decide_eq_false hc1; omega) | (have h := hc1; simp at h; omega)
    refine S_exit (E_lp_exit (E_inB_exit ?_))
    refine S_seq ?_
    refine S_reg [true, true] rfl rfl ?_
    refine J_st (R_move rfl) rfl (J_st (R_assign rfl) rfl (J_done ?_))
    refine S_ret (E_done1 rfl rfl E ?_)
    exact Own.fin ho (by omega) (by omega) (filt_all (by omega))

set_option maxRecDepth 20000 in
theorem c_copyCells (vxs : Value) (xs : List Cell) (w : World) (hxs : RdS w vxs xs) (hb : xs.length ≤ 4194304) : Ct Try.prog 68 [vxs] w (fun v w' => Own w' w.heap.size w'.heap.size 4 v (List.flatMap (Enc.enc (α := Cell)) xs)) := by
  refine ct_of Try.func68 rfl Try.ntmps68 rfl ?_
  refine S_sub [(0, vxs)] ⟨rfl, trivial⟩ ?_
  have E : Ext w w := Ext.refl w
  refine S_seq ?_
  refine S_reg [true] rfl rfl ?_
  refine J_st (R_assign rfl) rfl (J_done ?_)
  refine S_seq ?_
  refine S_reg [true, false, true] rfl rfl ?_
  refine J_st (R_move rfl) rfl ?_
  refine J_append sl45 rfl rfl (Own.nil w w.heap.size w.heap.size 4) (RdS.src (hxs.ext E)) (flat_one _) (by simp only [sum_flat, List.length_nil]; simp only [Enc.sz]; omega) (by decide) (by omega) (by omega) rfl rfl (fun v1 w1 m1 ho1 => ?_)
  replace E := E.step m1 (fun g hg => by have := Own.blk (Own.nil w w.heap.size w.heap.size 4) g hg; omega)
  have z1 := m1.size
  refine J_st (R_assign rfl) rfl (J_done ?_)
  refine S_ret (E_done1 rfl rfl E ?_)
  exact Own.fin ho1 (by have := E.size; omega) (by omega) (by simp [*])

set_option maxRecDepth 20000 in
theorem c_IndexFuncCell (vxs : Value) (xs : List Cell) (fp : Value) (p : Cell → Bool) (w : World) (hxs : RdS w vxs xs) (hp : PredF Try.prog w fp p) : Ct Try.prog 92 [vxs, fp] w (fun v _ => v = .int .i64 (findI xs p)) := by
  refine ct_of Try.func92 rfl Try.ntmps92 rfl ?_
  obtain ⟨fid, fs, fc, rfl, hcf, hpf⟩ := hp
  refine S_sub [(0, vxs), (1, .func (.func fid) fs.toArray fc.toArray)] ⟨rfl, rfl, trivial⟩ ?_
  have E : Ext w w := Ext.refl w
  refine S_seq ?_
  refine S_reg [true] rfl rfl ?_
  refine J_st (R_assign rfl) rfl (J_done ?_)
  refine S_seq ?_
  refine S_seq ?_
  refine S_reg [true, true, true] rfl rfl ?_
  refine J_st (R_move rfl) rfl (J_st (R_len Try.underlying45 rfl (hxs.ext E).len) rfl (J_st (R_move rfl) rfl (J_done ?_)))
  refine S_block ?_
  refine S_loop (fun (k : Nat) => [(0, vxs), (1, .func (.func fid) fs.toArray fc.toArray), (4, .int .i64 0), (7, .int .i64 ((xs.length : Nat) : Int)), (8, .int .i64 ((k : Nat) : Int))]) (fun (k : Nat) w' => Ext w w' ∧ w.heap.size ≤ w'.heap.size ∧ k ≤ xs.length ∧ (xs.take k).any p = false) (fun (k : Nat) => xs.length - k) 0 ⟨rfl, rfl, rfl, rfl, rfl, trivial⟩ ⟨E, Nat.le_refl _, Nat.zero_le _, rfl⟩ ?_
  clear E
  rintro k w1 ⟨E, z1, hk, hI⟩
  refine S_seq ?_
  refine S_reg [true] rfl rfl ?_
  refine J_st (R_lss rfl rfl) rfl (J_done ?_)
  refine S_seq ?_
  refine S_cond rfl (fun hc1 => ?_) (fun hc1 => ?_)
  · have hc1n : k < xs.length := by first | (have h := of_decide_eq_true hc1; omega) | (have h := hc1; simp at h; omega)
    refine S_skip ?_
    refine S_seq ?_
    refine S_block ?_
    refine S_seq ?_
    refine S_reg [true, true] rfl rfl ?_
    refine J_st (R_move rfl) rfl (J_st (R_assign rfl) rfl (J_done ?_))
    refine S_seq ?_
    refine S_reg [true, true, true, true, true, false] rfl rfl ?_
    refine J_st (R_move rfl) rfl (J_st (R_move rfl) rfl (J_st (R_move rfl) rfl ?_))
    have hi1 : k < xs.length := (by first | assumption | omega | (simp only [List.length_set]; first | assumption | omega) | (simp only [List.getElem_set_self, List.length_set]; first | assumption | omega) | (simp only [setW, setLk, List.length_set]; first | assumption | omega) | (simp; done))
    refine J_st (R_index (i := k) sl45 rfl rfl (hxs.ext E) hi1) rfl (J_st (R_loadS st47 rfl ((hxs.ext E).get hi1) rfl) rfl ?_)
    refine J_callV (fs := fs) (cs := fc) hcf rfl rfl (hpf (xs[k]'hi1) _ E) rfl (fun _ w2 e1 hv => ?_)
    subst hv
    replace E := E.trans e1
    have z2 := e1.size
    refine J_done ?_
    refine S_cond rfl (fun hc2 => ?_) (fun hc2 => ?_)
    · refine S_seq ?_
      refine S_reg [true, true] rfl rfl ?_
      refine J_st (R_move rfl) rfl (J_st (R_assign rfl) rfl (J_done ?_))
      refine S_ret (E_inB_ret (E_lp_ret (E_inB_ret (E_done1 rfl rfl E ?_))))
      exact find_yes hI (by assumption) hc2
    · refine S_skip ?_
      refine S_nil (E_inB ?_)
      refine S_reg [true, true] rfl rfl ?_
      refine J_st (R_add rfl rfl (add_one hc1n hxs.1)) rfl (J_st (R_move rfl) rfl (J_done ?_))
      refine S_nil (E_again (k + 1) (by omega) ⟨rfl, rfl, rfl, rfl, rfl, trivial⟩ ⟨E, (by omega), (by omega), any_step hI (by assumption) hc2⟩)
  · have hc1n : ¬ k < xs.length := by first | (have h := of_decide_eq_false hc1; omega) | (have h := hc1; simp at h; omega)
    refine S_exit (E_lp_exit (E_inB_exit ?_))
    refine S_seq ?_
    refine S_reg [true] rfl rfl ?_
    refine J_st (R_assign rfl) rfl (J_done ?_)
    refine S_ret (E_done1 rfl rfl E ?_)
    exact find_no hI (by omega)

set_option maxRecDepth 20000 in
theorem c_DeleteFuncCell (vxs : Value) (lo hi : Nat) (xs : List Cell) (fp : Value) (p : Cell → Bool) (w : World) (hxs : Own w lo hi 4 vxs (List.flatMap (Enc.enc (α := Cell)) xs)) (hp : PredR Try.prog w lo hi fp p) (hhi : hi ≤ w.heap.size) : CtR Try.prog 84 [vxs, fp] w lo hi (fun v w' => Own w' lo w'.heap.size 4 v (List.flatMap (Enc.enc (α := Cell)) (List.filter (fun y => !(p y)) xs))) := by
  have hmx := (Own.rd (α := Cell) (by decide) hxs).1
  unfold maxLen at hmx
  refine ctR_of Try.func84 rfl Try.ntmps84 rfl ?_
  obtain ⟨fid, fs, fc, rfl, hcf, hpf⟩ := hp
  refine S_sub [(0, vxs), (1, .func (.func fid) fs.toArray fc.toArray)] ⟨rfl, rfl, trivial⟩ ?_
  have E : ModR w w lo hi := ModR.refl w lo hi
  refine S_seq ?_
  refine S_reg [true] rfl rfl ?_
  refine J_st (R_assign rfl) rfl (J_done ?_)
  refine S_seq ?_
  refine S_reg [true, true, false, true] rfl rfl ?_
  refine J_st (R_move rfl) rfl (J_st (R_move rfl) rfl ?_)
  refine J_call Try.call92 (by rfl) (c_IndexFuncCell vxs xs (.func (.func fid) fs.toArray fc.toArray) (p) _ (Own.rd (by decide) hxs) ⟨fid, fs, fc, rfl, hcf, fun y w' e => hpf y w' (E.ext e)⟩) rfl (fun _ w1 e1 hv => ?_)
  subst hv
  replace E := E.ext e1; replace hxs := hxs.ext e1
  have z1 := e1.size
  refine J_st (R_assign rfl) rfl (J_done ?_)
  refine S_seq ?_
  refine S_seq ?_
  refine S_reg [true, true] rfl rfl ?_
  refine J_st (R_move rfl) rfl (J_st (R_eql rfl rfl) rfl (J_done ?_))
  refine S_cond rfl (fun hc1 => ?_) (fun hc1 => ?_)
  · refine S_seq ?_
    refine S_reg [true, true] rfl rfl ?_
    refine J_st (R_move rfl) rfl (J_st (R_assign rfl) rfl (J_done ?_))
    refine S_ret (E_done1 rfl rfl E ?_)
    exact Own.fin hxs (Nat.le_refl _) (by have := E.size; omega) (by rw [del_none (by simpa using hc1)])
  · have hany := find_some (by simpa using hc1)
    have hfl := find_lt hany
    rw [find_eq hany]
    refine S_skip ?_
    refine S_seq ?_
    refine S_seq ?_
    refine S_reg [true, true, true] rfl rfl ?_
    refine J_st (R_move rfl) rfl (J_st (R_add rfl rfl (add_nat (by unfold maxLen; omega))) rfl (J_st (R_assign rfl) rfl (J_done ?_)))
    refine S_block ?_
    refine S_loop (fun (xq : Nat × Nat × List Cell) => let ⟨j, i, ys⟩ := xq; [(0, vxs), (1, .func (.func fid) fs.toArray fc.toArray), (4, .slice none 0 0), (5, .int .i64 ((i : Nat) : Int)), (6, .int .i64 ((j : Nat) : Int))]) (fun (xq : Nat × Nat × List Cell) w' => let ⟨j, i, ys⟩ := xq; ModR w w' lo hi ∧ w1.heap.size ≤ w'.heap.size ∧ ys.length = xs.length ∧ i < j ∧ j ≤ xs.length ∧ ys.take i = (xs.take j).filter (fun y => !p y) ∧ ys.drop j = xs.drop j ∧ Own w' lo hi 4 vxs (List.flatMap (Enc.enc (α := Cell)) ys)) (fun (xq : Nat × Nat × List Cell) => let ⟨j, i, ys⟩ := xq; xs.length - j) (xs.findIdx p + 1, xs.findIdx p, xs) ⟨rfl, rfl, rfl, rfl, rfl, trivial⟩ ⟨E, Nat.le_refl _, rfl, (by omega), (by omega), (del_start hany), rfl, hxs⟩ ?_
    clear E hxs
    rintro ⟨j, i, ys⟩ w2 ⟨E, z2, hyl, hij, hjl, hI, hD, hxs⟩
    refine S_sub [(0, vxs), (1, .func (.func fid) fs.toArray fc.toArray), (4, .slice none 0 0), (5, .int .i64 ((i : Nat) : Int)), (6, .int .i64 ((j : Nat) : Int))] ⟨rfl, rfl, rfl, rfl, rfl, trivial⟩ ?_
    refine S_seq ?_
    refine S_seq ?_
    refine S_reg [true, true, true, true] rfl rfl ?_
    refine J_st (R_move rfl) rfl (J_st (R_move rfl) rfl (J_st (R_len Try.underlying45 rfl (Own.lenE (by decide) hxs hyl)) rfl (J_st (R_lss rfl rfl) rfl (J_done ?_))))
    refine S_cond rfl (fun hc2 => ?_) (fun hc2 => ?_)
    · have hc2n : j < xs.length := by first | (have h := of_decide_eq_true hc2; omega) | (have h := hc2; simp at h; omega)
      refine S_skip ?_
      refine S_seq ?_
      refine S_block ?_
      refine S_seq ?_
      refine S_reg [true, true, true, true, false, false] rfl rfl ?_
      refine J_st (R_move rfl) rfl (J_st (R_move rfl) rfl ?_)
      have hi1 : j < ys.length := (by first | assumption | omega | (simp only [List.length_set]; first | assumption | omega) | (simp only [List.getElem_set_self, List.length_set]; first | assumption | omega) | (simp only [setW, setLk, List.length_set]; first | assumption | omega) | (simp; done))
      refine J_st (R_index (i := j) sl45 rfl rfl (Own.rd (by decide) hxs) hi1) rfl (J_st (R_loadS st47 rfl ((Own.rd (by decide) hxs).get hi1) rfl) rfl ?_)
      refine J_alloc st47 rfl (fun b1 w3 e2 s1 h1 => ?_)
      have g_b1 : w.heap.size ≤ b1 := by have := E.size; omega
      have y_b1 := h1.lt
      replace E := E.ext e2; replace hxs := hxs.ext e2
      have z3 := e2.size
      refine J_storeS' (cs' := [.int .i64 ((ys[j]'hi1).op), .int .i64 ((ys[j]'hi1).epoch), .int .i64 ((ys[j]'hi1).key), .int .i64 ((ys[j]'hi1).val)]) st47 rfl rfl rfl rfl h1 (Nat.le_of_ble_eq_true rfl) rfl (fun w4 m1 h1' => ?_)
      replace h1 := h1'
      replace E := E.mod m1 (fun g hg => by cases hg; omega); replace hxs := hxs.mod m1 (fun g hg => by cases hg; omega)
      have z4 := m1.size
      refine J_done ?_
      refine S_seq ?_
      refine S_reg [true, true, false, true] rfl rfl ?_
      refine J_st (R_move rfl) rfl (J_st (R_loadS st47 rfl h1.at rfl) rfl ?_)
      refine J_callV (fs := fs) (cs := fc) hcf rfl rfl (hpf (ys[j]'hi1) _ E) rfl (fun _ w5 e3 hv => ?_)
      subst hv
      replace E := E.ext e3; replace hxs := hxs.ext e3; replace h1 := h1.ext e3
      have z5 := e3.size
      refine J_st (R_not rfl) rfl (J_done ?_)
      refine S_cond rfl (fun hc3 => ?_) (fun hc3 => ?_)
      · refine S_seq ?_
        refine S_reg [true, true, true, true, false] rfl rfl ?_
        refine J_st (R_move rfl) rfl (J_st (R_move rfl) rfl (J_st (R_loadS st47 rfl h1.at rfl) rfl ?_))
        have hi2 : i < ys.length := (by first | assumption | omega | (simp only [List.length_set]; first | assumption | omega) | (simp only [List.getElem_set_self, List.length_set]; first | assumption | omega) | (simp only [setW, setLk, List.length_set]; first | assumption | omega) | (simp; done))
        refine J_st (R_index (i := i) sl45 rfl rfl (Own.rd (by decide) hxs) hi2) rfl ?_
        refine J_storeElem (α := Cell) (i := i) (ys[j]'hi1) st47 rfl rfl rfl hxs hi2 (fun w6 m2 hxs' => ?_)
        have hq := Own.blk hxs
        replace hxs := hxs'
        replace E := E.mod m2 (fun g hg => by have := hq g hg; omega); replace h1 := h1.mod m2 (fun g hg => by have := hq g hg; omega)
        have z6 := m2.size
        clear hq
        refine J_done ?_
        refine S_reg [true, true, true] rfl rfl ?_
        refine J_st (R_move rfl) rfl (J_st (R_add rfl rfl (add_nat (by unfold maxLen; omega))) rfl (J_st (R_assign rfl) rfl (J_done ?_)))
        refine S_nil (E_inB ?_)
        refine S_reg [true, true, true] rfl rfl ?_
        refine J_st (R_move rfl) rfl (J_st (R_add rfl rfl (add_nat (by unfold maxLen; omega))) rfl (J_st (R_assign rfl) rfl (J_done ?_)))
        refine S_nil (E_again (j + 1, i + 1, List.set ys i (ys[j]'hi1)) (by simp; omega) ⟨rfl, rfl, rfl, rfl, rfl, trivial⟩ ⟨E, (by omega), (by simpa using hyl), (by omega), (by omega), (del_yes1 hI hD hyl hij (by omega) (by simpa using hc3)), (del_yes2 hD hyl hij), hxs⟩)
      · refine S_skip ?_
        refine S_nil (E_inB ?_)
        refine S_reg [true, true, true] rfl rfl ?_
        refine J_st (R_move rfl) rfl (J_st (R_add rfl rfl (add_nat (by unfold maxLen; omega))) rfl (J_st (R_assign rfl) rfl (J_done ?_)))
        refine S_nil (E_again (j + 1, i, ys) (by simp; omega) ⟨rfl, rfl, rfl, rfl, rfl, trivial⟩ ⟨E, (by omega), (by simpa using hyl), (by omega), (by omega), (del_no1 hI hD hyl hij (by omega) (by simpa using hc3)), (del_no2 hD hyl hij), hxs⟩)
    · have hc2n : ¬ j < xs.length := by first | (have h := of_decide_eq_false hc2; omega) | (have h := hc2; simp at h; omega)
      refine S_exit (E_lp_exit (E_inB_exit ?_))
      refine S_seq ?_
      refine S_reg [true, true, true, false] rfl rfl ?_
      refine J_st (R_move rfl) rfl (J_st (R_move rfl) rfl ?_)
      have hk1 : i ≤ ys.length := by first | assumption | omega
      refine J_st (R_sliceFrom sl45 rfl rfl (Own.roomE (α := Cell) hxs) hk1) rfl ?_
      have hrm1 := Own.roomE (α := Cell) hxs
      have hq := Own.blk hxs
      refine J_clear (α := Cell) sl45 st47 rfl rfl hxs (by first | assumption | omega) (fun w7 m3 ho1 => ?_)
      replace E := E.mod m3 (fun g hg => by have := hq g hg; omega)
      have z7 := m3.size
      clear hq
      refine J_done ?_
      refine S_seq ?_
      refine S_reg [true, true, true, true] rfl rfl ?_
      refine J_st (R_move rfl) rfl (J_st (R_move rfl) rfl ?_)
      have hk2 : i ≤ ys.length := by first | assumption | omega
      refine J_st (R_sliceTo sl45 rfl rfl hrm1 hk2) rfl (J_st (R_assign rfl) rfl (J_done ?_))
      refine S_ret (E_done1 rfl rfl E ?_)
      exact Own.fin ho1 (Nat.le_refl _) (by have := E.size; omega) (by rw [del_end hI (by omega)])

set_option maxHeartbeats 4000000 in
set_option maxRecDepth 20000 in
theorem c_InsertCell (vxs : Value) (lo hi : Nat) (xs : List Cell) (i : Nat) (bqy : Nat) (y : Cell) (w : World) (hxs : Own w lo hi 4 vxs (List.flatMap (Enc.enc (α := Cell)) xs)) (hy : Blk w bqy (Enc.enc y)) (hlo : lo ≤ w.heap.size) (hhi : hi ≤ w.heap.size) (hil : i ≤ xs.length) (hyb : hi ≤ bqy) (hbd : xs.length ≤ 4194304) : CtR Try.prog 70 [vxs, .int .i64 ((i : Nat) : Int), .slice (some ⟨bqy, 0, none⟩) 1 1] w lo hi (fun v w' => Own w' lo w'.heap.size 4 v (List.flatMap (Enc.enc (α := Cell)) (insM xs i y))) := by
  have hyl := hy.lt
  refine ctR_of Try.func70 rfl Try.ntmps70 rfl ?_
  refine S_sub [(0, vxs), (1, .int .i64 ((i : Nat) : Int)), (2, .slice (some ⟨bqy, 0, none⟩) 1 1)] ⟨rfl, rfl, rfl, trivial⟩ ?_
  have E : ModR w w lo hi := ModR.refl w lo hi
  refine S_seq ?_
  refine S_reg [true] rfl rfl ?_
  refine J_st (R_assign rfl) rfl (J_done ?_)
  refine S_seq ?_
  refine S_reg [true, true, true] rfl rfl ?_
  refine J_st (R_move rfl) rfl (J_st (R_move rfl) rfl ?_)
  have hk1 : i ≤ xs.length := by first | assumption | omega
  refine J_st (R_sliceFrom sl45 rfl rfl (Own.roomE (α := Cell) hxs) hk1) rfl (J_done ?_)
  refine S_seq ?_
  refine S_reg [true, true, true] rfl rfl ?_
  refine J_st (R_move rfl) rfl (J_st (R_len Try.underlying45 rfl ⟨_, _, rfl⟩) rfl (J_st (R_assign rfl) rfl (J_done ?_)))
  refine S_seq ?_
  refine S_seq ?_
  refine S_reg [true, true] rfl rfl ?_
  refine J_st (R_move rfl) rfl (J_st (R_eql rfl rfl) rfl (J_done ?_))
  refine S_condFe rfl (by decide) ?_
  refine S_skip ?_
  refine S_seq ?_
  refine S_reg [true, true, true] rfl rfl ?_
  refine J_st (R_move rfl) rfl (J_st (R_len Try.underlying45 rfl (Own.len (by decide) hxs)) rfl (J_st (R_assign rfl) rfl (J_done ?_)))
  refine S_seq ?_
  refine S_seq ?_
  refine S_reg [true, true, true] rfl rfl ?_
  refine J_st (R_move rfl) rfl (J_st (R_move rfl) rfl (J_st (R_eql rfl rfl) rfl (J_done ?_)))
  refine S_cond rfl (fun hc1 => ?_) (fun hc1 => ?_)
  · have hc1n : i = xs.length := by first | (have h := of_decide_eq_true hc1; omega) | (have h := hc1; simp at h; omega)
    refine S_seq ?_
    refine S_reg [true, true, false, true] rfl rfl ?_
    refine J_st (R_move rfl) rfl (J_st (R_move rfl) rfl ?_)
    refine J_append sl45 rfl rfl hxs (Src.ofBlk hy (by rfl)) (Enc.one _) (by simp only [sum_flat, Enc.len]; simp only [show Enc.sz Cell = 4 from rfl]; omega) (by decide) (by omega) (by omega) rfl rfl (fun v1 w1 m1 ho1 => ?_)
    replace E := E.mod m1 (fun g hg => by have := Own.blk hxs g hg; omega); replace hy := hy.mod m1 (fun g hg => by have := Own.blk hxs g hg; omega)
    have z1 := m1.size
    refine J_st (R_assign rfl) rfl (J_done ?_)
    refine S_ret (E_done1 rfl rfl E ?_)
    exact Own.fin ho1 (Nat.le_refl _) (by omega) (ins_end (by have h := hc1; simp at h; omega))
  · have hlt : i < xs.length := by have h := hc1; simp at h; omega
    obtain ⟨g, off, cap, cur, rfl, hg1, hg2, hB, hn, hcm, hrr, hcur⟩ := Own.conc (n := xs.length) hxs (sum_flat xs) (by decide) (by omega)
    have hc1n : ¬ i = xs.length := by first | (have h := of_decide_eq_false hc1; omega) | (have h := hc1; simp at h; omega)
    refine S_skip ?_
    refine S_seq ?_
    refine S_seq ?_
    refine S_reg [true, true, true, true, true, true] rfl rfl ?_
    refine J_st (R_move rfl) rfl (J_st (R_move rfl) rfl (J_st (R_add rfl rfl (add_nat (by unfold maxLen; omega))) rfl (J_st (R_move rfl) rfl (J_st (R_cap Try.underlying45 rfl) rfl (J_st (R_gtr rfl rfl) rfl (J_done ?_))))))
    refine S_cond rfl (fun hc2 => ?_) (fun hc2 => ?_)
    · have hc2n : xs.length + 1 > cap := by first | (have h := of_decide_eq_true hc2; omega) | (have h := hc2; simp at h; omega)
      refine S_seq ?_
      refine S_reg [true, true, true, true, true, true, true, true, false, true] rfl rfl ?_
      refine J_st (R_move rfl) rfl (J_st (R_move rfl) rfl (J_st (R_sliceToC sl45 rfl rfl (by omega)) rfl (J_st (R_move rfl) rfl (J_st (R_move rfl) rfl (J_st (R_add rfl rfl (add_nat (by unfold maxLen; omega))) rfl (J_st (R_move rfl) rfl (J_st (R_sub rfl rfl (nat_sub (by omega) (by unfold maxLen; omega))) rfl ?_)))))))
      refine J_appendZ sl45 Try.underlying3 rfl rfl (Blk.seg hB (fun j u hj => hcur j u (take_pre hj))) (by rw [sum_flat, List.length_take, Nat.min_eq_left (by omega)]; rfl) (by omega) (by omega) (by omega) (by decide) rfl (fun b2 G rest wZ eZ sZ h2 hG hGm hrl => ?_)
      have g_b2 : w.heap.size ≤ b2 := by have := E.size; omega
      have y_b2 := h2.lt
      replace E := E.ext eZ; replace hy := hy.ext eZ; replace hB := hB.ext eZ
      have z2 := eZ.size
      have hLA : (List.flatMap (Enc.enc (α := Cell)) (xs.take i)).length = i * 4 := by rw [sum_flat, List.length_take, Nat.min_eq_left (by omega)]; rfl
      refine J_st (R_assign rfl) rfl (J_done ?_)
      refine S_seq ?_
      refine S_reg [true, true, true, true, false] rfl rfl ?_
      refine J_st (R_move rfl) rfl (J_st (R_move rfl) rfl (J_st (R_sliceFromC sl45 rfl rfl (by omega) (by omega) (by omega)) rfl (J_st (R_move rfl) rfl ?_)))
      refine J_copy 1 sl45 rfl rfl (Nat.min_eq_left (by omega)) h2 (Blk.at hy) (by rfl) (Enc.one y) (by rw [Enc.len, List.length_append, hLA, hrl]; simp only [show Enc.sz Cell = 4 from rfl]; omega) rfl (fun w2 m2 h2' => ?_)
      replace h2 := h2'
      replace E := E.mod m2 (fun g hg => by cases hg; omega); replace hy := hy.mod m2 (fun g hg => by cases hg; omega); replace hB := hB.mod m2 (fun g hg => by cases hg; omega)
      have z3 := m2.size
      refine J_done ?_
      refine S_seq ?_
      refine S_regD mixed [(0, true), (1, true), (2, true), (3, true), (4, true), (5, true), (6, true), (7, true), (8, false)] (by decide +kernel) rfl (fun w3 e1 => ?_)
      replace E := E.ext e1; replace hy := hy.ext e1; replace hB := hB.ext e1; replace h2 := h2.ext e1
      have z4 := e1.size
      refine J_st (R_move rfl) rfl (J_st (R_move rfl) rfl (J_st (R_move rfl) rfl (J_st (R_add rfl rfl (add_nat (by unfold maxLen; omega))) rfl (J_st (R_sliceFromC sl45 rfl rfl (by omega) (by omega) (by omega)) rfl (J_st (R_move rfl) rfl (J_st (R_move rfl) rfl (J_st (R_sliceFromC sl45 rfl rfl (by omega) (by omega) (by omega)) rfl ?_)))))))
      refine J_copy (xs.length - i) sl45 rfl rfl (by show min _ _ = _; omega) h2 (Blk.seg hB (fun j u hj => by rw [Nat.add_assoc]; exact hcur _ u (drop_pre hj))) (by rw [sum_flat, List.length_drop]; rfl) (flat_one _) (by rw [spl_length, sum_flat, List.length_drop, List.length_append, hLA, hrl]; simp only [show Enc.sz Cell = 4 from rfl]; omega) rfl (fun w4 m3 h2' => ?_)
      replace h2 := h2'
      replace E := E.mod m3 (fun g hg => by cases hg; omega); replace hy := hy.mod m3 (fun g hg => by cases hg; omega); replace hB := hB.mod m3 (fun g hg => by cases hg; omega)
      have z5 := m3.size
      refine J_done ?_
      refine S_seq ?_
      refine S_reg [true, true] rfl rfl ?_
      refine J_st (R_move rfl) rfl (J_st (R_assign rfl) rfl (J_done ?_))
      refine S_ret (E_done1 rfl rfl E ?_)
      have hLC : (List.flatMap (Enc.enc (α := Cell)) (xs.drop i)).length = (xs.length - i) * 4 := by rw [sum_flat, List.length_drop]; rfl
      have hLB : (Enc.enc y).length = 4 := rfl
      exact Own.of h2 (by omega) h2.lt (by omega) hGm (by rw [spl_length, spl_length, List.length_append, hLA, hrl]; omega) (by rw [insM_flat]; simp only [List.length_append, hLA, hLB, hLC]; omega) (by rw [insM_flat]; exact ins_rowE (by omega) (by omega) (fun j u hj => by rw [Nat.zero_add, List.getElem?_append_left (List.getElem?_eq_some_iff.1 hj).1]; exact hj) (by rw [List.length_append, hLA, hLB, hLC, hrl]; omega))
    · have hc2n : ¬ xs.length + 1 > cap := by first | (have h := of_decide_eq_false hc2; omega) | (have h := hc2; simp at h; omega)
      refine S_skip ?_
      refine S_seq ?_
      refine S_reg [true, true, true, true, true, true] rfl rfl ?_
      refine J_st (R_move rfl) rfl (J_st (R_move rfl) rfl (J_st (R_move rfl) rfl (J_st (R_add rfl rfl (add_nat (by unfold maxLen; omega))) rfl (J_st (R_sliceToC sl45 rfl rfl (by omega)) rfl (J_st (R_assign rfl) rfl (J_done ?_))))))
      refine S_seq ?_
      refine S_seq ?_
      refine S_reg [true, true, true, true, true, true, false, true] rfl rfl ?_
      refine J_st (R_move rfl) rfl (J_st (R_move rfl) rfl (J_st (R_move rfl) rfl (J_st (R_move rfl) rfl (J_st (R_add rfl rfl (add_nat (by unfold maxLen; omega))) rfl (J_st (R_sliceFromC sl45 rfl rfl (by omega) (by omega) (by omega)) rfl ?_)))))
      have hov : (callFunc 86 ([.slice (some ⟨bqy, 0, none⟩) 1 1, .slice (some ⟨g, off + (i + 1) * 4, none⟩) ((xs.length + 1) - (i + 1)) (cap - (i + 1))]).toArray).run Try.prog w = .ok (.value (.bool false)) w := by rw [run_callFunc_extern Try.func86 (by kernel_rfl) (by kernel_rfl) (by kernel_rfl) (e := Extern.SlicesOverlaps.overlaps #[45, 45] #[4]) (by kernel_rfl)]; show ((Extern.SlicesOverlaps.overlaps #[45, 45] #[4] #[.slice (some ⟨bqy, 0, none⟩) 1 1, .slice (some ⟨g, off + (i + 1) * 4, none⟩) ((xs.length + 1) - (i + 1)) (cap - (i + 1))]).run Try.prog w).andThen _ = _; rw [run_ov sl45 st47.size hy hB (by omega) (by omega)]; rfl
      refine J_extern (vs := [.slice (some ⟨bqy, 0, none⟩) 1 1, .slice (some ⟨g, off + (i + 1) * 4, none⟩) ((xs.length + 1) - (i + 1)) (cap - (i + 1))]) rfl hov rfl ?_
      refine J_st (R_not rfl) rfl (J_done ?_)
      refine S_condTe rfl (by first | (simp; done) | (simp only [nat_nlt] <;> simp) | (simp only [mkL_length, nat_nlt] <;> simp) | (simp only [mkL_length] <;> simp)) ?_
      refine S_seq ?_
      refine S_regD mixed [(0, true), (1, true), (2, true), (3, true), (4, true), (5, true), (6, true), (7, true), (8, false)] (by decide +kernel) rfl (fun w5 e2 => ?_)
      replace E := E.ext e2; replace hy := hy.ext e2; replace hB := hB.ext e2
      have z6 := e2.size
      refine J_st (R_move rfl) rfl (J_st (R_move rfl) rfl (J_st (R_move rfl) rfl (J_st (R_add rfl rfl (add_nat (by unfold maxLen; omega))) rfl (J_st (R_sliceFromC sl45 rfl rfl (by omega) (by omega) (by omega)) rfl (J_st (R_move rfl) rfl (J_st (R_move rfl) rfl (J_st (R_sliceFromC sl45 rfl rfl (by omega) (by omega) (by omega)) rfl ?_)))))))
      refine J_copy (xs.length - i) sl45 rfl rfl (by show min _ _ = _; omega) hB (Blk.seg hB (fun j u hj => by rw [Nat.add_assoc]; exact hcur _ u (drop_pre hj))) (by rw [sum_flat, List.length_drop]; rfl) (flat_one _) (by rw [sum_flat, List.length_drop]; simp only [show Enc.sz Cell = 4 from rfl]; omega) rfl (fun w6 m4 hB' => ?_)
      replace hB := hB'
      replace E := E.mod m4 (fun g hg => by cases hg; omega); replace hy := hy.mod m4 (fun g hg => by cases hg; omega)
      have z7 := m4.size
      refine J_done ?_
      refine S_seq ?_
      refine S_reg [true, true, true, true, false] rfl rfl ?_
      refine J_st (R_move rfl) rfl (J_st (R_move rfl) rfl (J_st (R_sliceFromC sl45 rfl rfl (by omega) (by omega) (by omega)) rfl (J_st (R_move rfl) rfl ?_)))
      refine J_copy 1 sl45 rfl rfl (Nat.min_eq_left (by omega)) hB (Blk.at hy) (by rfl) (Enc.one y) (by rw [spl_length, Enc.len]; simp only [show Enc.sz Cell = 4 from rfl]; omega) rfl (fun w7 m5 hB' => ?_)
      replace hB := hB'
      replace E := E.mod m5 (fun g hg => by cases hg; omega); replace hy := hy.mod m5 (fun g hg => by cases hg; omega)
      have z8 := m5.size
      refine J_done ?_
      refine S_seq ?_
      refine S_reg [true, true] rfl rfl ?_
      refine J_st (R_move rfl) rfl (J_st (R_assign rfl) rfl (J_done ?_))
      refine S_ret (E_done1 rfl rfl E ?_)
      have hLA : (List.flatMap (Enc.enc (α := Cell)) (xs.take i)).length = i * 4 := by rw [sum_flat, List.length_take, Nat.min_eq_left (by omega)]; rfl
      have hLC : (List.flatMap (Enc.enc (α := Cell)) (xs.drop i)).length = (xs.length - i) * 4 := by rw [sum_flat, List.length_drop]; rfl
      have hLB : (Enc.enc y).length = 4 := rfl
      exact Own.of hB hg1 (by omega) (by omega) hcm (by rw [spl_length, spl_length]; exact hrr) (by rw [insM_flat]; simp only [List.length_append, hLA, hLB, hLC]; omega) (by rw [insM_flat]; exact ins_row2E (by omega) (by omega) (fun j u hj => hcur j u (take_pre hj)) (by rw [hLA, hLB, hLC]; omega))

set_option maxRecDepth 20000 in
theorem c_PutCell (vxs : Value) (xs : List Cell) (x : Cell) (w : World) (hxs : RdS w vxs xs) (hb : xs.length ≤ 4194304) : Ct Try.prog 32 [vxs, .agg (Enc.enc x).toArray] w (fun v w' => Own w' w.heap.size w'.heap.size 4 v (List.flatMap (Enc.enc (α := Cell)) (putM xs x))) := by
  refine ct_of Try.func32 rfl Try.ntmps32 rfl ?_
  refine S_sub [(0, vxs), (1, .agg (Enc.enc x).toArray)] ⟨rfl, rfl, trivial⟩ ?_
  have E : Ext w w := Ext.refl w
  refine S_seq ?_
  refine S_reg [false, true] rfl rfl ?_
  refine J_box rfl rfl (fun b1 w1 e1 s1 h1 => ?_)
  have g_b1 : w.heap.size ≤ b1 := by have := E.size; omega
  have y_b1 := h1.lt
  replace E := E.trans e1
  have z1 := e1.size
  refine J_st (R_assign rfl) rfl (J_done ?_)
  refine S_seq ?_
  refine S_reg [true, false, true] rfl rfl ?_
  refine J_st (R_move rfl) rfl ?_
  refine J_call Try.call68 rfl (c_copyCells vxs xs _ (hxs.ext E) (by first | omega | (simp only [mkL_length]; omega) | (rw [mkL_length]; done) | (simp only [mkL_length]; done))) rfl (fun v1 w2 e2 ho1 => ?_)
  have g_ho1 : w.heap.size ≤ w1.heap.size := E.size
  replace E := E.trans e2; replace h1 := h1.ext e2
  have z2 := e2.size
  refine J_st (R_assign rfl) rfl (J_done ?_)
  refine S_seq ?_
  refine S_seq ?_
  refine S_reg [true, true, false] rfl rfl ?_
  refine J_st (R_move rfl) rfl (J_st (R_loadS st47 rfl h1.at rfl) rfl ?_)
  refine J_call Try.call39 rfl (c_HasCell vxs xs x _ (hxs.ext E)) rfl (fun _ w3 e3 hv => ?_)
  subst hv
  replace E := E.trans e3; replace h1 := h1.ext e3; replace ho1 := ho1.ext e3
  have z3 := e3.size
  refine J_done ?_
  refine S_cond rfl (fun hc1 => ?_) (fun hc1 => ?_)
  · refine S_seq ?_
    refine S_reg [true, true] rfl rfl ?_
    refine J_st (R_move rfl) rfl (J_st (R_assign rfl) rfl (J_done ?_))
    refine S_ret (E_done1 rfl rfl E ?_)
    exact Own.fin ho1 (by omega) (by omega) (by simp only [putM_yes hc1, List.nil_append])
  · refine S_skip ?_
    refine S_seq ?_
    refine S_reg [true] rfl rfl ?_
    refine J_st (R_assign rfl) rfl (J_done ?_)
    refine S_seq ?_
    refine S_block ?_
    refine S_loop (fun (k : Nat) => [(0, vxs), (3, .pointer (some ⟨b1, 0, none⟩)), (4, .slice none 0 0), (5, v1), (6, .int .i64 ((k : Nat) : Int))]) (fun (k : Nat) w' => Ext w w' ∧ w3.heap.size ≤ w'.heap.size ∧ Blk w' b1 (Enc.enc x) ∧ Own w' w1.heap.size w2.heap.size 4 v1 (List.flatMap (Enc.enc (α := Cell)) xs) ∧ k ≤ xs.length ∧ (xs.take k).all (putLt x) = true) (fun (k : Nat) => xs.length - k) 0 ⟨rfl, rfl, rfl, rfl, rfl, trivial⟩ ⟨E, Nat.le_refl _, h1, ho1, Nat.zero_le _, rfl⟩ ?_
    clear E h1 ho1
    rintro k w4 ⟨E, z4, h1, ho1, hk, hI⟩
    refine S_seq ?_
    refine S_seq ?_
    refine S_regD mixed [(0, true), (1, true), (2, true), (3, true), (4, true), (5, true), (6, true), (7, true), (8, true), (9, true), (10, false), (11, true), (12, true)] (by decide +kernel) rfl (fun w5 e4 => ?_)
    replace E := E.trans e4; replace h1 := h1.ext e4; replace ho1 := ho1.ext e4
    have z5 := e4.size
    refine J_st (R_move rfl) rfl (J_st (R_move rfl) rfl (J_st (R_len Try.underlying45 rfl (hxs.ext E).len) rfl (J_st (R_lss rfl rfl) rfl (J_st (R_move rfl) rfl ?_))))
    refine J_cut 8 [(0, vxs), (3, .pointer (some ⟨b1, 0, none⟩)), (4, .slice none 0 0), (5, v1), (6, .int .i64 ((k : Nat) : Int)), (25, .bool ((decide (((k : Nat) : Int) < ((xs.length : Nat) : Int))) && (decide ((cellOrd (List.getD xs k default) x) < 0))))] (fun w' => Ext w w' ∧ w5.heap.size ≤ w'.heap.size ∧ Blk w' b1 (Enc.enc x) ∧ Own w' w1.heap.size w2.heap.size 4 v1 (List.flatMap (Enc.enc (α := Cell)) xs)) ?_ ?_
    · refine J_if (gd := 17) rfl rfl (fun hg1 => ?_) (fun hg1 => ?_)
      · have hg1n : k < xs.length := by first | (have h := of_decide_eq_true hg1; omega) | (have h := hg1; simp at h; omega)
        refine J_gd rfl rfl (R_move rfl) rfl (J_gd rfl rfl (R_move rfl) rfl (J_gd rfl rfl (R_index (i := k) sl45 rfl rfl (hxs.ext E) (by first | assumption | omega | (simp only [List.length_set]; first | assumption | omega) | (simp only [List.getElem_set_self, List.length_set]; first | assumption | omega) | (simp only [setW, setLk, List.length_set]; first | assumption | omega) | (simp; done))) rfl (J_gd rfl rfl (R_loadS st47 rfl (RdS.getD (hxs.ext E) (i := k) (by first | assumption | omega | (simp only [List.length_set]; first | assumption | omega) | (simp only [List.getElem_set_self, List.length_set]; first | assumption | omega) | (simp only [setW, setLk, List.length_set]; first | assumption | omega) | (simp; done))) rfl) rfl (J_gd rfl rfl (R_loadS st47 rfl h1.at rfl) rfl ?_))))
        refine J_ung rfl rfl ?_
        refine J_call Try.call42 rfl (c_CellOrder (List.getD xs k default) x _ ) rfl (fun _ w7 e5 hv => ?_)
        subst hv
        replace E := E.trans e5; replace h1 := h1.ext e5; replace ho1 := ho1.ext e5
        have z6 := e5.size
        refine J_gd rfl rfl (R_lss rfl rfl) rfl (J_st (R_pickT rfl rfl) rfl (J_cutEnd ⟨rfl, rfl, rfl, rfl, rfl, congrArg (fun b => some (Value.bool b)) (show (decide ((cellOrd (List.getD xs k default) x) < 0)) = ((decide (((k : Nat) : Int) < ((xs.length : Nat) : Int))) && (decide ((cellOrd (List.getD xs k default) x) < 0))) by first | (rw [hg1] <;> rfl) | (simp [hg1]; done) | (simp only [nat_nlt] <;> simp)), trivial⟩ ⟨E, (by omega), h1, ho1⟩))
      · have hg1n : ¬ k < xs.length := by first | (have h := of_decide_eq_false hg1; omega) | (have h := hg1; simp at h; omega)
        refine J_gdno rfl rfl rfl rfl (J_gdno rfl rfl rfl rfl (J_gdno rfl rfl rfl rfl (J_gdno rfl rfl rfl rfl (J_gdno rfl rfl rfl rfl ?_))))
        refine J_ungno rfl rfl rfl rfl ?_
        refine J_gdno rfl rfl rfl rfl (J_st (R_pickF rfl rfl) rfl (J_cutEnd ⟨rfl, rfl, rfl, rfl, rfl, congrArg (fun b => some (Value.bool b)) (show false = ((decide (((k : Nat) : Int) < ((xs.length : Nat) : Int))) && (decide ((cellOrd (List.getD xs k default) x) < 0))) by first | (rw [hg1] <;> rfl) | (simp [hg1]; done) | (simp only [nat_nlt] <;> simp)), trivial⟩ ⟨E, (by omega), h1, ho1⟩))
    clear E h1 ho1
    rintro w6 ⟨E, z7, h1, ho1⟩
    refine J_done ?_
    refine S_cond rfl (fun hc2 => ?_) (fun hc2 => ?_)
    · have hlt := put_lt hc2
      refine S_skip ?_
      refine S_block ?_
      refine S_reg [true, true, true] rfl rfl ?_
      refine J_st (R_move rfl) rfl (J_st (R_add rfl rfl (add_nat (by unfold maxLen; omega))) rfl (J_st (R_assign rfl) rfl (J_done ?_)))
      refine S_nil (E_inB ?_)
      refine S_nil (E_again (k + 1) (by omega) ⟨rfl, rfl, rfl, rfl, rfl, trivial⟩ ⟨E, (by omega), h1, ho1, (by omega), (put_step hI hc2)⟩)
    · refine S_exit (E_lp_exit (E_inB_exit ?_))
      refine S_seq ?_
      refine S_reg [true, true, true, false, false, true] rfl rfl ?_
      refine J_st (R_move rfl) rfl (J_st (R_move rfl) rfl (J_st (R_loadS st47 rfl h1.at rfl) rfl ?_))
      refine J_buildSlice (vs := [.agg (Enc.enc x).toArray]) (css := [[.int .i64 x.op, .int .i64 x.epoch, .int .i64 x.key, .int .i64 x.val]]) sl45 rfl rfl ⟨⟨rfl, rfl⟩, trivial⟩ rfl rfl (fun b2 w8 e6 s2 h2 => ?_)
      replace h2 : Blk w8 b2 [.int .i64 x.op, .int .i64 x.epoch, .int .i64 x.key, .int .i64 x.val] := h2
      have g_b2 : w.heap.size ≤ b2 := by have := E.size; omega
      have y_b2 := h2.lt
      replace E := E.trans e6; replace h1 := h1.ext e6; replace ho1 := ho1.ext e6
      have z8 := e6.size
      refine J_callR Try.call70 rfl (by rfl) (c_InsertCell v1 w1.heap.size w2.heap.size xs k b2 x _ ho1 h2 (by omega) (by omega) (by omega) (by omega) (by omega)) rfl (fun v2 w9 e7 ho2 => ?_)
      replace E := E.stepR e7 (by omega); replace h1 := h1.modR e7 (by omega); replace h2 := h2.modR e7 (by omega)
      have z9 := e7.size
      refine J_st (R_assign rfl) rfl (J_done ?_)
      refine S_ret (E_done1 rfl rfl E ?_)
      exact Own.fin ho2 (by omega) (by omega) (by rw [putM_no hc1 hI hk hc2])

set_option maxHeartbeats 4000000 in
set_option maxRecDepth 20000 in
theorem s_PutCell (vxs : Value) (xs : List Cell) (x : Cell) (w : World) (hxs : RdS w vxs xs) (hb : xs.length ≤ 4194304) : Ct Try.prog 38 [vxs, .agg (Enc.enc x).toArray] w (fun v w' => Own w' w.heap.size w'.heap.size 4 v (List.flatMap (Enc.enc (α := Cell)) (putM xs x))) := by
  refine ct_of Try.func38 rfl Try.ntmps38 rfl ?_
  refine S_sub [(0, vxs), (1, .agg (Enc.enc x).toArray)] ⟨rfl, rfl, trivial⟩ ?_
  have E : Ext w w := Ext.refl w
  refine S_seq ?_
  refine S_reg [false, true] rfl rfl ?_
  refine J_box rfl rfl (fun b1 w1 e1 s1 h1 => ?_)
  have g_b1 : w.heap.size ≤ b1 := by have := E.size; omega
  have y_b1 := h1.lt
  replace E := E.trans e1
  have z1 := e1.size
  refine J_st (R_assign rfl) rfl (J_done ?_)
  refine S_seq ?_
  refine S_seq ?_
  refine S_reg [true, true, false] rfl rfl ?_
  refine J_st (R_move rfl) rfl (J_st (R_loadS st47 rfl h1.at rfl) rfl ?_)
  refine J_call Try.call69 rfl (s_HasCell vxs xs x _ (hxs.ext E)) rfl (fun _ w2 e2 hv => ?_)
  subst hv
  replace E := E.trans e2; replace h1 := h1.ext e2
  have z2 := e2.size
  refine J_done ?_
  refine S_cond rfl (fun hc1 => ?_) (fun hc1 => ?_)
  · refine S_seq ?_
    refine S_reg [false, true, false, true] rfl rfl ?_
    refine J_buildSlice (vs := []) (css := []) sl45 rfl rfl trivial rfl rfl (fun b2 w3 e3 s2 h2 => ?_)
    replace h2 : Blk w3 b2 [] := h2
    have g_b2 : w.heap.size ≤ b2 := by have := E.size; omega
    have y_b2 := h2.lt
    replace E := E.trans e3; replace h1 := h1.ext e3
    have z3 := e3.size
    refine J_st (R_move rfl) rfl ?_
    refine J_append sl45 rfl rfl (Own.ofBlk (lo := b2) (hi := b2 + 1) (sz := 4) h2 (Nat.le_refl _) (Nat.lt_succ_self _) (by simp) (by simp [maxLen])) (RdS.src (hxs.ext E)) (flat_one _) (by simp only [sum_flat, List.length_nil, List.length_append, List.length_take, List.length_drop, List.length_cons]; simp only [Enc.sz]; omega) (by decide) (by omega) (by omega) rfl rfl (fun v1 w4 m1 ho1 => ?_)
    replace E := E.step m1 (fun g hg => by have := Own.blk (Own.ofBlk (lo := b2) (hi := b2 + 1) (sz := 4) h2 (Nat.le_refl _) (Nat.lt_succ_self _) (by simp) (by simp [maxLen])) g hg; omega); replace h1 := h1.mod m1 (fun g hg => by have := Own.blk (Own.ofBlk (lo := b2) (hi := b2 + 1) (sz := 4) h2 (Nat.le_refl _) (Nat.lt_succ_self _) (by simp) (by simp [maxLen])) g hg; omega)
    have z4 := m1.size
    refine J_st (R_assign rfl) rfl (J_done ?_)
    refine S_ret (E_done1 rfl rfl E ?_)
    exact Own.fin ho1 (by omega) (by omega) (by simp only [putM_yes hc1, List.nil_append])
  · refine S_skip ?_
    refine S_seq ?_
    refine S_reg [true] rfl rfl ?_
    refine J_st (R_assign rfl) rfl (J_done ?_)
    refine S_seq ?_
    refine S_block ?_
    refine S_loop (fun (k : Nat) => [(0, vxs), (3, .pointer (some ⟨b1, 0, none⟩)), (4, .slice none 0 0), (5, .int .i64 ((k : Nat) : Int))]) (fun (k : Nat) w' => Ext w w' ∧ w2.heap.size ≤ w'.heap.size ∧ Blk w' b1 (Enc.enc x) ∧ k ≤ xs.length ∧ (xs.take k).all (putLt x) = true) (fun (k : Nat) => xs.length - k) 0 ⟨rfl, rfl, rfl, rfl, trivial⟩ ⟨E, Nat.le_refl _, h1, Nat.zero_le _, rfl⟩ ?_
    clear E h1
    rintro k w5 ⟨E, z5, h1, hk, hI⟩
    refine S_seq ?_
    refine S_seq ?_
    refine S_regD mixed [(0, true), (1, true), (2, true), (3, true), (4, true), (5, true), (6, true), (7, true), (8, true), (9, true), (10, false), (11, true), (12, true)] (by decide +kernel) rfl (fun w6 e4 => ?_)
    replace E := E.trans e4; replace h1 := h1.ext e4
    have z6 := e4.size
    refine J_st (R_move rfl) rfl (J_st (R_move rfl) rfl (J_st (R_len Try.underlying45 rfl (hxs.ext E).len) rfl (J_st (R_lss rfl rfl) rfl (J_st (R_move rfl) rfl ?_))))
    refine J_cut 8 [(0, vxs), (3, .pointer (some ⟨b1, 0, none⟩)), (4, .slice none 0 0), (5, .int .i64 ((k : Nat) : Int)), (25, .bool ((decide (((k : Nat) : Int) < ((xs.length : Nat) : Int))) && (decide ((cellOrd (List.getD xs k default) x) < 0))))] (fun w' => Ext w w' ∧ w6.heap.size ≤ w'.heap.size ∧ Blk w' b1 (Enc.enc x)) ?_ ?_
    · refine J_if (gd := 17) rfl rfl (fun hg1 => ?_) (fun hg1 => ?_)
      · have hg1n : k < xs.length := by first | (have h := of_decide_eq_true hg1; omega) | (have h := hg1; simp at h; omega)
        refine J_gd rfl rfl (R_move rfl) rfl (J_gd rfl rfl (R_move rfl) rfl (J_gd rfl rfl (R_index (i := k) sl45 rfl rfl (hxs.ext E) (by first | assumption | omega | (simp only [List.length_set]; first | assumption | omega) | (simp only [List.getElem_set_self, List.length_set]; first | assumption | omega) | (simp only [setW, setLk, List.length_set]; first | assumption | omega) | (simp; done))) rfl (J_gd rfl rfl (R_loadS st47 rfl (RdS.getD (hxs.ext E) (i := k) (by first | assumption | omega | (simp only [List.length_set]; first | assumption | omega) | (simp only [List.getElem_set_self, List.length_set]; first | assumption | omega) | (simp only [setW, setLk, List.length_set]; first | assumption | omega) | (simp; done))) rfl) rfl (J_gd rfl rfl (R_loadS st47 rfl h1.at rfl) rfl ?_))))
        refine J_ung rfl rfl ?_
        refine J_call Try.call43 rfl (s_CellOrder (List.getD xs k default) x _ ) rfl (fun _ w8 e5 hv => ?_)
        subst hv
        replace E := E.trans e5; replace h1 := h1.ext e5
        have z7 := e5.size
        refine J_gd rfl rfl (R_lss rfl rfl) rfl (J_st (R_pickT rfl rfl) rfl (J_cutEnd ⟨rfl, rfl, rfl, rfl, congrArg (fun b => some (Value.bool b)) (show (decide ((cellOrd (List.getD xs k default) x) < 0)) = ((decide (((k : Nat) : Int) < ((xs.length : Nat) : Int))) && (decide ((cellOrd (List.getD xs k default) x) < 0))) by first | (rw [hg1] <;> rfl) | (simp [hg1]; done) | (simp only [nat_nlt] <;> simp)), trivial⟩ ⟨E, (by omega), h1⟩))
      · have hg1n : ¬ k < xs.length := by first | (have h := of_decide_eq_false hg1; omega) | (have h := hg1; simp at h; omega)
        refine J_gdno rfl rfl rfl rfl (J_gdno rfl rfl rfl rfl (J_gdno rfl rfl rfl rfl (J_gdno rfl rfl rfl rfl (J_gdno rfl rfl rfl rfl ?_))))
        refine J_ungno rfl rfl rfl rfl ?_
        refine J_gdno rfl rfl rfl rfl (J_st (R_pickF rfl rfl) rfl (J_cutEnd ⟨rfl, rfl, rfl, rfl, congrArg (fun b => some (Value.bool b)) (show false = ((decide (((k : Nat) : Int) < ((xs.length : Nat) : Int))) && (decide ((cellOrd (List.getD xs k default) x) < 0))) by first | (rw [hg1] <;> rfl) | (simp [hg1]; done) | (simp only [nat_nlt] <;> simp)), trivial⟩ ⟨E, (by omega), h1⟩))
    clear E h1
    rintro w7 ⟨E, z8, h1⟩
    refine J_done ?_
    refine S_cond rfl (fun hc2 => ?_) (fun hc2 => ?_)
    · have hlt := put_lt hc2
      refine S_skip ?_
      refine S_block ?_
      refine S_reg [true, true, true] rfl rfl ?_
      refine J_st (R_move rfl) rfl (J_st (R_add rfl rfl (add_nat (by unfold maxLen; omega))) rfl (J_st (R_assign rfl) rfl (J_done ?_)))
      refine S_nil (E_inB ?_)
      refine S_nil (E_again (k + 1) (by omega) ⟨rfl, rfl, rfl, rfl, trivial⟩ ⟨E, (by omega), h1, (by omega), (put_step hI hc2)⟩)
    · refine S_exit (E_lp_exit (E_inB_exit ?_))
      refine S_seq ?_
      have hk1 : k ≤ xs.length := by first | assumption | omega
      have hs1 : RdS (α := Cell) w (slTo vxs k) (List.take k xs) := RdL.slTo hxs hk1
      refine S_regF mixed [7] 6 34 [33] [(1, true), (2, true), (3, true), (5, true)] [(0, false), (4, false)] [(7, false), (8, true)] (fun b => .slice (some ⟨b, 0, none⟩) 1 1) (z := [.int .i64 x.op, .int .i64 x.epoch, .int .i64 x.key, .int .i64 x.val]) (by decide +kernel) rfl rfl rfl rfl rfl rfl rfl [(0, vxs), (3, .pointer (some ⟨b1, 0, none⟩)), (4, .slice none 0 0), (5, .int .i64 ((k : Nat) : Int)), (25, .bool ((decide (((k : Nat) : Int) < ((xs.length : Nat) : Int))) && (decide ((cellOrd (List.getD xs k default) x) < 0)))), (29, vxs), (30, .int .i64 ((k : Nat) : Int)), (31, slTo vxs k), (33, .agg (Enc.enc x).toArray)] [(33, .agg (Enc.enc x).toArray)] rfl ⟨rfl, trivial⟩ (fun w' => Ext w w' ∧ w7.heap.size ≤ w'.heap.size ∧ Blk w' b1 (Enc.enc x)) (float_lit1 sl45 rfl rfl rfl rfl) (fun w9 e6 => ?_) (fun w9 hphi_w9 => ?_)
      · replace E := E.trans e6; replace h1 := h1.ext e6
        have z9 := e6.size
        refine J_st (R_move rfl) rfl (J_st (R_move rfl) rfl ?_)
        refine J_st (R_sliceTo sl45 rfl rfl (RdL.room (hxs.ext E)) hk1) rfl (J_st (R_loadS st47 rfl h1.at rfl) rfl (J_cutEnd ⟨rfl, rfl, rfl, rfl, rfl, rfl, rfl, rfl, rfl, trivial⟩ ⟨E, (by omega), h1⟩))
      clear E h1
      obtain ⟨E, z10, h1⟩ := hphi_w9
      refine JI_un rfl (fun w10 e7 => ?_) rfl
      replace E := E.trans e7; replace h1 := h1.ext e7
      have z11 := e7.size
      refine J_buildSlice (vs := []) (css := []) sl45 rfl rfl trivial rfl rfl (fun b3 w11 e8 s3 h3 => ?_)
      replace h3 : Blk w11 b3 [] := h3
      have g_b3 : w.heap.size ≤ b3 := by have := E.size; omega
      have y_b3 := h3.lt
      replace E := E.trans e8; replace h1 := h1.ext e8
      have z12 := e8.size
      refine JI_go2 ?_
      refine JI_un rfl (fun w12 e9 => ?_) rfl
      replace E := E.trans e9; replace h1 := h1.ext e9; replace h3 := h3.ext e9
      have z13 := e9.size
      refine J_appendD sl45 rfl rfl (Own.ofBlk (lo := b3) (hi := b3 + 1) (sz := 4) h3 (Nat.le_refl _) (Nat.lt_succ_self _) (by simp) (by simp [maxLen])) ⟨_, _, rfl⟩ (RdS.src (hs1.ext E)) (flat_one _) (by simp only [sum_flat, List.length_nil, List.length_append, List.length_take, List.length_drop, List.length_cons]; simp only [Enc.sz]; omega) (by decide) (by omega) (by omega) rfl (fun v2 w13 e10 ho2 hb_ho2 => ?_)
      replace E := E.trans e10; replace h1 := h1.ext e10
      have z14 := e10.size
      have g_ho2 : w.heap.size ≤ b3 := by have := E.size; omega
      have hn1 : ∀ g, Value.ownBlock v2 = some g → g = b3 ∨ w12.heap.size ≤ g := fun g hg => (hb_ho2 g hg).elim (fun h => .inl (by cases h; rfl)) (fun h => .inr h)
      replace ho2 : Own w13 b3 w13.heap.size 4 v2 (List.flatMap (Enc.enc (α := Cell)) (List.take k xs)) := ho2
      refine JI_go2 ?_
      refine JI_end rfl (fun b4 w14 e11 g1 y1 h4 hI1 => ?_)
      have hI1_0 : b4 < w10.heap.size ∨ w11.heap.size ≤ b4 := hI1 (_, _) (by simp)
      have hI1_1 : b4 < w12.heap.size ∨ w13.heap.size ≤ b4 := hI1 (_, _) (by simp)
      replace E := E.trans e11; replace h1 := h1.ext e11; replace ho2 := ho2.ext e11
      have z15 := e11.size
      have g_b4 : w.heap.size ≤ b4 := by have := E.size; omega
      have y_b4 := h4.lt
      refine J2_sub [(0, vxs), (3, .pointer (some ⟨b1, 0, none⟩)), (4, .slice none 0 0), (5, .int .i64 ((k : Nat) : Int)), (25, .bool ((decide (((k : Nat) : Int) < ((xs.length : Nat) : Int))) && (decide ((cellOrd (List.getD xs k default) x) < 0)))), (28, .slice (some ⟨b3, 0, none⟩) 0 0), (29, vxs), (30, .int .i64 ((k : Nat) : Int)), (31, slTo vxs k), (32, v2), (33, .agg (Enc.enc x).toArray), (34, .slice (some ⟨b4, 0, none⟩) 1 1)] ⟨rfl, rfl, rfl, rfl, rfl, rfl, rfl, rfl, rfl, rfl, rfl, rfl, trivial⟩ ?_
      refine J2_X rfl ?_
      refine J_appendB sl45 rfl rfl ho2 (Src.ofBlk h4 rfl) rfl (by simp only [sum_flat, List.length_nil, List.length_append, List.length_take, List.length_drop, List.length_cons]; simp only [Enc.sz]; omega) (by decide) (by omega) (by omega) rfl rfl (fun v3 w15 m2 ho3 hb1 => ?_)
      have hn2 : ∀ g, Value.ownBlock v3 = some g → g = b3 ∨ w12.heap.size ≤ g := fun g hg => (hb1 g hg).elim (fun h => hn1 g h) (fun h => by omega)
      replace E := E.step m2 (fun g hg => by have := Own.blk ho2 g hg; have := hn1 g hg; omega); replace h1 := h1.mod m2 (fun g hg => by have := Own.blk ho2 g hg; have := hn1 g hg; omega)
      have z16 := m2.size
      refine JX_go ?_
      refine J_st (R_assign rfl) rfl (J_done ?_)
      refine S_seq ?_
      refine S_reg [true, true, true, true, false, true] rfl rfl ?_
      refine J_st (R_move rfl) rfl (J_st (R_move rfl) rfl (J_st (R_move rfl) rfl ?_))
      have hk2 : k ≤ xs.length := by first | assumption | omega
      have hs2 : RdS (α := Cell) w (slFrom vxs k 4) (List.drop k xs) := RdL.slFrom hxs hk2
      refine J_st (R_sliceFrom sl45 rfl rfl (RdL.room (hxs.ext E)) hk2) rfl ?_
      refine J_appendB sl45 rfl rfl ho3 (RdS.src (hs2.ext E)) (flat_one _) (by simp only [sum_flat, List.length_nil, List.length_append, List.length_take, List.length_drop, List.length_cons]; simp only [Enc.sz]; omega) (by decide) (by omega) (by omega) rfl rfl (fun v4 w16 m3 ho4 hb2 => ?_)
      have hn3 : ∀ g, Value.ownBlock v4 = some g → g = b3 ∨ w12.heap.size ≤ g := fun g hg => (hb2 g hg).elim (fun h => hn2 g h) (fun h => by omega)
      replace E := E.step m3 (fun g hg => by have := Own.blk ho3 g hg; have := hn2 g hg; omega); replace h1 := h1.mod m3 (fun g hg => by have := Own.blk ho3 g hg; have := hn2 g hg; omega)
      have z17 := m3.size
      refine J_st (R_assign rfl) rfl (J_done ?_)
      refine S_ret (E_done1 rfl rfl E ?_)
      exact Own.fin ho4 (by omega) (by omega) (by rw [putM_no hc1 hI hk hc2, insM_flat]; rfl)

set_option maxRecDepth 20000 in
theorem c_better1 (y : Cell) (bx : Nat) (x : Cell) (w : World) (hx : At w bx 0 [.int .i64 x.op, .int .i64 x.epoch, .int .i64 x.key, .int .i64 x.val]) : Ct Try.prog 85 [.agg (Enc.enc y).toArray, .pointer (some ⟨bx, 0, none⟩)] w (fun v _ => v = .bool (slot x y)) := by
  refine ct_of Try.func85 rfl Try.ntmps85 rfl ?_
  refine S_sub [(0, .agg (Enc.enc y).toArray), (1, .pointer (some ⟨bx, 0, none⟩))] ⟨rfl, rfl, trivial⟩ ?_
  have E : Ext w w := Ext.refl w
  refine S_seq ?_
  refine S_reg [false, true] rfl rfl ?_
  refine J_box rfl rfl (fun b1 w1 e1 s1 h1 => ?_)
  have g_b1 : w.heap.size ≤ b1 := by have := E.size; omega
  have y_b1 := h1.lt
  replace E := E.trans e1
  have z1 := e1.size
  refine J_st (R_assign rfl) rfl (J_done ?_)
  refine S_seq ?_
  refine S_reg [true, true, false, true] rfl rfl ?_
  refine J_st (R_loadS st47 rfl (hx.ext E) rfl) rfl (J_st (R_loadS st47 rfl h1.at rfl) rfl ?_)
  refine J_call Try.call71 rfl (c_sameSlot x y _ ) rfl (fun _ w2 e2 hv => ?_)
  subst hv
  replace E := E.trans e2; replace h1 := h1.ext e2
  have z2 := e2.size
  refine J_st (R_assign rfl) rfl (J_done ?_)
  refine S_ret (E_done1 rfl rfl E ?_)
  rfl

set_option maxRecDepth 20000 in
theorem c_better (vxs : Value) (xs : List Cell) (x : Cell) (w : World) (hxs : RdS w vxs xs) (hb : xs.length ≤ 4194304) : Ct Try.prog 67 [vxs, .agg (Enc.enc x).toArray] w (fun v w' => ∃ u0, v = .tuple [u0, .bool ((betterM xs x).2)].toArray ∧ Own w' w.heap.size w'.heap.size 4 u0 (List.flatMap (Enc.enc (α := Cell)) ((betterM xs x).1))) := by
  refine ct_of Try.func67 rfl Try.ntmps67 rfl ?_
  refine S_sub [(0, vxs), (1, .agg (Enc.enc x).toArray)] ⟨rfl, rfl, trivial⟩ ?_
  have E : Ext w w := Ext.refl w
  refine S_seq ?_
  refine S_reg [false, true, true] rfl rfl ?_
  refine J_box rfl rfl (fun b1 w1 e1 s1 h1 => ?_)
  have g_b1 : w.heap.size ≤ b1 := by have := E.size; omega
  have y_b1 := h1.lt
  replace E := E.trans e1
  have z1 := e1.size
  refine J_st (R_assign rfl) rfl (J_st (R_assign rfl) rfl (J_done ?_))
  refine S_seq ?_
  refine S_seq ?_
  refine S_reg [true, true, true, true, true, true, true, false, true, true, true, true, true] rfl rfl ?_
  refine J_st (R_move rfl) rfl (J_st (R_fieldAddr0 fl47_0 rfl) rfl (J_st (R_load sc3 rfl (h1.one 0 rfl)) rfl (J_st (R_fieldAddr0 fl47_1 rfl) rfl (J_st (R_load sc3 rfl (h1.one 1 rfl)) rfl (J_st (R_fieldAddr0 fl47_2 rfl) rfl (J_st (R_load sc3 rfl (h1.one 2 rfl)) rfl ?_))))))
  refine J_call Try.call34 rfl (c_LeastOf vxs xs x.op x.epoch x.key _ (hxs.ext E)) rfl (fun _ w2 e2 hv => ?_)
  subst hv
  replace E := E.trans e2; replace h1 := h1.ext e2
  have z2 := e2.size
  refine J_st (R_move rfl) rfl (J_st (R_extract rfl rfl) rfl (J_st (R_extract rfl rfl) rfl (J_st (R_assign rfl) rfl (J_st (R_assign rfl) rfl (J_done ?_)))))
  refine S_seq ?_
  refine S_reg [true, true, true, true, true, true, true] rfl rfl ?_
  refine J_st (R_move rfl) rfl (J_st (R_move rfl) rfl ?_)
  refine J_cut 5 [(0, vxs), (1, .agg (Enc.enc x).toArray), (3, .pointer (some ⟨b1, 0, none⟩)), (4, .slice none 0 0), (5, .bool false), (6, .int .i64 ((leastM xs x.op x.epoch x.key).1)), (7, .bool ((leastM xs x.op x.epoch x.key).2)), (9, .tuple [.int .i64 ((leastM xs x.op x.epoch x.key).1), .bool ((leastM xs x.op x.epoch x.key).2)].toArray), (10, vxs), (11, .pointer (some ⟨b1, 0, none⟩)), (12, .int .i64 x.op), (13, .pointer (some ⟨b1, 1, none⟩)), (14, .int .i64 x.epoch), (15, .pointer (some ⟨b1, 2, none⟩)), (16, .int .i64 x.key), (17, .tuple [.int .i64 ((leastM xs x.op x.epoch x.key).1), .bool ((leastM xs x.op x.epoch x.key).2)].toArray), (18, .int .i64 ((leastM xs x.op x.epoch x.key).1)), (19, .bool ((leastM xs x.op x.epoch x.key).2)), (26, .bool (((leastM xs x.op x.epoch x.key).2) && (decide (((leastM xs x.op x.epoch x.key).1) ≤ x.val))))] (fun w' => w2 = w') ?_ ?_
  · refine J_if (gd := 21) rfl rfl (fun hg1 => ?_) (fun hg1 => ?_)
    · refine J_gd rfl rfl (R_move rfl) rfl (J_gd rfl rfl (R_fieldAddr0 fl47_3 rfl) rfl (J_gd rfl rfl (R_load sc3 rfl (h1.one 3 rfl)) rfl (J_gd rfl rfl (R_leq rfl rfl) rfl (J_st (R_pickT rfl rfl) rfl (J_cutEnd ⟨rfl, rfl, rfl, rfl, rfl, rfl, rfl, rfl, rfl, rfl, rfl, rfl, rfl, rfl, rfl, rfl, rfl, rfl, congrArg (fun b => some (Value.bool b)) (show (decide (((leastM xs x.op x.epoch x.key).1) ≤ x.val)) = (((leastM xs x.op x.epoch x.key).2) && (decide (((leastM xs x.op x.epoch x.key).1) ≤ x.val))) by first | (rw [hg1] <;> rfl) | (simp [hg1]; done) | (simp only [nat_nlt] <;> simp)), trivial⟩ rfl)))))
    · refine J_gdno rfl rfl rfl rfl (J_gdno rfl rfl rfl rfl (J_gdno rfl rfl rfl rfl (J_gdno rfl rfl rfl rfl (J_st (R_pickF rfl rfl) rfl (J_cutEnd ⟨rfl, rfl, rfl, rfl, rfl, rfl, rfl, rfl, rfl, rfl, rfl, rfl, rfl, rfl, rfl, rfl, rfl, rfl, congrArg (fun b => some (Value.bool b)) (show false = (((leastM xs x.op x.epoch x.key).2) && (decide (((leastM xs x.op x.epoch x.key).1) ≤ x.val))) by first | (rw [hg1] <;> rfl) | (simp [hg1]; done) | (simp only [nat_nlt] <;> simp)), trivial⟩ rfl)))))
  rintro _ rfl
  refine J_done ?_
  refine S_cond rfl (fun hc1 => ?_) (fun hc1 => ?_)
  · refine S_seq ?_
    refine S_reg [true, false, true, true] rfl rfl ?_
    refine J_st (R_move rfl) rfl ?_
    refine J_call Try.call68 rfl (c_copyCells vxs xs _ (hxs.ext E) (by first | omega | (simp only [mkL_length]; omega) | (rw [mkL_length]; done) | (simp only [mkL_length]; done))) rfl (fun v1 w4 e3 ho1 => ?_)
    have g_ho1 : w.heap.size ≤ w2.heap.size := E.size
    replace E := E.trans e3; replace h1 := h1.ext e3
    have z3 := e3.size
    refine J_st (R_assign rfl) rfl (J_st (R_assign rfl) rfl (J_done ?_))
    refine S_ret (E_doneN (l := [.tmp 4, .tmp 5]) (vs := [v1, .bool false]) rfl ⟨.tmp rfl, .tmp rfl, trivial⟩ rfl E ?_)
    rw [betterM_yes hc1]
    exact ⟨_, rfl, Own.fin ho1 (by omega) (by omega) rfl⟩
  · refine S_skip ?_
    refine S_seq ?_
    refine S_reg [true, false, true, false, true] rfl rfl ?_
    refine J_st (R_move rfl) rfl ?_
    refine J_call Try.call68 rfl (c_copyCells vxs xs _ (hxs.ext E) (by first | omega | (simp only [mkL_length]; omega) | (rw [mkL_length]; done) | (simp only [mkL_length]; done))) rfl (fun v2 w5 e4 ho2 => ?_)
    have g_ho2 : w.heap.size ≤ w2.heap.size := E.size
    replace E := E.trans e4; replace h1 := h1.ext e4
    have z4 := e4.size
    refine J_st (R_makeFunc rfl rfl) rfl ?_
    refine J_callR Try.call84 rfl (by rfl) (c_DeleteFuncCell v2 w2.heap.size w5.heap.size xs (.func (.func 85) [].toArray [.pointer (some ⟨b1, 0, none⟩)].toArray) ((fun (y : Cell) => slot x y)) _ ho2 ⟨85, [], [.pointer (some ⟨b1, 0, none⟩)], rfl, Try.call85, fun y wX eX => c_better1 y b1 x wX (At.modR (Blk.at h1) eX (by omega))⟩ (by omega)) rfl (fun v3 w6 e5 ho3 => ?_)
    replace E := E.stepR e5 (by omega); replace h1 := h1.modR e5 (by omega)
    have z5 := e5.size
    refine J_st (R_assign rfl) rfl (J_done ?_)
    refine S_seq ?_
    refine S_reg [true, true, false, true, true] rfl rfl ?_
    refine J_st (R_move rfl) rfl (J_st (R_loadS st47 rfl h1.at rfl) rfl ?_)
    refine J_call Try.call32 rfl (c_PutCell v3 (List.filter (fun y => !((fun (y : Cell) => slot x y) y)) xs) x _ (Own.rd (by decide) ho3) (Nat.le_trans (List.length_filter_le _ _) (by omega))) rfl (fun v4 w7 e6 ho4 => ?_)
    have g_ho4 : w.heap.size ≤ w6.heap.size := E.size
    replace E := E.trans e6; replace h1 := h1.ext e6; replace ho3 := ho3.ext e6
    have z6 := e6.size
    refine J_st (R_assign rfl) rfl (J_st (R_assign rfl) rfl (J_done ?_))
    refine S_ret (E_doneN (l := [.tmp 4, .tmp 5]) (vs := [v4, .bool true]) rfl ⟨.tmp rfl, .tmp rfl, trivial⟩ rfl E ?_)
    rw [betterM_no hc1]
    exact ⟨_, rfl, Own.fin ho4 (by omega) (by omega) rfl⟩

set_option maxRecDepth 20000 in
theorem c_Recall (kind : Int) (vxs : Value) (xs : List Cell) (x : Cell) (w : World) (hxs : RdS w vxs xs) (hb : xs.length ≤ 4194304) : Ct Try.prog 26 [.int .i64 kind, vxs, .agg (Enc.enc x).toArray] w (fun v w' => ∃ u0, v = .tuple [u0, .bool ((recallM kind xs x).2)].toArray ∧ Own w' w.heap.size w'.heap.size 4 u0 (List.flatMap (Enc.enc (α := Cell)) ((recallM kind xs x).1))) := by
  refine ct_of Try.func26 rfl Try.ntmps26 rfl ?_
  refine S_sub [(0, .int .i64 kind), (1, vxs), (2, .agg (Enc.enc x).toArray)] ⟨rfl, rfl, rfl, trivial⟩ ?_
  have E : Ext w w := Ext.refl w
  refine S_seq ?_
  refine S_reg [false, true, true] rfl rfl ?_
  refine J_box rfl rfl (fun b1 w1 e1 s1 h1 => ?_)
  have g_b1 : w.heap.size ≤ b1 := by have := E.size; omega
  have y_b1 := h1.lt
  replace E := E.trans e1
  have z1 := e1.size
  refine J_st (R_assign rfl) rfl (J_st (R_assign rfl) rfl (J_done ?_))
  refine S_seq ?_
  refine S_seq ?_
  refine S_reg [true] rfl rfl ?_
  refine J_st (R_move rfl) rfl (J_done ?_)
  refine S_block ?_
  refine S_seq ?_
  refine S_seq ?_
  refine S_reg [true, true] rfl rfl ?_
  refine J_st (R_eql rfl rfl) rfl (J_st (R_assign rfl) rfl (J_done ?_))
  refine S_cond rfl (fun hc1 => ?_) (fun hc1 => ?_)
  · refine S_skip ?_
    refine S_condTe rfl hc1 ?_
    refine S_seq ?_
    refine S_reg [true, true, false, true, true, true, true] rfl rfl ?_
    refine J_st (R_move rfl) rfl (J_st (R_loadS st47 rfl h1.at rfl) rfl ?_)
    refine J_call Try.call67 rfl (c_better vxs xs x _ (hxs.ext E) (by first | omega | (simp only [mkL_length]; omega) | (rw [mkL_length]; done) | (simp only [mkL_length]; done))) rfl (fun _ w2 e2 ho1 => ?_)
    obtain ⟨v1, rfl, ho2⟩ := ho1
    have g_ho1 : w.heap.size ≤ w1.heap.size := E.size
    replace E := E.trans e2; replace h1 := h1.ext e2
    have z2 := e2.size
    refine J_st (R_extract rfl rfl) rfl (J_st (R_extract rfl rfl) rfl (J_st (R_assign rfl) rfl (J_st (R_assign rfl) rfl (J_done ?_))))
    refine S_ret (E_inB_ret (E_doneN (l := [.tmp 6, .tmp 7]) (vs := [v1, .bool ((betterM xs x).2)]) rfl ⟨.tmp rfl, .tmp rfl, trivial⟩ rfl E ?_))
    rw [recallM_b (.inl (by assumption))]
    exact ⟨_, rfl, Own.fin ho2 (by omega) (by omega) rfl⟩
  · refine S_reg [true, true] rfl rfl ?_
    refine J_st (R_eql rfl rfl) rfl (J_st (R_assign rfl) rfl (J_done ?_))
    refine S_cond rfl (fun hc2 => ?_) (fun hc2 => ?_)
    · refine S_seq ?_
      refine S_reg [true, true, false, true, true, true, true] rfl rfl ?_
      refine J_st (R_move rfl) rfl (J_st (R_loadS st47 rfl h1.at rfl) rfl ?_)
      refine J_call Try.call67 rfl (c_better vxs xs x _ (hxs.ext E) (by first | omega | (simp only [mkL_length]; omega) | (rw [mkL_length]; done) | (simp only [mkL_length]; done))) rfl (fun _ w3 e3 ho3 => ?_)
      obtain ⟨v2, rfl, ho4⟩ := ho3
      have g_ho3 : w.heap.size ≤ w1.heap.size := E.size
      replace E := E.trans e3; replace h1 := h1.ext e3
      have z3 := e3.size
      refine J_st (R_extract rfl rfl) rfl (J_st (R_extract rfl rfl) rfl (J_st (R_assign rfl) rfl (J_st (R_assign rfl) rfl (J_done ?_))))
      refine S_ret (E_inB_ret (E_doneN (l := [.tmp 6, .tmp 7]) (vs := [v2, .bool ((betterM xs x).2)]) rfl ⟨.tmp rfl, .tmp rfl, trivial⟩ rfl E ?_))
      rw [recallM_b (.inr (by assumption))]
      exact ⟨_, rfl, Own.fin ho4 (by omega) (by omega) rfl⟩
    · refine S_seq ?_
      refine S_reg [true, true] rfl rfl ?_
      refine J_st (R_eql rfl rfl) rfl (J_st (R_assign rfl) rfl (J_done ?_))
      refine S_cond rfl (fun hc3 => ?_) (fun hc3 => ?_)
      · refine S_seq ?_
        refine S_regD mixed [(0, true), (1, true), (3, true), (4, true), (2, false), (5, false), (6, true), (7, true), (8, true)] (by decide +kernel) rfl (fun w4 e4 => ?_)
        replace E := E.trans e4; replace h1 := h1.ext e4
        have z4 := e4.size
        refine J_st (R_move rfl) rfl (J_st (R_loadS st47 rfl h1.at rfl) rfl (J_st (R_move rfl) rfl (J_st (R_loadS st47 rfl h1.at rfl) rfl ?_)))
        refine J_call Try.call32 rfl (c_PutCell vxs xs x _ (hxs.ext E) (by first | omega | (simp only [mkL_length]; omega) | (rw [mkL_length]; done) | (simp only [mkL_length]; done))) rfl (fun v3 w5 e5 ho5 => ?_)
        have g_ho5 : w.heap.size ≤ w4.heap.size := E.size
        replace E := E.trans e5; replace h1 := h1.ext e5
        have z5 := e5.size
        refine J_call Try.call39 rfl (c_HasCell vxs xs x _ (hxs.ext E)) rfl (fun _ w6 e6 hv => ?_)
        subst hv
        replace E := E.trans e6; replace h1 := h1.ext e6; replace ho5 := ho5.ext e6
        have z6 := e6.size
        refine J_st (R_not rfl) rfl (J_st (R_assign rfl) rfl (J_st (R_assign rfl) rfl (J_done ?_)))
        refine S_ret (E_inB_ret (E_doneN (l := [.tmp 6, .tmp 7]) (vs := [v3, .bool (!(decide (x ∈ xs)))]) rfl ⟨.tmp rfl, .tmp rfl, trivial⟩ rfl E ?_))
        rw [recallM_n (by assumption)]
        exact ⟨_, rfl, Own.fin ho5 (by omega) (by omega) rfl⟩
      · refine S_skip ?_
        refine S_nil (E_inB ?_)
        refine S_seq ?_
        refine S_reg [true, false, true, true] rfl rfl ?_
        refine J_st (R_move rfl) rfl ?_
        refine J_call Try.call68 rfl (c_copyCells vxs xs _ (hxs.ext E) (by first | omega | (simp only [mkL_length]; omega) | (rw [mkL_length]; done) | (simp only [mkL_length]; done))) rfl (fun v4 w7 e7 ho6 => ?_)
        have g_ho6 : w.heap.size ≤ w1.heap.size := E.size
        replace E := E.trans e7; replace h1 := h1.ext e7
        have z7 := e7.size
        refine J_st (R_assign rfl) rfl (J_st (R_assign rfl) rfl (J_done ?_))
        refine S_ret (E_doneN (l := [.tmp 6, .tmp 7]) (vs := [v4, .bool true]) rfl ⟨.tmp rfl, .tmp rfl, trivial⟩ rfl E ?_)
        rw [recallM_o (by assumption) (by assumption) (by assumption)]
        exact ⟨_, rfl, Own.fin ho6 (by omega) (by omega) rfl⟩

set_option maxHeartbeats 4000000 in
set_option maxRecDepth 20000 in
theorem s_Recall (kind : Int) (vxs : Value) (xs : List Cell) (x : Cell) (w : World) (hxs : RdS w vxs xs) (hb : xs.length ≤ 4194304) : Ct Try.prog 27 [.int .i64 kind, vxs, .agg (Enc.enc x).toArray] w (fun v w' => ∃ u0, v = .tuple [u0, .bool ((recallM kind xs x).2)].toArray ∧ Own w' w.heap.size w'.heap.size 4 u0 (List.flatMap (Enc.enc (α := Cell)) ((recallM kind xs x).1))) := by
  refine ct_of Try.func27 rfl Try.ntmps27 rfl ?_
  refine S_sub [(0, .int .i64 kind), (1, vxs), (2, .agg (Enc.enc x).toArray)] ⟨rfl, rfl, rfl, trivial⟩ ?_
  have E : Ext w w := Ext.refl w
  refine S_seq ?_
  refine S_reg [false, true, true] rfl rfl ?_
  refine J_box rfl rfl (fun b1 w1 e1 s1 h1 => ?_)
  have g_b1 : w.heap.size ≤ b1 := by have := E.size; omega
  have y_b1 := h1.lt
  replace E := E.trans e1
  have z1 := e1.size
  refine J_st (R_assign rfl) rfl (J_st (R_assign rfl) rfl (J_done ?_))
  refine S_seq ?_
  refine S_reg [false, true, false, true] rfl rfl ?_
  refine J_buildSlice (vs := []) (css := []) sl45 rfl rfl trivial rfl rfl (fun b2 w2 e2 s2 h2 => ?_)
  replace h2 : Blk w2 b2 [] := h2
  have g_b2 : w.heap.size ≤ b2 := by have := E.size; omega
  have y_b2 := h2.lt
  replace E := E.trans e2; replace h1 := h1.ext e2
  have z2 := e2.size
  refine J_st (R_move rfl) rfl ?_
  refine J_append sl45 rfl rfl (Own.ofBlk (lo := b2) (hi := b2 + 1) (sz := 4) h2 (Nat.le_refl _) (Nat.lt_succ_self _) (by simp) (by simp [maxLen])) (RdS.src (hxs.ext E)) (flat_one _) (by first | (simp only [sum_flat, List.length_nil, List.length_cons]; simp only [Enc.sz]; omega) | (have h := filt_len xs (fun y => !(slot x y)) k; simp only [show Enc.sz Cell = 4 from rfl] at h; simp only [List.length_cons, List.length_nil]; omega)) (by decide) (by omega) (by omega) rfl rfl (fun v1 w3 m1 ho1 => ?_)
  replace E := E.step m1 (fun g hg => by have := Own.blk (Own.ofBlk (lo := b2) (hi := b2 + 1) (sz := 4) h2 (Nat.le_refl _) (Nat.lt_succ_self _) (by simp) (by simp [maxLen])) g hg; omega); replace h1 := h1.mod m1 (fun g hg => by have := Own.blk (Own.ofBlk (lo := b2) (hi := b2 + 1) (sz := 4) h2 (Nat.le_refl _) (Nat.lt_succ_self _) (by simp) (by simp [maxLen])) g hg; omega)
  have z3 := m1.size
  refine J_st (R_assign rfl) rfl (J_done ?_)
  refine S_seq ?_
  refine S_seq ?_
  refine S_reg [true] rfl rfl ?_
  refine J_st (R_move rfl) rfl (J_done ?_)
  refine S_block ?_
  refine S_seq ?_
  refine S_reg [true, true] rfl rfl ?_
  refine J_st (R_eql rfl rfl) rfl (J_st (R_assign rfl) rfl (J_done ?_))
  refine S_cond rfl (fun hc1 => ?_) (fun hc1 => ?_)
  · refine S_seq ?_
    refine S_seq ?_
    refine S_reg [true, true, false] rfl rfl ?_
    refine J_st (R_move rfl) rfl (J_st (R_loadS st47 rfl h1.at rfl) rfl ?_)
    refine J_call Try.call69 rfl (s_HasCell vxs xs x _ (hxs.ext E)) rfl (fun _ w4 e3 hv => ?_)
    subst hv
    replace E := E.trans e3; replace h1 := h1.ext e3; replace ho1 := ho1.ext e3
    have z4 := e3.size
    refine J_done ?_
    refine S_cond rfl (fun hc2 => ?_) (fun hc2 => ?_)
    · refine S_seq ?_
      refine S_reg [true, true, true] rfl rfl ?_
      refine J_st (R_move rfl) rfl (J_st (R_assign rfl) rfl (J_st (R_assign rfl) rfl (J_done ?_)))
      refine S_ret (E_inB_ret (E_doneN (l := [.tmp 6, .tmp 7]) (vs := [v1, .bool false]) rfl ⟨.tmp rfl, .tmp rfl, trivial⟩ rfl E ?_))
      rw [recallM_h (by assumption) (by assumption)]
      exact ⟨_, rfl, Own.fin ho1 (by omega) (by omega) (by first | rfl | simp only [List.nil_append])⟩
    · refine S_skip ?_
      refine S_seq ?_
      refine S_reg [true, true, false, true, true] rfl rfl ?_
      refine J_st (R_move rfl) rfl (J_st (R_loadS st47 rfl h1.at rfl) rfl ?_)
      refine J_call Try.call38 rfl (s_PutCell vxs xs x _ (hxs.ext E) (by omega)) rfl (fun v2 w5 e4 ho2 => ?_)
      have g_ho2 : w.heap.size ≤ w4.heap.size := E.size
      replace E := E.trans e4; replace h1 := h1.ext e4; replace ho1 := ho1.ext e4
      have z5 := e4.size
      refine J_st (R_assign rfl) rfl (J_st (R_assign rfl) rfl (J_done ?_))
      refine S_ret (E_inB_ret (E_doneN (l := [.tmp 6, .tmp 7]) (vs := [v2, .bool true]) rfl ⟨.tmp rfl, .tmp rfl, trivial⟩ rfl E ?_))
      rw [recallM_i (by assumption) (by assumption)]
      exact ⟨_, rfl, Own.fin ho2 (by omega) (by omega) (by first | rfl | simp only [List.nil_append])⟩
  · refine S_seq ?_
    refine S_seq ?_
    refine S_reg [true, true] rfl rfl ?_
    refine J_st (R_eql rfl rfl) rfl (J_st (R_assign rfl) rfl (J_done ?_))
    refine S_cond rfl (fun hc3 => ?_) (fun hc3 => ?_)
    · refine S_skip ?_
      refine S_condTe rfl hc3 ?_
      refine S_seq ?_
      refine S_reg [true, true, true, true, true, true, true, false, true, true, true, true, true] rfl rfl ?_
      refine J_st (R_move rfl) rfl (J_st (R_fieldAddr0 fl47_0 rfl) rfl (J_st (R_load sc3 rfl (h1.one 0 rfl)) rfl (J_st (R_fieldAddr0 fl47_1 rfl) rfl (J_st (R_load sc3 rfl (h1.one 1 rfl)) rfl (J_st (R_fieldAddr0 fl47_2 rfl) rfl (J_st (R_load sc3 rfl (h1.one 2 rfl)) rfl ?_))))))
      refine J_call Try.call35 rfl (s_LeastOf vxs xs x.op x.epoch x.key _ (hxs.ext E)) rfl (fun _ w6 e5 hv => ?_)
      subst hv
      replace E := E.trans e5; replace h1 := h1.ext e5; replace ho1 := ho1.ext e5
      have z6 := e5.size
      refine J_st (R_move rfl) rfl (J_st (R_extract rfl rfl) rfl (J_st (R_extract rfl rfl) rfl (J_st (R_assign rfl) rfl (J_st (R_assign rfl) rfl (J_done ?_)))))
      refine S_seq ?_
      refine S_seq ?_
      refine S_reg [true, true, true, true, true, true, true] rfl rfl ?_
      refine J_st (R_move rfl) rfl (J_st (R_move rfl) rfl ?_)
      refine J_cut 5 [(0, .int .i64 kind), (1, vxs), (2, .agg (Enc.enc x).toArray), (5, .pointer (some ⟨b1, 0, none⟩)), (6, .slice none 0 0), (7, .bool false), (8, v1), (9, .int .i64 ((leastM xs x.op x.epoch x.key).1)), (10, .bool ((leastM xs x.op x.epoch x.key).2)), (13, .slice (some ⟨b2, 0, none⟩) 0 0), (14, vxs), (15, v1), (16, .int .i64 kind), (17, .bool (kind == 6)), (18, .bool (kind == 6)), (26, .bool (kind == 5)), (27, .bool (kind == 5)), (29, .tuple [.int .i64 ((leastM xs x.op x.epoch x.key).1), .bool ((leastM xs x.op x.epoch x.key).2)].toArray), (30, vxs), (31, .pointer (some ⟨b1, 0, none⟩)), (32, .int .i64 x.op), (33, .pointer (some ⟨b1, 1, none⟩)), (34, .int .i64 x.epoch), (35, .pointer (some ⟨b1, 2, none⟩)), (36, .int .i64 x.key), (37, .tuple [.int .i64 ((leastM xs x.op x.epoch x.key).1), .bool ((leastM xs x.op x.epoch x.key).2)].toArray), (38, .int .i64 ((leastM xs x.op x.epoch x.key).1)), (39, .bool ((leastM xs x.op x.epoch x.key).2)), (46, .bool (((leastM xs x.op x.epoch x.key).2) && (decide (((leastM xs x.op x.epoch x.key).1) ≤ x.val))))] (fun w' => w6 = w') ?_ ?_
      · refine J_if (gd := 41) rfl rfl (fun hg1 => ?_) (fun hg1 => ?_)
        · refine J_gd rfl rfl (R_move rfl) rfl (J_gd rfl rfl (R_fieldAddr0 fl47_3 rfl) rfl (J_gd rfl rfl (R_load sc3 rfl (h1.one 3 rfl)) rfl (J_gd rfl rfl (R_leq rfl rfl) rfl (J_st (R_pickT rfl rfl) rfl (J_cutEnd ⟨rfl, rfl, rfl, rfl, rfl, rfl, rfl, rfl, rfl, rfl, rfl, rfl, rfl, rfl, rfl, rfl, rfl, rfl, rfl, rfl, rfl, rfl, rfl, rfl, rfl, rfl, rfl, rfl, congrArg (fun b => some (Value.bool b)) (show (decide (((leastM xs x.op x.epoch x.key).1) ≤ x.val)) = (((leastM xs x.op x.epoch x.key).2) && (decide (((leastM xs x.op x.epoch x.key).1) ≤ x.val))) by first | (rw [hg1] <;> rfl) | (simp [hg1]; done) | (simp only [nat_nlt] <;> simp)), trivial⟩ rfl)))))
        · refine J_gdno rfl rfl rfl rfl (J_gdno rfl rfl rfl rfl (J_gdno rfl rfl rfl rfl (J_gdno rfl rfl rfl rfl (J_st (R_pickF rfl rfl) rfl (J_cutEnd ⟨rfl, rfl, rfl, rfl, rfl, rfl, rfl, rfl, rfl, rfl, rfl, rfl, rfl, rfl, rfl, rfl, rfl, rfl, rfl, rfl, rfl, rfl, rfl, rfl, rfl, rfl, rfl, rfl, congrArg (fun b => some (Value.bool b)) (show false = (((leastM xs x.op x.epoch x.key).2) && (decide (((leastM xs x.op x.epoch x.key).1) ≤ x.val))) by first | (rw [hg1] <;> rfl) | (simp [hg1]; done) | (simp only [nat_nlt] <;> simp)), trivial⟩ rfl)))))
      rintro _ rfl
      refine J_done ?_
      refine S_cond rfl (fun hc4 => ?_) (fun hc4 => ?_)
      · refine S_seq ?_
        refine S_reg [true, true, true] rfl rfl ?_
        refine J_st (R_move rfl) rfl (J_st (R_assign rfl) rfl (J_st (R_assign rfl) rfl (J_done ?_)))
        refine S_ret (E_inB_ret (E_doneN (l := [.tmp 6, .tmp 7]) (vs := [v1, .bool false]) rfl ⟨.tmp rfl, .tmp rfl, trivial⟩ rfl E ?_))
        rw [recallM_b (.inl (by assumption)), betterM_yes (by assumption)]
        exact ⟨_, rfl, Own.fin ho1 (by omega) (by omega) (by first | rfl | simp only [List.nil_append])⟩
      · refine S_skip ?_
        refine S_seq ?_
        refine S_reg [false, true] rfl rfl ?_
        refine J_buildSlice (vs := []) (css := []) sl45 rfl rfl trivial rfl rfl (fun b3 w8 e6 s3 h3 => ?_)
        replace h3 : Blk w8 b3 [] := h3
        have g_b3 : w.heap.size ≤ b3 := by have := E.size; omega
        have y_b3 := h3.lt
        replace E := E.trans e6; replace h1 := h1.ext e6; replace ho1 := ho1.ext e6
        have z7 := e6.size
        refine J_st (R_assign rfl) rfl (J_done ?_)
        refine S_seq ?_
        refine S_seq ?_
        refine S_reg [true] rfl rfl ?_
        refine J_st (R_assign rfl) rfl (J_done ?_)
        refine S_block ?_
        refine S_loop (fun (xq : Nat × Value) => let ⟨k, vo⟩ := xq; [(1, vxs), (5, .pointer (some ⟨b1, 0, none⟩)), (6, .slice none 0 0), (7, .bool false), (8, v1), (11, vo), (12, .int .i64 ((k : Nat) : Int))]) (fun (xq : Nat × Value) w' => let ⟨k, vo⟩ := xq; Ext w w' ∧ w8.heap.size ≤ w'.heap.size ∧ Blk w' b1 (Enc.enc x) ∧ Own w' b2 w3.heap.size 4 v1 ([] ++ List.flatMap (Enc.enc (α := Cell)) xs) ∧ k ≤ xs.length ∧ Own w' b3 w'.heap.size 4 vo (List.flatMap (Enc.enc (α := Cell)) ((xs.take k).filter (fun y => !(slot x y))))) (fun (xq : Nat × Value) => let ⟨k, vo⟩ := xq; xs.length - k) (0, .slice (some ⟨b3, 0, none⟩) 0 0) ⟨rfl, rfl, rfl, rfl, rfl, rfl, rfl, trivial⟩ ⟨E, Nat.le_refl _, h1, ho1, Nat.zero_le _, Own.fin (Own.ofBlk (lo := b3) (hi := b3 + 1) (sz := 4) h3 (Nat.le_refl _) (Nat.lt_succ_self _) (by simp) (by simp [maxLen])) (by have := E.size; omega) (by omega) rfl⟩ ?_
        clear E h1 ho1 h3
        rintro ⟨k, vo⟩ w9 ⟨E, z8, h1, ho1, hk, ho⟩
        refine S_sub [(1, vxs), (5, .pointer (some ⟨b1, 0, none⟩)), (6, .slice none 0 0), (7, .bool false), (8, v1), (11, vo), (12, .int .i64 ((k : Nat) : Int))] ⟨rfl, rfl, rfl, rfl, rfl, rfl, rfl, trivial⟩ ?_
        refine S_seq ?_
        refine S_seq ?_
        refine S_reg [true, true, true, true] rfl rfl ?_
        refine J_st (R_move rfl) rfl (J_st (R_move rfl) rfl (J_st (R_len Try.underlying45 rfl (hxs.ext E).len) rfl (J_st (R_lss rfl rfl) rfl (J_done ?_))))
        refine S_cond rfl (fun hc5 => ?_) (fun hc5 => ?_)
        · have hc5n : k < xs.length := by first | (have h := of_decide_eq_true hc5; omega) | (have h := hc5; simp at h; omega)
          refine S_skip ?_
          refine S_seq ?_
          refine S_block ?_
          refine S_seq ?_
          refine S_regD mixed [(0, true), (1, true), (2, true), (3, true), (4, true), (5, true), (6, true), (7, true), (8, true), (9, true), (10, true), (11, true), (12, true), (13, true), (14, true), (15, true), (16, true), (17, true), (18, true), (19, true), (20, true), (21, true), (22, true), (23, true), (24, true), (25, true), (26, true), (27, true)] (by decide +kernel) rfl (fun w10 e7 => ?_)
          replace E := E.trans e7; replace h1 := h1.ext e7; replace ho1 := ho1.ext e7; replace ho := ho.ext e7
          have z9 := e7.size
          refine J_st (R_move rfl) rfl (J_st (R_move rfl) rfl ?_)
          have hi1 : k < xs.length := (by first | assumption | omega | (simp only [List.length_set]; first | assumption | omega) | (simp only [List.getElem_set_self, List.length_set]; first | assumption | omega) | (simp only [setW, setLk, List.length_set]; first | assumption | omega) | (simp; done))
          refine J_st (R_index (i := k) sl45 rfl rfl (hxs.ext E) hi1) rfl (J_st (R_fieldAddr fl47_0 rfl) rfl (J_st (R_load sc3 rfl (((hxs.ext E).get hi1).one 0 rfl)) rfl (J_st (R_fieldAddr0 fl47_0 rfl) rfl (J_st (R_load sc3 rfl (h1.one 0 rfl)) rfl (J_st (R_neq rfl rfl) rfl (J_st (R_move rfl) rfl ?_))))))
          refine J_cut 19 [(1, vxs), (5, .pointer (some ⟨b1, 0, none⟩)), (6, .slice none 0 0), (7, .bool false), (8, v1), (11, vo), (12, .int .i64 ((k : Nat) : Int)), (49, .int .i64 ((k : Nat) : Int)), (50, vxs), (51, .int .i64 ((xs.length : Nat) : Int)), (52, .bool (decide (((k : Nat) : Int) < ((xs.length : Nat) : Int)))), (82, .bool (((((xs[k]'hi1).op) != x.op) || (((xs[k]'hi1).epoch) != x.epoch)) || (((xs[k]'hi1).key) != x.key)))] (fun w' => w10 = w') ?_ ?_
          · refine J_if (gd := 63) rfl rfl (fun hg2 => ?_) (fun hg2 => ?_)
            · refine J_gdno rfl rfl rfl rfl (J_gdno rfl rfl rfl rfl (J_gdno rfl rfl rfl rfl (J_gdno rfl rfl rfl rfl (J_gdno rfl rfl rfl rfl (J_gdno rfl rfl rfl rfl (J_gdno rfl rfl rfl rfl (J_gdno rfl rfl rfl rfl (J_st (R_pickT rfl rfl) rfl (J_st (R_move rfl) rfl (J_gdno rfl rfl rfl rfl (J_gdno rfl rfl rfl rfl (J_gdno rfl rfl rfl rfl (J_gdno rfl rfl rfl rfl (J_gdno rfl rfl rfl rfl (J_gdno rfl rfl rfl rfl (J_gdno rfl rfl rfl rfl (J_gdno rfl rfl rfl rfl (J_st (R_pickT rfl rfl) rfl (J_cutEnd ⟨rfl, rfl, rfl, rfl, rfl, rfl, rfl, rfl, rfl, rfl, rfl, congrArg (fun b => some (Value.bool b)) (show true = (((((xs[k]'hi1).op) != x.op) || (((xs[k]'hi1).epoch) != x.epoch)) || (((xs[k]'hi1).key) != x.key)) by first | (rw [hg2] <;> rfl) | (simp [hg2]; done) | (simp only [nat_nlt] <;> simp)), trivial⟩ rfl)))))))))))))))))))
            · refine J_gd rfl rfl (R_move rfl) rfl (J_gd rfl rfl (R_move rfl) rfl (J_gd rfl rfl (R_index (i := k) sl45 rfl rfl (hxs.ext E) hi1) rfl (J_gd rfl rfl (R_fieldAddr fl47_1 rfl) rfl (J_gd rfl rfl (R_load sc3 rfl (((hxs.ext E).get hi1).one 1 rfl)) rfl (J_gd rfl rfl (R_fieldAddr0 fl47_1 rfl) rfl (J_gd rfl rfl (R_load sc3 rfl (h1.one 1 rfl)) rfl (J_gd rfl rfl (R_neq rfl rfl) rfl (J_st (R_pickF rfl rfl) rfl (J_st (R_move rfl) rfl ?_)))))))))
              refine J_if (gd := 73) rfl rfl (fun hg3 => ?_) (fun hg3 => ?_)
              · refine J_gdno rfl rfl rfl rfl (J_gdno rfl rfl rfl rfl (J_gdno rfl rfl rfl rfl (J_gdno rfl rfl rfl rfl (J_gdno rfl rfl rfl rfl (J_gdno rfl rfl rfl rfl (J_gdno rfl rfl rfl rfl (J_gdno rfl rfl rfl rfl (J_st (R_pickT rfl rfl) rfl (J_cutEnd ⟨rfl, rfl, rfl, rfl, rfl, rfl, rfl, rfl, rfl, rfl, rfl, congrArg (fun b => some (Value.bool b)) (show true = (((((xs[k]'hi1).op) != x.op) || (((xs[k]'hi1).epoch) != x.epoch)) || (((xs[k]'hi1).key) != x.key)) by first | (rw [hg2, hg3] <;> rfl) | (simp [hg2, hg3]; done) | (simp only [nat_nlt] <;> simp)), trivial⟩ rfl)))))))))
              · refine J_gd rfl rfl (R_move rfl) rfl (J_gd rfl rfl (R_move rfl) rfl (J_gd rfl rfl (R_index (i := k) sl45 rfl rfl (hxs.ext E) hi1) rfl (J_gd rfl rfl (R_fieldAddr fl47_2 rfl) rfl (J_gd rfl rfl (R_load sc3 rfl (((hxs.ext E).get hi1).one 2 rfl)) rfl (J_gd rfl rfl (R_fieldAddr0 fl47_2 rfl) rfl (J_gd rfl rfl (R_load sc3 rfl (h1.one 2 rfl)) rfl (J_gd rfl rfl (R_neq rfl rfl) rfl (J_st (R_pickF rfl rfl) rfl (J_cutEnd ⟨rfl, rfl, rfl, rfl, rfl, rfl, rfl, rfl, rfl, rfl, rfl, congrArg (fun b => some (Value.bool b)) (show (((xs[k]'hi1).key) != x.key) = (((((xs[k]'hi1).op) != x.op) || (((xs[k]'hi1).epoch) != x.epoch)) || (((xs[k]'hi1).key) != x.key)) by first | (rw [hg2, hg3] <;> rfl) | (simp [hg2, hg3]; done) | (simp only [nat_nlt] <;> simp)), trivial⟩ rfl)))))))))
          rintro _ rfl
          refine J_done ?_
          refine S_cond rfl (fun hc6 => ?_) (fun hc6 => ?_)
          · refine S_reg [true, true, true, true, true, false, false, true] rfl rfl ?_
            refine J_st (R_move rfl) rfl (J_st (R_move rfl) rfl (J_st (R_move rfl) rfl (J_st (R_index (i := k) sl45 rfl rfl (hxs.ext E) hi1) rfl (J_st (R_loadS st47 rfl ((hxs.ext E).get hi1) rfl) rfl ?_))))
            refine J_buildSlice (vs := [.agg (Enc.enc (xs[k]'hi1)).toArray]) (css := [[.int .i64 ((xs[k]'hi1).op), .int .i64 ((xs[k]'hi1).epoch), .int .i64 ((xs[k]'hi1).key), .int .i64 ((xs[k]'hi1).val)]]) sl45 rfl rfl ⟨⟨rfl, rfl⟩, trivial⟩ rfl rfl (fun b4 w12 e8 s4 h4 => ?_)
            replace h4 : Blk w12 b4 [.int .i64 ((xs[k]'hi1).op), .int .i64 ((xs[k]'hi1).epoch), .int .i64 ((xs[k]'hi1).key), .int .i64 ((xs[k]'hi1).val)] := h4
            have g_b4 : w.heap.size ≤ b4 := by have := E.size; omega
            have y_b4 := h4.lt
            replace E := E.trans e8; replace h1 := h1.ext e8; replace ho1 := ho1.ext e8; replace ho := ho.ext e8
            have z10 := e8.size
            refine J_append sl45 rfl rfl ho (Src.ofBlk h4 rfl) rfl (by first | (simp only [sum_flat, List.length_nil, List.length_cons]; simp only [Enc.sz]; omega) | (have h := filt_len xs (fun y => !(slot x y)) k; simp only [show Enc.sz Cell = 4 from rfl] at h; simp only [List.length_cons, List.length_nil]; omega)) (by decide) (by omega) (by omega) rfl rfl (fun v3 w13 m2 ho3 => ?_)
            replace E := E.step m2 (fun g hg => by have := Own.blk ho g hg; omega); replace h1 := h1.mod m2 (fun g hg => by have := Own.blk ho g hg; omega); replace ho1 := ho1.mod m2 (fun g hg => by have := Own.blk ho g hg; omega)
            have z11 := m2.size
            refine J_st (R_assign rfl) rfl (J_done ?_)
            refine S_nil (E_inB ?_)
            refine S_reg [true, true, true] rfl rfl ?_
            refine J_st (R_move rfl) rfl (J_st (R_add rfl rfl (add_one hc5n hxs.1)) rfl (J_st (R_assign rfl) rfl (J_done ?_)))
            refine S_nil (E_again (k + 1, v3) (by simp; omega) ⟨rfl, rfl, rfl, rfl, rfl, rfl, rfl, trivial⟩ ⟨E, (by omega), h1, ho1, (by omega), Own.fin ho3 (Nat.le_refl _) (by omega) (filt_yes (by assumption) (ns_yes (by assumption)))⟩)
          · refine S_skip ?_
            refine S_nil (E_inB ?_)
            refine S_reg [true, true, true] rfl rfl ?_
            refine J_st (R_move rfl) rfl (J_st (R_add rfl rfl (add_one hc5n hxs.1)) rfl (J_st (R_assign rfl) rfl (J_done ?_)))
            refine S_nil (E_again (k + 1, vo) (by simp; omega) ⟨rfl, rfl, rfl, rfl, rfl, rfl, rfl, trivial⟩ ⟨E, (by omega), h1, ho1, (by omega), Own.fin ho (Nat.le_refl _) (by omega) (filt_no (by assumption) (ns_no (by assumption)))⟩)
        · have hc5n : ¬ k < xs.length := by first | (have h := of_decide_eq_false hc5; omega) | (have h := hc5; simp at h; omega)
          refine S_exit (E_lp_exit (E_inB_exit ?_))
          refine S_seq ?_
          refine S_reg [true, true, false, true, true] rfl rfl ?_
          refine J_st (R_move rfl) rfl (J_st (R_loadS st47 rfl h1.at rfl) rfl ?_)
          refine J_call Try.call38 rfl (s_PutCell vo ((xs.take k).filter (fun y => !(slot x y))) x _ (Own.rd (by decide) ho) (by have h1 := List.length_filter_le (fun y => !(slot x y)) (xs.take k); simp only [List.length_take] at h1; omega)) rfl (fun v4 w14 e9 ho4 => ?_)
          have g_ho4 : w.heap.size ≤ w9.heap.size := E.size
          replace E := E.trans e9; replace h1 := h1.ext e9; replace ho1 := ho1.ext e9; replace ho := ho.ext e9
          have z12 := e9.size
          refine J_st (R_assign rfl) rfl (J_st (R_assign rfl) rfl (J_done ?_))
          refine S_ret (E_inB_ret (E_doneN (l := [.tmp 6, .tmp 7]) (vs := [v4, .bool true]) rfl ⟨.tmp rfl, .tmp rfl, trivial⟩ rfl E ?_))
          rw [recallM_b (.inl (by assumption)), betterM_no (by assumption)]
          exact ⟨_, rfl, Own.fin ho4 (by omega) (by omega) (by simp only [List.nil_append, List.take_of_length_le (show xs.length ≤ k by omega)] <;> rfl)⟩
    · refine S_reg [true, true] rfl rfl ?_
      refine J_st (R_eql rfl rfl) rfl (J_st (R_assign rfl) rfl (J_done ?_))
      refine S_cond rfl (fun hc7 => ?_) (fun hc7 => ?_)
      · refine S_seq ?_
        refine S_reg [true, true, true, true, true, true, true, false, true, true, true, true, true] rfl rfl ?_
        refine J_st (R_move rfl) rfl (J_st (R_fieldAddr0 fl47_0 rfl) rfl (J_st (R_load sc3 rfl (h1.one 0 rfl)) rfl (J_st (R_fieldAddr0 fl47_1 rfl) rfl (J_st (R_load sc3 rfl (h1.one 1 rfl)) rfl (J_st (R_fieldAddr0 fl47_2 rfl) rfl (J_st (R_load sc3 rfl (h1.one 2 rfl)) rfl ?_))))))
        refine J_call Try.call35 rfl (s_LeastOf vxs xs x.op x.epoch x.key _ (hxs.ext E)) rfl (fun _ w15 e10 hv => ?_)
        subst hv
        replace E := E.trans e10; replace h1 := h1.ext e10; replace ho1 := ho1.ext e10
        have z13 := e10.size
        refine J_st (R_move rfl) rfl (J_st (R_extract rfl rfl) rfl (J_st (R_extract rfl rfl) rfl (J_st (R_assign rfl) rfl (J_st (R_assign rfl) rfl (J_done ?_)))))
        refine S_seq ?_
        refine S_seq ?_
        refine S_reg [true, true, true, true, true, true, true] rfl rfl ?_
        refine J_st (R_move rfl) rfl (J_st (R_move rfl) rfl ?_)
        refine J_cut 5 [(0, .int .i64 kind), (1, vxs), (2, .agg (Enc.enc x).toArray), (5, .pointer (some ⟨b1, 0, none⟩)), (6, .slice none 0 0), (7, .bool false), (8, v1), (9, .int .i64 ((leastM xs x.op x.epoch x.key).1)), (10, .bool ((leastM xs x.op x.epoch x.key).2)), (13, .slice (some ⟨b2, 0, none⟩) 0 0), (14, vxs), (15, v1), (16, .int .i64 kind), (17, .bool (kind == 6)), (18, .bool (kind == 6)), (26, .bool (kind == 8)), (27, .bool (kind == 5)), (28, .bool (kind == 8)), (29, .tuple [.int .i64 ((leastM xs x.op x.epoch x.key).1), .bool ((leastM xs x.op x.epoch x.key).2)].toArray), (30, vxs), (31, .pointer (some ⟨b1, 0, none⟩)), (32, .int .i64 x.op), (33, .pointer (some ⟨b1, 1, none⟩)), (34, .int .i64 x.epoch), (35, .pointer (some ⟨b1, 2, none⟩)), (36, .int .i64 x.key), (37, .tuple [.int .i64 ((leastM xs x.op x.epoch x.key).1), .bool ((leastM xs x.op x.epoch x.key).2)].toArray), (38, .int .i64 ((leastM xs x.op x.epoch x.key).1)), (39, .bool ((leastM xs x.op x.epoch x.key).2)), (46, .bool (((leastM xs x.op x.epoch x.key).2) && (decide (((leastM xs x.op x.epoch x.key).1) ≤ x.val))))] (fun w' => w15 = w') ?_ ?_
        · refine J_if (gd := 41) rfl rfl (fun hg4 => ?_) (fun hg4 => ?_)
          · refine J_gd rfl rfl (R_move rfl) rfl (J_gd rfl rfl (R_fieldAddr0 fl47_3 rfl) rfl (J_gd rfl rfl (R_load sc3 rfl (h1.one 3 rfl)) rfl (J_gd rfl rfl (R_leq rfl rfl) rfl (J_st (R_pickT rfl rfl) rfl (J_cutEnd ⟨rfl, rfl, rfl, rfl, rfl, rfl, rfl, rfl, rfl, rfl, rfl, rfl, rfl, rfl, rfl, rfl, rfl, rfl, rfl, rfl, rfl, rfl, rfl, rfl, rfl, rfl, rfl, rfl, rfl, congrArg (fun b => some (Value.bool b)) (show (decide (((leastM xs x.op x.epoch x.key).1) ≤ x.val)) = (((leastM xs x.op x.epoch x.key).2) && (decide (((leastM xs x.op x.epoch x.key).1) ≤ x.val))) by first | (rw [hg4] <;> rfl) | (simp [hg4]; done) | (simp only [nat_nlt] <;> simp)), trivial⟩ rfl)))))
          · refine J_gdno rfl rfl rfl rfl (J_gdno rfl rfl rfl rfl (J_gdno rfl rfl rfl rfl (J_gdno rfl rfl rfl rfl (J_st (R_pickF rfl rfl) rfl (J_cutEnd ⟨rfl, rfl, rfl, rfl, rfl, rfl, rfl, rfl, rfl, rfl, rfl, rfl, rfl, rfl, rfl, rfl, rfl, rfl, rfl, rfl, rfl, rfl, rfl, rfl, rfl, rfl, rfl, rfl, rfl, congrArg (fun b => some (Value.bool b)) (show false = (((leastM xs x.op x.epoch x.key).2) && (decide (((leastM xs x.op x.epoch x.key).1) ≤ x.val))) by first | (rw [hg4] <;> rfl) | (simp [hg4]; done) | (simp only [nat_nlt] <;> simp)), trivial⟩ rfl)))))
        rintro _ rfl
        refine J_done ?_
        refine S_cond rfl (fun hc8 => ?_) (fun hc8 => ?_)
        · refine S_seq ?_
          refine S_reg [true, true, true] rfl rfl ?_
          refine J_st (R_move rfl) rfl (J_st (R_assign rfl) rfl (J_st (R_assign rfl) rfl (J_done ?_)))
          refine S_ret (E_inB_ret (E_doneN (l := [.tmp 6, .tmp 7]) (vs := [v1, .bool false]) rfl ⟨.tmp rfl, .tmp rfl, trivial⟩ rfl E ?_))
          rw [recallM_b (.inr (by assumption)), betterM_yes (by assumption)]
          exact ⟨_, rfl, Own.fin ho1 (by omega) (by omega) (by first | rfl | simp only [List.nil_append])⟩
        · refine S_skip ?_
          refine S_seq ?_
          refine S_reg [false, true] rfl rfl ?_
          refine J_buildSlice (vs := []) (css := []) sl45 rfl rfl trivial rfl rfl (fun b5 w17 e11 s5 h5 => ?_)
          replace h5 : Blk w17 b5 [] := h5
          have g_b5 : w.heap.size ≤ b5 := by have := E.size; omega
          have y_b5 := h5.lt
          replace E := E.trans e11; replace h1 := h1.ext e11; replace ho1 := ho1.ext e11
          have z14 := e11.size
          refine J_st (R_assign rfl) rfl (J_done ?_)
          refine S_seq ?_
          refine S_seq ?_
          refine S_reg [true] rfl rfl ?_
          refine J_st (R_assign rfl) rfl (J_done ?_)
          refine S_block ?_
          refine S_loop (fun (xq : Nat × Value) => let ⟨k, vo⟩ := xq; [(1, vxs), (5, .pointer (some ⟨b1, 0, none⟩)), (6, .slice none 0 0), (7, .bool false), (8, v1), (11, vo), (12, .int .i64 ((k : Nat) : Int))]) (fun (xq : Nat × Value) w' => let ⟨k, vo⟩ := xq; Ext w w' ∧ w17.heap.size ≤ w'.heap.size ∧ Blk w' b1 (Enc.enc x) ∧ Own w' b2 w3.heap.size 4 v1 ([] ++ List.flatMap (Enc.enc (α := Cell)) xs) ∧ k ≤ xs.length ∧ Own w' b5 w'.heap.size 4 vo (List.flatMap (Enc.enc (α := Cell)) ((xs.take k).filter (fun y => !(slot x y))))) (fun (xq : Nat × Value) => let ⟨k, vo⟩ := xq; xs.length - k) (0, .slice (some ⟨b5, 0, none⟩) 0 0) ⟨rfl, rfl, rfl, rfl, rfl, rfl, rfl, trivial⟩ ⟨E, Nat.le_refl _, h1, ho1, Nat.zero_le _, Own.fin (Own.ofBlk (lo := b5) (hi := b5 + 1) (sz := 4) h5 (Nat.le_refl _) (Nat.lt_succ_self _) (by simp) (by simp [maxLen])) (by have := E.size; omega) (by omega) rfl⟩ ?_
          clear E h1 ho1 h5
          rintro ⟨k, vo⟩ w18 ⟨E, z15, h1, ho1, hk, ho⟩
          refine S_sub [(1, vxs), (5, .pointer (some ⟨b1, 0, none⟩)), (6, .slice none 0 0), (7, .bool false), (8, v1), (11, vo), (12, .int .i64 ((k : Nat) : Int))] ⟨rfl, rfl, rfl, rfl, rfl, rfl, rfl, trivial⟩ ?_
          refine S_seq ?_
          refine S_seq ?_
          refine S_reg [true, true, true, true] rfl rfl ?_
          refine J_st (R_move rfl) rfl (J_st (R_move rfl) rfl (J_st (R_len Try.underlying45 rfl (hxs.ext E).len) rfl (J_st (R_lss rfl rfl) rfl (J_done ?_))))
          refine S_cond rfl (fun hc9 => ?_) (fun hc9 => ?_)
          · have hc9n : k < xs.length := by first | (have h := of_decide_eq_true hc9; omega) | (have h := hc9; simp at h; omega)
            refine S_skip ?_
            refine S_seq ?_
            refine S_block ?_
            refine S_seq ?_
            refine S_regD mixed [(0, true), (1, true), (2, true), (3, true), (4, true), (5, true), (6, true), (7, true), (8, true), (9, true), (10, true), (11, true), (12, true), (13, true), (14, true), (15, true), (16, true), (17, true), (18, true), (19, true), (20, true), (21, true), (22, true), (23, true), (24, true), (25, true), (26, true), (27, true)] (by decide +kernel) rfl (fun w19 e12 => ?_)
            replace E := E.trans e12; replace h1 := h1.ext e12; replace ho1 := ho1.ext e12; replace ho := ho.ext e12
            have z16 := e12.size
            refine J_st (R_move rfl) rfl (J_st (R_move rfl) rfl ?_)
            have hi2 : k < xs.length := (by first | assumption | omega | (simp only [List.length_set]; first | assumption | omega) | (simp only [List.getElem_set_self, List.length_set]; first | assumption | omega) | (simp only [setW, setLk, List.length_set]; first | assumption | omega) | (simp; done))
            refine J_st (R_index (i := k) sl45 rfl rfl (hxs.ext E) hi2) rfl (J_st (R_fieldAddr fl47_0 rfl) rfl (J_st (R_load sc3 rfl (((hxs.ext E).get hi2).one 0 rfl)) rfl (J_st (R_fieldAddr0 fl47_0 rfl) rfl (J_st (R_load sc3 rfl (h1.one 0 rfl)) rfl (J_st (R_neq rfl rfl) rfl (J_st (R_move rfl) rfl ?_))))))
            refine J_cut 19 [(1, vxs), (5, .pointer (some ⟨b1, 0, none⟩)), (6, .slice none 0 0), (7, .bool false), (8, v1), (11, vo), (12, .int .i64 ((k : Nat) : Int)), (49, .int .i64 ((k : Nat) : Int)), (50, vxs), (51, .int .i64 ((xs.length : Nat) : Int)), (52, .bool (decide (((k : Nat) : Int) < ((xs.length : Nat) : Int)))), (82, .bool (((((xs[k]'hi2).op) != x.op) || (((xs[k]'hi2).epoch) != x.epoch)) || (((xs[k]'hi2).key) != x.key)))] (fun w' => w19 = w') ?_ ?_
            · refine J_if (gd := 63) rfl rfl (fun hg5 => ?_) (fun hg5 => ?_)
              · refine J_gdno rfl rfl rfl rfl (J_gdno rfl rfl rfl rfl (J_gdno rfl rfl rfl rfl (J_gdno rfl rfl rfl rfl (J_gdno rfl rfl rfl rfl (J_gdno rfl rfl rfl rfl (J_gdno rfl rfl rfl rfl (J_gdno rfl rfl rfl rfl (J_st (R_pickT rfl rfl) rfl (J_st (R_move rfl) rfl (J_gdno rfl rfl rfl rfl (J_gdno rfl rfl rfl rfl (J_gdno rfl rfl rfl rfl (J_gdno rfl rfl rfl rfl (J_gdno rfl rfl rfl rfl (J_gdno rfl rfl rfl rfl (J_gdno rfl rfl rfl rfl (J_gdno rfl rfl rfl rfl (J_st (R_pickT rfl rfl) rfl (J_cutEnd ⟨rfl, rfl, rfl, rfl, rfl, rfl, rfl, rfl, rfl, rfl, rfl, congrArg (fun b => some (Value.bool b)) (show true = (((((xs[k]'hi2).op) != x.op) || (((xs[k]'hi2).epoch) != x.epoch)) || (((xs[k]'hi2).key) != x.key)) by first | (rw [hg5] <;> rfl) | (simp [hg5]; done) | (simp only [nat_nlt] <;> simp)), trivial⟩ rfl)))))))))))))))))))
              · refine J_gd rfl rfl (R_move rfl) rfl (J_gd rfl rfl (R_move rfl) rfl (J_gd rfl rfl (R_index (i := k) sl45 rfl rfl (hxs.ext E) hi2) rfl (J_gd rfl rfl (R_fieldAddr fl47_1 rfl) rfl (J_gd rfl rfl (R_load sc3 rfl (((hxs.ext E).get hi2).one 1 rfl)) rfl (J_gd rfl rfl (R_fieldAddr0 fl47_1 rfl) rfl (J_gd rfl rfl (R_load sc3 rfl (h1.one 1 rfl)) rfl (J_gd rfl rfl (R_neq rfl rfl) rfl (J_st (R_pickF rfl rfl) rfl (J_st (R_move rfl) rfl ?_)))))))))
                refine J_if (gd := 73) rfl rfl (fun hg6 => ?_) (fun hg6 => ?_)
                · refine J_gdno rfl rfl rfl rfl (J_gdno rfl rfl rfl rfl (J_gdno rfl rfl rfl rfl (J_gdno rfl rfl rfl rfl (J_gdno rfl rfl rfl rfl (J_gdno rfl rfl rfl rfl (J_gdno rfl rfl rfl rfl (J_gdno rfl rfl rfl rfl (J_st (R_pickT rfl rfl) rfl (J_cutEnd ⟨rfl, rfl, rfl, rfl, rfl, rfl, rfl, rfl, rfl, rfl, rfl, congrArg (fun b => some (Value.bool b)) (show true = (((((xs[k]'hi2).op) != x.op) || (((xs[k]'hi2).epoch) != x.epoch)) || (((xs[k]'hi2).key) != x.key)) by first | (rw [hg5, hg6] <;> rfl) | (simp [hg5, hg6]; done) | (simp only [nat_nlt] <;> simp)), trivial⟩ rfl)))))))))
                · refine J_gd rfl rfl (R_move rfl) rfl (J_gd rfl rfl (R_move rfl) rfl (J_gd rfl rfl (R_index (i := k) sl45 rfl rfl (hxs.ext E) hi2) rfl (J_gd rfl rfl (R_fieldAddr fl47_2 rfl) rfl (J_gd rfl rfl (R_load sc3 rfl (((hxs.ext E).get hi2).one 2 rfl)) rfl (J_gd rfl rfl (R_fieldAddr0 fl47_2 rfl) rfl (J_gd rfl rfl (R_load sc3 rfl (h1.one 2 rfl)) rfl (J_gd rfl rfl (R_neq rfl rfl) rfl (J_st (R_pickF rfl rfl) rfl (J_cutEnd ⟨rfl, rfl, rfl, rfl, rfl, rfl, rfl, rfl, rfl, rfl, rfl, congrArg (fun b => some (Value.bool b)) (show (((xs[k]'hi2).key) != x.key) = (((((xs[k]'hi2).op) != x.op) || (((xs[k]'hi2).epoch) != x.epoch)) || (((xs[k]'hi2).key) != x.key)) by first | (rw [hg5, hg6] <;> rfl) | (simp [hg5, hg6]; done) | (simp only [nat_nlt] <;> simp)), trivial⟩ rfl)))))))))
            rintro _ rfl
            refine J_done ?_
            refine S_cond rfl (fun hc10 => ?_) (fun hc10 => ?_)
            · refine S_reg [true, true, true, true, true, false, false, true] rfl rfl ?_
              refine J_st (R_move rfl) rfl (J_st (R_move rfl) rfl (J_st (R_move rfl) rfl (J_st (R_index (i := k) sl45 rfl rfl (hxs.ext E) hi2) rfl (J_st (R_loadS st47 rfl ((hxs.ext E).get hi2) rfl) rfl ?_))))
              refine J_buildSlice (vs := [.agg (Enc.enc (xs[k]'hi2)).toArray]) (css := [[.int .i64 ((xs[k]'hi2).op), .int .i64 ((xs[k]'hi2).epoch), .int .i64 ((xs[k]'hi2).key), .int .i64 ((xs[k]'hi2).val)]]) sl45 rfl rfl ⟨⟨rfl, rfl⟩, trivial⟩ rfl rfl (fun b6 w21 e13 s6 h6 => ?_)
              replace h6 : Blk w21 b6 [.int .i64 ((xs[k]'hi2).op), .int .i64 ((xs[k]'hi2).epoch), .int .i64 ((xs[k]'hi2).key), .int .i64 ((xs[k]'hi2).val)] := h6
              have g_b6 : w.heap.size ≤ b6 := by have := E.size; omega
              have y_b6 := h6.lt
              replace E := E.trans e13; replace h1 := h1.ext e13; replace ho1 := ho1.ext e13; replace ho := ho.ext e13
              have z17 := e13.size
              refine J_append sl45 rfl rfl ho (Src.ofBlk h6 rfl) rfl (by first | (simp only [sum_flat, List.length_nil, List.length_cons]; simp only [Enc.sz]; omega) | (have h := filt_len xs (fun y => !(slot x y)) k; simp only [show Enc.sz Cell = 4 from rfl] at h; simp only [List.length_cons, List.length_nil]; omega)) (by decide) (by omega) (by omega) rfl rfl (fun v5 w22 m3 ho5 => ?_)
              replace E := E.step m3 (fun g hg => by have := Own.blk ho g hg; omega); replace h1 := h1.mod m3 (fun g hg => by have := Own.blk ho g hg; omega); replace ho1 := ho1.mod m3 (fun g hg => by have := Own.blk ho g hg; omega)
              have z18 := m3.size
              refine J_st (R_assign rfl) rfl (J_done ?_)
              refine S_nil (E_inB ?_)
              refine S_reg [true, true, true] rfl rfl ?_
              refine J_st (R_move rfl) rfl (J_st (R_add rfl rfl (add_one hc9n hxs.1)) rfl (J_st (R_assign rfl) rfl (J_done ?_)))
              refine S_nil (E_again (k + 1, v5) (by simp; omega) ⟨rfl, rfl, rfl, rfl, rfl, rfl, rfl, trivial⟩ ⟨E, (by omega), h1, ho1, (by omega), Own.fin ho5 (Nat.le_refl _) (by omega) (filt_yes (by assumption) (ns_yes (by assumption)))⟩)
            · refine S_skip ?_
              refine S_nil (E_inB ?_)
              refine S_reg [true, true, true] rfl rfl ?_
              refine J_st (R_move rfl) rfl (J_st (R_add rfl rfl (add_one hc9n hxs.1)) rfl (J_st (R_assign rfl) rfl (J_done ?_)))
              refine S_nil (E_again (k + 1, vo) (by simp; omega) ⟨rfl, rfl, rfl, rfl, rfl, rfl, rfl, trivial⟩ ⟨E, (by omega), h1, ho1, (by omega), Own.fin ho (Nat.le_refl _) (by omega) (filt_no (by assumption) (ns_no (by assumption)))⟩)
          · have hc9n : ¬ k < xs.length := by first | (have h := of_decide_eq_false hc9; omega) | (have h := hc9; simp at h; omega)
            refine S_exit (E_lp_exit (E_inB_exit ?_))
            refine S_seq ?_
            refine S_reg [true, true, false, true, true] rfl rfl ?_
            refine J_st (R_move rfl) rfl (J_st (R_loadS st47 rfl h1.at rfl) rfl ?_)
            refine J_call Try.call38 rfl (s_PutCell vo ((xs.take k).filter (fun y => !(slot x y))) x _ (Own.rd (by decide) ho) (by have h1 := List.length_filter_le (fun y => !(slot x y)) (xs.take k); simp only [List.length_take] at h1; omega)) rfl (fun v6 w23 e14 ho6 => ?_)
            have g_ho6 : w.heap.size ≤ w18.heap.size := E.size
            replace E := E.trans e14; replace h1 := h1.ext e14; replace ho1 := ho1.ext e14; replace ho := ho.ext e14
            have z19 := e14.size
            refine J_st (R_assign rfl) rfl (J_st (R_assign rfl) rfl (J_done ?_))
            refine S_ret (E_inB_ret (E_doneN (l := [.tmp 6, .tmp 7]) (vs := [v6, .bool true]) rfl ⟨.tmp rfl, .tmp rfl, trivial⟩ rfl E ?_))
            rw [recallM_b (.inr (by assumption)), betterM_no (by assumption)]
            exact ⟨_, rfl, Own.fin ho6 (by omega) (by omega) (by simp only [List.nil_append, List.take_of_length_le (show xs.length ≤ k by omega)] <;> rfl)⟩
      · refine S_skip ?_
        refine S_nil (E_inB ?_)
        refine S_seq ?_
        refine S_reg [true, true, true] rfl rfl ?_
        refine J_st (R_move rfl) rfl (J_st (R_assign rfl) rfl (J_st (R_assign rfl) rfl (J_done ?_)))
        refine S_ret (E_doneN (l := [.tmp 6, .tmp 7]) (vs := [v1, .bool true]) rfl ⟨.tmp rfl, .tmp rfl, trivial⟩ rfl E ?_)
        rw [recallM_o (by assumption) (by assumption) (by assumption)]
        exact ⟨_, rfl, Own.fin ho1 (by omega) (by omega) (by first | rfl | simp only [List.nil_append])⟩

set_option maxRecDepth 20000 in
theorem s_Remembers (k : Int) (w : World)  : Ct Try.prog 44 [.int .i64 k] w (fun v _ => v = .bool (((k == 5) || (k == 6)) || (k == 8))) := by
  refine ct_of Try.func44 rfl Try.ntmps44 rfl ?_
  refine S_sub [(0, .int .i64 k)] ⟨rfl, trivial⟩ ?_
  have E : Ext w w := Ext.refl w
  refine S_seq ?_
  refine S_reg [true] rfl rfl ?_
  refine J_st (R_assign rfl) rfl (J_done ?_)
  refine S_seq ?_
  refine S_reg [true, true, true, true, true, true, true, true, true, true, true] rfl rfl ?_
  refine J_st (R_move rfl) rfl (J_st (R_eql rfl rfl) rfl (J_st (R_move rfl) rfl ?_))
  refine J_cut 7 [(0, .int .i64 k), (2, .bool false), (12, .bool (((k == 5) || (k == 6)) || (k == 8)))] (fun w' => w = w') ?_ ?_
  · refine J_if (gd := 5) rfl rfl (fun hg1 => ?_) (fun hg1 => ?_)
    · refine J_gdno rfl rfl rfl rfl (J_gdno rfl rfl rfl rfl (J_st (R_pickT rfl rfl) rfl (J_st (R_move rfl) rfl (J_gdno rfl rfl rfl rfl (J_gdno rfl rfl rfl rfl (J_st (R_pickT rfl rfl) rfl (J_cutEnd ⟨rfl, rfl, congrArg (fun b => some (Value.bool b)) (show true = (((k == 5) || (k == 6)) || (k == 8)) by first | (rw [hg1] <;> rfl) | (simp [hg1]; done) | (simp only [nat_nlt] <;> simp)), trivial⟩ rfl)))))))
    · refine J_gd rfl rfl (R_move rfl) rfl (J_gd rfl rfl (R_eql rfl rfl) rfl (J_st (R_pickF rfl rfl) rfl (J_st (R_move rfl) rfl ?_)))
      refine J_if (gd := 9) rfl rfl (fun hg2 => ?_) (fun hg2 => ?_)
      · refine J_gdno rfl rfl rfl rfl (J_gdno rfl rfl rfl rfl (J_st (R_pickT rfl rfl) rfl (J_cutEnd ⟨rfl, rfl, congrArg (fun b => some (Value.bool b)) (show true = (((k == 5) || (k == 6)) || (k == 8)) by first | (rw [hg1, hg2] <;> rfl) | (simp [hg1, hg2]; done) | (simp only [nat_nlt] <;> simp)), trivial⟩ rfl)))
      · refine J_gd rfl rfl (R_move rfl) rfl (J_gd rfl rfl (R_eql rfl rfl) rfl (J_st (R_pickF rfl rfl) rfl (J_cutEnd ⟨rfl, rfl, congrArg (fun b => some (Value.bool b)) (show (k == 8) = (((k == 5) || (k == 6)) || (k == 8)) by first | (rw [hg1, hg2] <;> rfl) | (simp [hg1, hg2]; done) | (simp only [nat_nlt] <;> simp)), trivial⟩ rfl)))
  rintro _ rfl
  refine J_st (R_assign rfl) rfl (J_done ?_)
  refine S_ret (E_done1 rfl rfl E ?_)
  rfl

set_option maxRecDepth 20000 in
theorem s_l01New (vcode : Value) (code : List Byt) (w : World) (hcode : RdS w vcode code) : Ct Try.prog 48 [vcode] w (fun v w' => ∃ b, v = .pointer (some ⟨b, 0, none⟩) ∧ w.heap.size ≤ b ∧ CurO w' b vcode code) := by
  have hmx := hcode.1
  unfold maxLen at hmx
  refine ct_of Try.func48 rfl Try.ntmps48 rfl ?_
  refine S_sub [(0, vcode)] ⟨rfl, trivial⟩ ?_
  have E : Ext w w := Ext.refl w
  refine S_seq ?_
  refine S_reg [true] rfl rfl ?_
  refine J_st (R_assign rfl) rfl (J_done ?_)
  refine S_seq ?_
  refine S_reg [true, true, true, true] rfl rfl ?_
  refine J_st (R_move rfl) rfl (J_st (R_len Try.underlying22 rfl (hcode.ext E).len) rfl (J_st (R_add rfl rfl rfl) rfl (J_st (R_assign rfl) rfl (J_done ?_))))
  refine S_seq ?_
  refine S_seq ?_
  refine S_reg [true] rfl rfl ?_
  refine J_st (R_assign rfl) rfl (J_done ?_)
  refine S_block ?_
  refine S_loop (fun (xq : Nat × Int) => let ⟨k, hh⟩ := xq; [(0, vcode), (2, .pointer none), (3, .int .i64 hh), (4, .int .i64 ((k : Nat) : Int))]) (fun (xq : Nat × Int) w' => let ⟨k, hh⟩ := xq; Ext w w' ∧ w.heap.size ≤ w'.heap.size ∧ k ≤ code.length) (fun (xq : Nat × Int) => let ⟨k, hh⟩ := xq; code.length - k) (0, IntKind.i64.wrap (94701 + ((code.length : Nat) : Int))) ⟨rfl, rfl, rfl, rfl, trivial⟩ ⟨E, Nat.le_refl _, Nat.zero_le _⟩ ?_
  clear E
  rintro ⟨k, hh⟩ w1 ⟨E, z1, hk⟩
  refine S_sub [(0, vcode), (2, .pointer none), (3, .int .i64 hh), (4, .int .i64 ((k : Nat) : Int))] ⟨rfl, rfl, rfl, rfl, trivial⟩ ?_
  refine S_seq ?_
  refine S_seq ?_
  refine S_reg [true, true, true, true, true, true, true, true] rfl rfl ?_
  refine J_st (R_move rfl) rfl (J_st (R_move rfl) rfl (J_st (R_len Try.underlying22 rfl (hcode.ext E).len) rfl (J_st (R_lss rfl rfl) rfl (J_st (R_move rfl) rfl ?_))))
  refine J_cut 3 [(0, vcode), (2, .pointer none), (3, .int .i64 hh), (4, .int .i64 ((k : Nat) : Int)), (15, .bool ((decide (((k : Nat) : Int) < ((code.length : Nat) : Int))) && (decide (((k : Nat) : Int) < 4000))))] (fun w' => w1 = w') ?_ ?_
  · refine J_if (gd := 12) rfl rfl (fun hg1 => ?_) (fun hg1 => ?_)
    · have hg1n : k < code.length := by first | (have h := of_decide_eq_true hg1; omega) | (have h := hg1; simp at h; omega)
      refine J_gd rfl rfl (R_move rfl) rfl (J_gd rfl rfl (R_lss rfl rfl) rfl (J_st (R_pickT rfl rfl) rfl (J_cutEnd ⟨rfl, rfl, rfl, rfl, congrArg (fun b => some (Value.bool b)) (show (decide (((k : Nat) : Int) < 4000)) = ((decide (((k : Nat) : Int) < ((code.length : Nat) : Int))) && (decide (((k : Nat) : Int) < 4000))) by first | (rw [hg1] <;> rfl) | (simp [hg1]; done) | (simp only [nat_nlt] <;> simp)), trivial⟩ rfl)))
    · have hg1n : ¬ k < code.length := by first | (have h := of_decide_eq_false hg1; omega) | (have h := hg1; simp at h; omega)
      refine J_gdno rfl rfl rfl rfl (J_gdno rfl rfl rfl rfl (J_st (R_pickF rfl rfl) rfl (J_cutEnd ⟨rfl, rfl, rfl, rfl, congrArg (fun b => some (Value.bool b)) (show false = ((decide (((k : Nat) : Int) < ((code.length : Nat) : Int))) && (decide (((k : Nat) : Int) < 4000))) by first | (rw [hg1] <;> rfl) | (simp [hg1]; done) | (simp only [nat_nlt] <;> simp)), trivial⟩ rfl)))
  rintro _ rfl
  refine J_done ?_
  refine S_cond rfl (fun hc1 => ?_) (fun hc1 => ?_)
  · have hlt : k < code.length := by have h := (Bool.and_eq_true _ _ ▸ hc1).1; have h2 := of_decide_eq_true h; omega
    refine S_skip ?_
    refine S_seq ?_
    refine S_block ?_
    refine S_reg [true, true, true, true, true, true, true, true, true, true, true] rfl rfl ?_
    refine J_st (R_move rfl) rfl (J_st (R_mul rfl rfl rfl) rfl (J_st (R_move rfl) rfl (J_st (R_move rfl) rfl ?_)))
    have hi1 : k < code.length := (by first | assumption | omega | (simp only [List.length_set]; first | assumption | omega) | (simp only [List.getElem_set_self, List.length_set]; first | assumption | omega) | (simp only [setW, setLk, List.length_set]; first | assumption | omega) | (simp; done))
    refine J_st (R_index (i := k) sl22 rfl rfl (hcode.ext E) hi1) rfl (J_st (R_load sc5 rfl (((hcode.ext E).get hi1).one 0 rfl)) rfl (J_st (R_conv Try.underlying5 Try.underlying3 rfl) rfl (J_st (R_add rfl rfl rfl) rfl (J_st (R_add rfl rfl rfl) rfl (J_st (R_and rfl rfl) rfl (J_st (R_assign rfl) rfl (J_done ?_)))))))
    refine S_nil (E_inB ?_)
    refine S_reg [true, true, true] rfl rfl ?_
    refine J_st (R_move rfl) rfl (J_st (R_add rfl rfl (add_nat (by unfold maxLen; omega))) rfl (J_st (R_assign rfl) rfl (J_done ?_)))
    refine S_nil (E_again (k + 1, andB .i64 (IntKind.i64.wrap ((IntKind.i64.wrap ((IntKind.i64.wrap (hh * 131)) + (IntKind.i64.wrap ((code[k]'hi1).v)))) + 7)) 1073741823) (by simp; omega) ⟨rfl, rfl, rfl, rfl, trivial⟩ ⟨E, (by omega), (by omega)⟩)
  · refine S_exit (E_lp_exit (E_inB_exit ?_))
    refine S_seq ?_
    refine S_reg [true, true, true, false, true] rfl rfl ?_
    refine J_st (R_move rfl) rfl (J_st (R_move rfl) rfl ?_)
    have hbl1 : ∀ w, (Instr.build 102 ([(0, vcode), (2, .int .i64 hh)]).toArray).run Try.prog w = .ok (.agg [vcode, .int .i64 0, .int .i64 hh].toArray) w := by clear E; obtain ⟨_, _, _, rfl⟩ := SlLen.shape (RdL.len hcode); intro w; kernel_rfl
    refine J_st (R_buildC [vcode, .int .i64 0, .int .i64 hh] rfl hbl1) rfl ?_
    refine J_box rfl rfl (fun b1 w3 e1 s1 h1 => ?_)
    have g_b1 : w.heap.size ≤ b1 := by have := E.size; omega
    have y_b1 := h1.lt
    replace E := E.trans e1
    have z2 := e1.size
    refine J_st (R_assign rfl) rfl (J_done ?_)
    refine S_ret (E_done1 rfl rfl E ?_)
    exact ⟨_, rfl, (by omega), 0, _, h1, Nat.zero_le _⟩

set_option maxRecDepth 20000 in
theorem s_l01Byte (lo : Nat) (vb : Value) (bs : List Byt) (w : World) (hcu : CurO w lo vb bs) (hbs : RdD w 0 lo vb bs) : CtR Try.prog 81 [.pointer (some ⟨lo, 0, none⟩)] w lo (lo + 1) (fun v w' => ∃ (dr0 : Int), 0 ≤ dr0 ∧ dr0 ≤ 255 ∧ CurO w' lo vb bs ∧ v = .int .i64 dr0) := by
  have y_lo := CurO.lt hcu
  refine ctR_of Try.func81 rfl Try.ntmps81 rfl ?_
  obtain ⟨icu, hcn, hblk, hicu⟩ := hcu
  refine S_sub [(0, .pointer (some ⟨lo, 0, none⟩))] ⟨rfl, trivial⟩ ?_
  have E : ModR w w lo (lo + 1) := ModR.refl w lo (lo + 1)
  refine S_seq ?_
  refine S_reg [true] rfl rfl ?_
  refine J_st (R_assign rfl) rfl (J_done ?_)
  refine S_seq ?_
  refine S_reg [true, true, true, true, true, true, true, true, true, false] rfl rfl ?_
  refine J_st (R_move rfl) rfl (J_st (R_move rfl) rfl (J_st (R_nilCheck rfl) rfl (J_st (R_fieldAddr0 fl102_2 rfl) rfl (J_st (R_load sc3 rfl (hblk.one 2 rfl)) rfl (J_st (R_mul rfl rfl rfl) rfl (J_st (R_add rfl rfl rfl) rfl (J_st (R_nilCheck rfl) rfl (J_st (R_fieldAddr0 fl102_2 rfl) rfl ?_))))))))
  refine J_store' (cs' := [vb, .int .i64 ((icu : Nat) : Int), .int .i64 (IntKind.i64.wrap ((IntKind.i64.wrap (hcn * 6364136223846793005)) + 1442695040888963407))]) sc3 rfl rfl rfl hblk (Nat.le_of_ble_eq_true rfl) rfl (fun w1 m1 hblk' => ?_)
  replace hblk := hblk'
  replace E := E.mod m1 (fun g hg => by cases hg; omega); replace hbs := hbs.mod m1 (fun g hg => by cases hg; omega)
  have z1 := m1.size
  refine J_done ?_
  refine S_seq ?_
  refine S_regD mixed [(0, true), (1, true), (2, true), (3, true), (4, true), (5, true), (6, true), (7, true), (8, true), (9, true), (10, true), (11, true), (12, true)] (by decide +kernel) rfl (fun w2 e1 => ?_)
  replace E := E.ext e1; replace hblk := hblk.ext e1; replace hbs := hbs.ext e1
  have z2 := e1.size
  refine J_st (R_move rfl) rfl (J_st (R_nilCheck rfl) rfl (J_st (R_fieldAddr0 fl102_2 rfl) rfl (J_st (R_load sc3 rfl (hblk.one 2 rfl)) rfl (J_st (R_shr rfl rfl (by decide)) rfl (J_st (R_move rfl) rfl (J_st (R_nilCheck rfl) rfl (J_st (R_fieldAddr0 fl102_2 rfl) rfl (J_st (R_load sc3 rfl (hblk.one 2 rfl)) rfl (J_st (R_shr rfl rfl (by decide)) rfl (J_st (R_xor rfl rfl) rfl (J_st (R_and rfl rfl) rfl (J_st (R_assign rfl) rfl (J_done ?_)))))))))))))
  refine S_seq ?_
  refine S_seq ?_
  refine S_regD mixed [(0, true), (1, true), (2, true), (3, true), (4, true), (5, true), (6, true), (7, true), (8, true), (9, true)] (by decide +kernel) rfl (fun w3 e2 => ?_)
  replace E := E.ext e2; replace hblk := hblk.ext e2; replace hbs := hbs.ext e2
  have z3 := e2.size
  refine J_st (R_move rfl) rfl (J_st (R_nilCheck rfl) rfl (J_st (R_fieldAddr0 fl102_1 rfl) rfl (J_st (R_load sc3 rfl (hblk.one 1 rfl)) rfl (J_st (R_move rfl) rfl (J_st (R_nilCheck rfl) rfl (J_st (R_fieldAddr0 fl102_0 rfl) rfl (J_st (R_load sc22 rfl (hblk.one 0 rfl)) rfl (J_st (R_len Try.underlying22 rfl hbs.len) rfl (J_st (R_lss rfl rfl) rfl (J_done ?_))))))))))
  refine S_cond rfl (fun hc1 => ?_) (fun hc1 => ?_)
  · have hc1n : icu < bs.length := by first | (have h := of_decide_eq_true hc1; omega) | (have h := hc1; simp at h; omega)
    refine S_seq ?_
    refine S_regD mixed [(0, true), (1, true), (2, true), (3, true), (4, true), (5, true), (6, true), (7, true), (8, true), (9, true), (10, true), (11, true), (12, true), (13, true), (14, true)] (by decide +kernel) rfl (fun w4 e3 => ?_)
    replace E := E.ext e3; replace hblk := hblk.ext e3; replace hbs := hbs.ext e3
    have z4 := e3.size
    refine J_st (R_move rfl) rfl (J_st (R_move rfl) rfl (J_st (R_nilCheck rfl) rfl (J_st (R_fieldAddr0 fl102_0 rfl) rfl (J_st (R_load sc22 rfl (hblk.one 0 rfl)) rfl (J_st (R_move rfl) rfl (J_st (R_nilCheck rfl) rfl (J_st (R_fieldAddr0 fl102_1 rfl) rfl (J_st (R_load sc3 rfl (hblk.one 1 rfl)) rfl ?_))))))))
    have hi1 : icu < bs.length := (by first | assumption | omega | (simp only [List.length_set]; first | assumption | omega) | (simp only [List.getElem_set_self, List.length_set]; first | assumption | omega) | (simp only [setW, setLk, List.length_set]; first | assumption | omega) | (simp; done))
    refine J_st (R_index (i := icu) sl22 rfl rfl (RdD.rd hbs) hi1) rfl (J_st (R_load sc5 rfl (((RdD.rd hbs).get hi1).one 0 rfl)) rfl (J_st (R_conv Try.underlying5 Try.underlying3 rfl) rfl (J_st (R_add rfl rfl rfl) rfl (J_st (R_and rfl rfl) rfl (J_st (R_assign rfl) rfl (J_done ?_))))))
    refine S_reg [true, true, true, true, true, true, true, true, false] rfl rfl ?_
    refine J_st (R_move rfl) rfl (J_st (R_move rfl) rfl (J_st (R_nilCheck rfl) rfl (J_st (R_fieldAddr0 fl102_1 rfl) rfl (J_st (R_load sc3 rfl (hblk.one 1 rfl)) rfl (J_st (R_add rfl rfl (add_one hc1n hbs.1.1)) rfl (J_st (R_nilCheck rfl) rfl (J_st (R_fieldAddr0 fl102_1 rfl) rfl ?_)))))))
    refine J_store' (cs' := [vb, .int .i64 ((icu + 1 : Nat) : Int), .int .i64 (IntKind.i64.wrap ((IntKind.i64.wrap (hcn * 6364136223846793005)) + 1442695040888963407))]) sc3 rfl rfl rfl hblk (Nat.le_of_ble_eq_true rfl) rfl (fun w5 m2 hblk' => ?_)
    replace hblk := hblk'
    replace E := E.mod m2 (fun g hg => by cases hg; omega); replace hbs := hbs.mod m2 (fun g hg => by cases hg; omega)
    have z5 := m2.size
    refine J_done ?_
    refine S_seq ?_
    refine S_reg [true, true] rfl rfl ?_
    refine J_st (R_move rfl) rfl (J_st (R_assign rfl) rfl (J_done ?_))
    refine S_ret (E_done1 rfl rfl E ?_)
    exact ⟨(andB .i64 (IntKind.i64.wrap ((andB .i64 (xorB .i64 (shrB .i64 (IntKind.i64.wrap ((IntKind.i64.wrap (hcn * 6364136223846793005)) + 1442695040888963407)) 33) (shrB .i64 (IntKind.i64.wrap ((IntKind.i64.wrap (hcn * 6364136223846793005)) + 1442695040888963407)) 45)) 255) + (IntKind.i64.wrap ((bs[icu]'hi1).v)))) 255), (andB_255 _).1, (andB_255 _).2, ⟨icu + 1, _, hblk, (by omega)⟩, rfl⟩
  · have hc1n : ¬ icu < bs.length := by first | (have h := of_decide_eq_false hc1; omega) | (have h := hc1; simp at h; omega)
    refine S_skip ?_
    refine S_seq ?_
    refine S_reg [true, true] rfl rfl ?_
    refine J_st (R_move rfl) rfl (J_st (R_assign rfl) rfl (J_done ?_))
    refine S_ret (E_done1 rfl rfl E ?_)
    exact ⟨(andB .i64 (xorB .i64 (shrB .i64 (IntKind.i64.wrap ((IntKind.i64.wrap (hcn * 6364136223846793005)) + 1442695040888963407)) 33) (shrB .i64 (IntKind.i64.wrap ((IntKind.i64.wrap (hcn * 6364136223846793005)) + 1442695040888963407)) 45)) 255), (andB_255 _).1, (andB_255 _).2, ⟨icu, _, hblk, (by omega)⟩, rfl⟩

set_option maxRecDepth 20000 in
theorem s_l01Below (lo : Nat) (vb : Value) (bs : List Byt) (n : Int) (w : World) (hcu : CurO w lo vb bs) (hbs : RdD w 0 lo vb bs) : CtR Try.prog 53 [.pointer (some ⟨lo, 0, none⟩), .int .i64 n] w lo (lo + 1) (fun v w' => ∃ (dr0 : Nat), (0 < n → ((dr0 : Nat) : Int) < n) ∧ (n ≤ 0 → dr0 = 0) ∧ CurO w' lo vb bs ∧ v = .int .i64 ((dr0 : Nat) : Int)) := by
  have y_lo := CurO.lt hcu
  refine ctR_of Try.func53 rfl Try.ntmps53 rfl ?_
  refine S_sub [(0, .pointer (some ⟨lo, 0, none⟩)), (1, .int .i64 n)] ⟨rfl, rfl, trivial⟩ ?_
  have E : ModR w w lo (lo + 1) := ModR.refl w lo (lo + 1)
  refine S_seq ?_
  refine S_reg [true] rfl rfl ?_
  refine J_st (R_assign rfl) rfl (J_done ?_)
  refine S_seq ?_
  refine S_seq ?_
  refine S_reg [true, true] rfl rfl ?_
  refine J_st (R_move rfl) rfl (J_st (R_leq rfl rfl) rfl (J_done ?_))
  refine S_cond rfl (fun hc1 => ?_) (fun hc1 => ?_)
  · have hnp : n ≤ 0 := by exact of_decide_eq_true hc1
    refine S_seq ?_
    refine S_reg [true] rfl rfl ?_
    refine J_st (R_assign rfl) rfl (J_done ?_)
    refine S_ret (E_done1 rfl rfl E ?_)
    exact ⟨0, (fun h => by omega), (fun _ => rfl), hcu, rfl⟩
  · have hnp : ¬ n ≤ 0 := by exact of_decide_eq_false hc1
    refine S_skip ?_
    refine S_seq ?_
    refine S_seq ?_
    refine S_reg [true, true] rfl rfl ?_
    refine J_st (R_move rfl) rfl (J_st (R_leq rfl rfl) rfl (J_done ?_))
    refine S_cond rfl (fun hc2 => ?_) (fun hc2 => ?_)
    · refine S_seq ?_
      refine S_reg [true, false, true, true, true] rfl rfl ?_
      refine J_st (R_move rfl) rfl ?_
      refine J_callR Try.call81 rfl rfl (s_l01Byte lo vb bs _ hcu (RdD.modR hbs E (.inl (Nat.le_refl _)))) rfl (fun _ w1 e1 hv => ?_)
      obtain ⟨dx1, q1, q2, hcu', hv⟩ := hv
      replace hcu := hcu'
      subst hv
      replace E := E.trans e1 (by omega) (by omega)
      have z1 := e1.size
      refine J_st (R_move rfl) rfl (J_st (R_rem rfl rfl (by omega) rfl) rfl (J_st (R_assign rfl) rfl (J_done ?_)))
      refine S_ret (E_done1 rfl rfl E ?_)
      have htm := tmod_nat (n := n) q1 hnp
      exact ⟨_, (fun _ => by rw [htm.1]; exact htm.2), (fun h => absurd h hnp), hcu, congrArg (Value.int .i64) htm.1.symm⟩
    · refine S_skip ?_
      refine S_seq ?_
      refine S_reg [true, false, true] rfl rfl ?_
      refine J_st (R_move rfl) rfl ?_
      refine J_callR Try.call81 rfl rfl (s_l01Byte lo vb bs _ hcu (RdD.modR hbs E (.inl (Nat.le_refl _)))) rfl (fun _ w2 e2 hv => ?_)
      obtain ⟨dx2, q3, q4, hcu', hv⟩ := hv
      replace hcu := hcu'
      subst hv
      replace E := E.trans e2 (by omega) (by omega)
      have z2 := e2.size
      refine J_st (R_assign rfl) rfl (J_done ?_)
      refine S_seq ?_
      refine S_reg [true, false, true] rfl rfl ?_
      refine J_st (R_move rfl) rfl ?_
      refine J_callR Try.call81 rfl rfl (s_l01Byte lo vb bs _ hcu (RdD.modR hbs E (.inl (Nat.le_refl _)))) rfl (fun _ w3 e3 hv => ?_)
      obtain ⟨dx3, q5, q6, hcu', hv⟩ := hv
      replace hcu := hcu'
      subst hv
      replace E := E.trans e3 (by omega) (by omega)
      have z3 := e3.size
      refine J_st (R_assign rfl) rfl (J_done ?_)
      refine S_seq ?_
      refine S_reg [true, false, true] rfl rfl ?_
      refine J_st (R_move rfl) rfl ?_
      refine J_callR Try.call81 rfl rfl (s_l01Byte lo vb bs _ hcu (RdD.modR hbs E (.inl (Nat.le_refl _)))) rfl (fun _ w4 e4 hv => ?_)
      obtain ⟨dx4, q7, q8, hcu', hv⟩ := hv
      replace hcu := hcu'
      subst hv
      replace E := E.trans e4 (by omega) (by omega)
      have z4 := e4.size
      refine J_st (R_assign rfl) rfl (J_done ?_)
      refine S_seq ?_
      refine S_reg [true, false, true] rfl rfl ?_
      refine J_st (R_move rfl) rfl ?_
      refine J_callR Try.call81 rfl rfl (s_l01Byte lo vb bs _ hcu (RdD.modR hbs E (.inl (Nat.le_refl _)))) rfl (fun _ w5 e5 hv => ?_)
      obtain ⟨dx5, q9, q10, hcu', hv⟩ := hv
      replace hcu := hcu'
      subst hv
      replace E := E.trans e5 (by omega) (by omega)
      have z5 := e5.size
      refine J_st (R_assign rfl) rfl (J_done ?_)
      refine S_seq ?_
      refine S_reg [true, true, true, true, true, true, true, true, true, true, true, true, true] rfl rfl ?_
      refine J_st (R_move rfl) rfl (J_st (R_mul rfl rfl rfl) rfl (J_st (R_move rfl) rfl (J_st (R_mul rfl rfl rfl) rfl (J_st (R_add rfl rfl rfl) rfl (J_st (R_move rfl) rfl (J_st (R_mul rfl rfl rfl) rfl (J_st (R_add rfl rfl rfl) rfl (J_st (R_move rfl) rfl (J_st (R_add rfl rfl rfl) rfl (J_st (R_move rfl) rfl (J_st (R_rem rfl rfl (by omega) rfl) rfl (J_st (R_assign rfl) rfl (J_done ?_)))))))))))))
      refine S_ret (E_done1 rfl rfl E ?_)
      have htm := tmod_nat (n := n) (four_nn q3 q4 q5 q6 q7 q8 q9 q10) hnp
      exact ⟨_, (fun _ => by rw [htm.1]; exact htm.2), (fun h => absurd h hnp), hcu, congrArg (Value.int .i64) htm.1.symm⟩

set_option maxRecDepth 20000 in
theorem s_l01Once (lo : Nat) (vb : Value) (bs : List Byt) (n : Int) (w : World) (hcu : CurO w lo vb bs) (hbs : RdD w 0 lo vb bs) : CtR Try.prog 57 [.pointer (some ⟨lo, 0, none⟩), .int .i64 n] w lo (lo + 1) (fun v w' => ∃ (dr0 : Bool), CurO w' lo vb bs ∧ v = .bool dr0) := by
  have y_lo := CurO.lt hcu
  refine ctR_of Try.func57 rfl Try.ntmps57 rfl ?_
  refine S_sub [(0, .pointer (some ⟨lo, 0, none⟩)), (1, .int .i64 n)] ⟨rfl, rfl, trivial⟩ ?_
  have E : ModR w w lo (lo + 1) := ModR.refl w lo (lo + 1)
  refine S_seq ?_
  refine S_reg [true] rfl rfl ?_
  refine J_st (R_assign rfl) rfl (J_done ?_)
  refine S_seq ?_
  refine S_reg [true, true, false, true, true] rfl rfl ?_
  refine J_st (R_move rfl) rfl (J_st (R_move rfl) rfl ?_)
  refine J_callR Try.call53 rfl rfl (s_l01Below lo vb bs n _ hcu (RdD.modR hbs E (.inl (Nat.le_refl _)))) rfl (fun _ w1 e1 hv => ?_)
  obtain ⟨dx1, q1, q2, hcu', hv⟩ := hv
  replace hcu := hcu'
  subst hv
  replace E := E.trans e1 (by omega) (by omega)
  have z1 := e1.size
  refine J_st (R_eql rfl rfl) rfl (J_st (R_assign rfl) rfl (J_done ?_))
  refine S_ret (E_done1 rfl rfl E ?_)
  exact ⟨(((dx1 : Nat) : Int) == 0), hcu, rfl⟩

set_option maxRecDepth 20000 in
theorem s_l01PickInt (lo : Nat) (vb : Value) (bs : List Byt) (vxs : Value) (xs : List Int) (w : World) (hcu : CurO w lo vb bs) (hbs : RdD w 0 lo vb bs) (hxs : Stab w lo (fun w' => RdS w' vxs xs)) (hne : 0 < xs.length) : CtR Try.prog 54 [.pointer (some ⟨lo, 0, none⟩), vxs] w lo (lo + 1) (fun v w' => ∃ (dr0 : Int), dr0 ∈ xs ∧ CurO w' lo vb bs ∧ v = .int .i64 dr0) := by
  have y_lo := CurO.lt hcu
  refine ctR_of Try.func54 rfl Try.ntmps54 rfl ?_
  refine S_sub [(0, .pointer (some ⟨lo, 0, none⟩)), (1, vxs)] ⟨rfl, rfl, trivial⟩ ?_
  have E : ModR w w lo (lo + 1) := ModR.refl w lo (lo + 1)
  refine S_seq ?_
  refine S_reg [true] rfl rfl ?_
  refine J_st (R_assign rfl) rfl (J_done ?_)
  refine S_seq ?_
  refine S_reg [true, true, true, true, false, true, true, true] rfl rfl ?_
  refine J_st (R_move rfl) rfl (J_st (R_move rfl) rfl (J_st (R_move rfl) rfl (J_st (R_len Try.underlying30 rfl (hxs _ E).len) rfl ?_)))
  refine J_callR Try.call53 rfl rfl (s_l01Below lo vb bs ((xs.length : Nat) : Int) _ hcu (RdD.modR hbs E (.inl (Nat.le_refl _)))) rfl (fun _ w1 e1 hv => ?_)
  obtain ⟨dx1, q1, q2, hcu', hv⟩ := hv
  replace hcu := hcu'
  subst hv
  replace E := E.trans e1 (by omega) (by omega)
  have z1 := e1.size
  have hi1 : dx1 < xs.length := (by first | assumption | omega | (simp only [List.length_set]; first | assumption | omega) | (simp only [List.getElem_set_self, List.length_set]; first | assumption | omega) | (simp only [setW, setLk, List.length_set]; first | assumption | omega) | (simp; done))
  refine J_st (R_index (i := dx1) sl30 rfl rfl (hxs _ E) hi1) rfl (J_st (R_load sc3 rfl (((hxs _ E).get hi1).one 0 rfl)) rfl (J_st (R_assign rfl) rfl (J_done ?_)))
  refine S_ret (E_done1 rfl rfl E ?_)
  exact ⟨(xs[dx1]'hi1), (List.getElem_mem _), hcu, rfl⟩

set_option maxRecDepth 20000 in
theorem s_l09Cell (lo : Nat) (vb : Value) (bs : List Byt) (w : World) (hcu : CurO w lo vb bs) (hbs : RdD w 0 lo vb bs) : CtR Try.prog 66 [.pointer (some ⟨lo, 0, none⟩)] w lo (lo + 1) (fun v w' => ∃ (dr0 : Cell), CurO w' lo vb bs ∧ v = .agg (Enc.enc dr0).toArray) := by
  have y_lo := CurO.lt hcu
  refine ctR_of Try.func66 rfl Try.ntmps66 rfl ?_
  refine S_sub [(0, .pointer (some ⟨lo, 0, none⟩))] ⟨rfl, trivial⟩ ?_
  have E : ModR w w lo (lo + 1) := ModR.refl w lo (lo + 1)
  refine S_seq ?_
  refine S_reg [false] rfl rfl ?_
  refine J_alloc st47 rfl (fun b1 w1 e1 s1 h1 => ?_)
  have g_b1 : w.heap.size ≤ b1 := by have := E.size; omega
  have y_b1 := h1.lt
  replace E := E.ext e1; replace hcu := hcu.ext e1
  have z1 := e1.size
  refine J_done ?_
  refine S_seq ?_
  refine S_reg [true, false, true, false, true, false, true, false, true, false] rfl rfl ?_
  refine J_st (R_move rfl) rfl ?_
  refine J_callR Try.call53 rfl rfl (s_l01Below lo vb bs 3 _ hcu (RdD.modR hbs E (.inl (Nat.le_refl _)))) rfl (fun _ w2 e2 hv => ?_)
  obtain ⟨dx1, q1, q2, hcu', hv⟩ := hv
  replace hcu := hcu'
  subst hv
  replace E := E.trans e2 (by omega) (by omega); replace h1 := h1.modR e2 (by omega)
  have z2 := e2.size
  refine J_st (R_move rfl) rfl ?_
  refine J_callR Try.call53 rfl rfl (s_l01Below lo vb bs 2 _ hcu (RdD.modR hbs E (.inl (Nat.le_refl _)))) rfl (fun _ w3 e3 hv => ?_)
  obtain ⟨dx2, q3, q4, hcu', hv⟩ := hv
  replace hcu := hcu'
  subst hv
  replace E := E.trans e3 (by omega) (by omega); replace h1 := h1.modR e3 (by omega)
  have z3 := e3.size
  refine J_st (R_move rfl) rfl ?_
  refine J_callR Try.call53 rfl rfl (s_l01Below lo vb bs 4 _ hcu (RdD.modR hbs E (.inl (Nat.le_refl _)))) rfl (fun _ w4 e4 hv => ?_)
  obtain ⟨dx3, q5, q6, hcu', hv⟩ := hv
  replace hcu := hcu'
  subst hv
  replace E := E.trans e4 (by omega) (by omega); replace h1 := h1.modR e4 (by omega)
  have z4 := e4.size
  refine J_st (R_move rfl) rfl ?_
  refine J_callR Try.call53 rfl rfl (s_l01Below lo vb bs 5 _ hcu (RdD.modR hbs E (.inl (Nat.le_refl _)))) rfl (fun _ w5 e5 hv => ?_)
  obtain ⟨dx4, q7, q8, hcu', hv⟩ := hv
  replace hcu := hcu'
  subst hv
  replace E := E.trans e5 (by omega) (by omega); replace h1 := h1.modR e5 (by omega)
  have z5 := e5.size
  refine J_st (R_build (⟨((dx1 : Nat) : Int), ((dx2 : Nat) : Int), ((dx3 : Nat) : Int), ((dx4 : Nat) : Int)⟩ : Cell) rfl (fun _ => by kernel_rfl)) rfl ?_
  refine J_storeS' (cs' := [.int .i64 ((⟨((dx1 : Nat) : Int), ((dx2 : Nat) : Int), ((dx3 : Nat) : Int), ((dx4 : Nat) : Int)⟩ : Cell).op), .int .i64 ((⟨((dx1 : Nat) : Int), ((dx2 : Nat) : Int), ((dx3 : Nat) : Int), ((dx4 : Nat) : Int)⟩ : Cell).epoch), .int .i64 ((⟨((dx1 : Nat) : Int), ((dx2 : Nat) : Int), ((dx3 : Nat) : Int), ((dx4 : Nat) : Int)⟩ : Cell).key), .int .i64 ((⟨((dx1 : Nat) : Int), ((dx2 : Nat) : Int), ((dx3 : Nat) : Int), ((dx4 : Nat) : Int)⟩ : Cell).val)]) st47 rfl rfl rfl rfl h1 (Nat.le_of_ble_eq_true rfl) rfl (fun w6 m1 h1' => ?_)
  replace h1 := h1'
  replace E := E.mod m1 (fun g hg => by cases hg; omega); replace hcu := hcu.mod m1 (fun g hg => by cases hg; omega)
  have z6 := m1.size
  refine J_done ?_
  refine S_ret (E_doneC rfl rfl (run_loadVar_st st47 h1.at rfl) E ?_)
  exact ⟨(⟨((dx1 : Nat) : Int), ((dx2 : Nat) : Int), ((dx3 : Nat) : Int), ((dx4 : Nat) : Int)⟩ : Cell), hcu, rfl⟩

set_option maxRecDepth 20000 in
theorem s_l09Cells (lo : Nat) (vb : Value) (bs : List Byt) (w : World) (hcu : CurO w lo vb bs) (hbs : RdD w 0 lo vb bs) : CtR Try.prog 65 [.pointer (some ⟨lo, 0, none⟩)] w lo (lo + 1) (fun v w' => ∃ (dr0 : List Cell), dr0.length ≤ 100 ∧ CurO w' lo vb bs ∧ Own w' w.heap.size w'.heap.size 4 v (List.flatMap (Enc.enc (α := Cell)) dr0)) := by
  have y_lo := CurO.lt hcu
  refine ctR_of Try.func65 rfl Try.ntmps65 rfl ?_
  refine S_sub [(0, .pointer (some ⟨lo, 0, none⟩))] ⟨rfl, trivial⟩ ?_
  have E : ModR w w lo (lo + 1) := ModR.refl w lo (lo + 1)
  refine S_seq ?_
  refine S_reg [true] rfl rfl ?_
  refine J_st (R_assign rfl) rfl (J_done ?_)
  refine S_seq ?_
  refine S_reg [false, true] rfl rfl ?_
  refine J_buildSlice (vs := []) (css := []) sl45 rfl rfl trivial rfl rfl (fun b1 w1 e1 s1 h1 => ?_)
  replace h1 : Blk w1 b1 [] := h1
  have g_b1 : w.heap.size ≤ b1 := by have := E.size; omega
  have y_b1 := h1.lt
  replace E := E.ext e1; replace hcu := hcu.ext e1
  have z1 := e1.size
  refine J_st (R_assign rfl) rfl (J_done ?_)
  refine S_seq ?_
  refine S_seq ?_
  refine S_reg [true] rfl rfl ?_
  refine J_st (R_assign rfl) rfl (J_done ?_)
  refine S_block ?_
  refine S_loop (fun (xq : Nat × Value × List Cell) => let ⟨k, vo, ls⟩ := xq; [(0, .pointer (some ⟨lo, 0, none⟩)), (2, .slice none 0 0), (3, vo), (4, .int .i64 ((k : Nat) : Int))]) (fun (xq : Nat × Value × List Cell) w' => let ⟨k, vo, ls⟩ := xq; ModR w w' lo (lo + 1) ∧ w1.heap.size ≤ w'.heap.size ∧ CurO w' lo vb bs ∧ k ≤ 9 ∧ ls.length ≤ k ∧ Own w' w.heap.size w'.heap.size 4 vo (List.flatMap (Enc.enc (α := Cell)) ls)) (fun (xq : Nat × Value × List Cell) => let ⟨k, vo, ls⟩ := xq; 9 - k) (0, .slice (some ⟨b1, 0, none⟩) 0 0, []) ⟨rfl, rfl, rfl, rfl, trivial⟩ ⟨E, Nat.le_refl _, hcu, Nat.zero_le _, Nat.le_refl _, Own.fin (Own.ofBlk (lo := b1) (hi := b1 + 1) (sz := 4) h1 (Nat.le_refl _) (Nat.lt_succ_self _) (by simp) (by simp [maxLen])) (by omega) (by omega) rfl⟩ ?_
  clear E hcu h1
  rintro ⟨k, vo, ls⟩ w2 ⟨E, z2, hcu, hk, hls, ho⟩
  refine S_sub [(0, .pointer (some ⟨lo, 0, none⟩)), (2, .slice none 0 0), (3, vo), (4, .int .i64 ((k : Nat) : Int))] ⟨rfl, rfl, rfl, rfl, trivial⟩ ?_
  refine S_seq ?_
  refine S_seq ?_
  refine S_reg [true, true, false, true] rfl rfl ?_
  refine J_st (R_move rfl) rfl (J_st (R_move rfl) rfl ?_)
  refine J_callR Try.call53 rfl rfl (s_l01Below lo vb bs 9 _ hcu (RdD.modR hbs E (.inl (Nat.le_refl _)))) rfl (fun _ w3 e2 hv => ?_)
  obtain ⟨dx1, q1, q2, hcu', hv⟩ := hv
  replace hcu := hcu'
  subst hv
  replace E := E.trans e2 (by omega) (by omega); replace ho := ho.modR e2 (by omega)
  have z3 := e2.size
  refine J_st (R_lss rfl rfl) rfl (J_done ?_)
  refine S_cond rfl (fun hc1 => ?_) (fun hc1 => ?_)
  · have hc1n : k < dx1 := by first | (have h := of_decide_eq_true hc1; omega) | (have h := hc1; simp at h; omega)
    refine S_skip ?_
    refine S_seq ?_
    refine S_block ?_
    refine S_reg [true, true, false, false, true] rfl rfl ?_
    refine J_st (R_move rfl) rfl (J_st (R_move rfl) rfl ?_)
    refine J_callR Try.call66 rfl rfl (s_l09Cell lo vb bs _ hcu (RdD.modR hbs E (.inl (Nat.le_refl _)))) rfl (fun _ w4 e3 hv => ?_)
    obtain ⟨dx2, hcu', hv⟩ := hv
    replace hcu := hcu'
    subst hv
    replace E := E.trans e3 (by omega) (by omega); replace ho := ho.modR e3 (by omega)
    have z4 := e3.size
    refine J_call Try.call38 rfl (s_PutCell vo ls dx2 _ (Own.rd (by decide) ho) (by omega)) rfl (fun v1 w5 e4 ho1 => ?_)
    have g_ho1 : w.heap.size ≤ w4.heap.size := E.size
    replace E := E.ext e4; replace hcu := hcu.ext e4; replace ho := ho.ext e4
    have z5 := e4.size
    refine J_st (R_assign rfl) rfl (J_done ?_)
    refine S_nil (E_inB ?_)
    refine S_reg [true, true, true] rfl rfl ?_
    refine J_st (R_move rfl) rfl (J_st (R_add rfl rfl (add_nat (by unfold maxLen; omega))) rfl (J_st (R_assign rfl) rfl (J_done ?_)))
    refine S_nil (E_again (k + 1, v1, (putM ls dx2)) (by simp; omega) ⟨rfl, rfl, rfl, rfl, trivial⟩ ⟨E, (by omega), hcu, (by omega), (Nat.le_trans (putM_len _ _) (by omega)), Own.fin ho1 (by omega) (by omega) (by simp [*])⟩)
  · have hc1n : ¬ k < dx1 := by first | (have h := of_decide_eq_false hc1; omega) | (have h := hc1; simp at h; omega)
    refine S_exit (E_lp_exit (E_inB_exit ?_))
    refine S_seq ?_
    refine S_seq ?_
    refine S_reg [true, false] rfl rfl ?_
    refine J_st (R_move rfl) rfl ?_
    refine J_callR Try.call57 rfl rfl (s_l01Once lo vb bs 10 _ hcu (RdD.modR hbs E (.inl (Nat.le_refl _)))) rfl (fun _ w6 e5 hv => ?_)
    obtain ⟨dx3, hcu', hv⟩ := hv
    replace hcu := hcu'
    subst hv
    replace E := E.trans e5 (by omega) (by omega); replace ho := ho.modR e5 (by omega)
    have z6 := e5.size
    refine J_done ?_
    refine S_cond rfl (fun hc2 => ?_) (fun hc2 => ?_)
    · refine S_reg [true, true, false, false, false, true] rfl rfl ?_
      refine J_st (R_move rfl) rfl (J_st (R_move rfl) rfl ?_)
      refine J_callR Try.call66 rfl rfl (s_l09Cell lo vb bs _ hcu (RdD.modR hbs E (.inl (Nat.le_refl _)))) rfl (fun _ w7 e6 hv => ?_)
      obtain ⟨dx4, hcu', hv⟩ := hv
      replace hcu := hcu'
      subst hv
      replace E := E.trans e6 (by omega) (by omega); replace ho := ho.modR e6 (by omega)
      have z7 := e6.size
      refine J_buildSlice (vs := [.agg (Enc.enc dx4).toArray]) (css := [[.int .i64 dx4.op, .int .i64 dx4.epoch, .int .i64 dx4.key, .int .i64 dx4.val]]) sl45 rfl rfl ⟨⟨rfl, rfl⟩, trivial⟩ rfl rfl (fun b2 w8 e7 s2 h2 => ?_)
      replace h2 : Blk w8 b2 [.int .i64 dx4.op, .int .i64 dx4.epoch, .int .i64 dx4.key, .int .i64 dx4.val] := h2
      have g_b2 : w.heap.size ≤ b2 := by have := E.size; omega
      have y_b2 := h2.lt
      replace E := E.ext e7; replace hcu := hcu.ext e7; replace ho := ho.ext e7
      have z8 := e7.size
      refine J_append sl45 rfl rfl ho (Src.ofBlk h2 rfl) rfl (by simp only [sum_flat, List.length_cons, List.length_nil]; simp only [Enc.sz]; omega) (by decide) (by omega) (by omega) rfl rfl (fun v2 w9 m1 ho2 => ?_)
      replace E := E.mod m1 (fun g hg => by have := Own.blk ho g hg; omega); replace hcu := hcu.mod m1 (fun g hg => by have := Own.blk ho g hg; omega)
      have z9 := m1.size
      refine J_st (R_assign rfl) rfl (J_done ?_)
      refine S_seq ?_
      refine S_reg [true, true] rfl rfl ?_
      refine J_st (R_move rfl) rfl (J_st (R_assign rfl) rfl (J_done ?_))
      refine S_ret (E_done1 rfl rfl E ?_)
      exact ⟨(ls ++ [dx4]), (by first | omega | (simp; omega)), hcu, Own.fin ho2 (by have := E.size; omega) (by omega) (by first | (simp [*]; done) | (simp [*]; rfl))⟩
    · refine S_skip ?_
      refine S_seq ?_
      refine S_reg [true, true] rfl rfl ?_
      refine J_st (R_move rfl) rfl (J_st (R_assign rfl) rfl (J_done ?_))
      refine S_ret (E_done1 rfl rfl E ?_)
      exact ⟨ls, (by first | omega | (simp; omega)), hcu, Own.fin ho (by have := E.size; omega) (by omega) (by first | (simp [*]; done) | (simp [*]; rfl))⟩

set_option maxRecDepth 20000 in
theorem s_DrawRecall (vcode : Value) (code : List Byt) (w : World) (hcode : RdS w vcode code) : Ct Try.prog 25 [vcode] w (fun v w' => ∃ (dr0 : Int) (dr1 : List Cell) (dr2 : Cell), dr1.length ≤ 100 ∧ ∃ u1, v = .tuple [.int .i64 dr0, u1, .agg (Enc.enc dr2).toArray].toArray ∧ Own w' w.heap.size w'.heap.size 4 u1 (List.flatMap (Enc.enc (α := Cell)) dr1)) := by
  refine ct_of Try.func25 rfl Try.ntmps25 rfl ?_
  refine S_sub [(0, vcode)] ⟨rfl, trivial⟩ ?_
  have E : Ext w w := Ext.refl w
  refine S_seq ?_
  refine S_reg [true, true, false] rfl rfl ?_
  refine J_st (R_assign rfl) rfl (J_st (R_assign rfl) rfl ?_)
  refine J_alloc st47 rfl (fun b1 w1 e1 s1 h1 => ?_)
  have g_b1 : w.heap.size ≤ b1 := by have := E.size; omega
  have y_b1 := h1.lt
  replace E := E.trans e1
  have z1 := e1.size
  refine J_done ?_
  refine S_seq ?_
  refine S_reg [true, false, true] rfl rfl ?_
  refine J_st (R_move rfl) rfl ?_
  refine J_call Try.call48 rfl (s_l01New vcode code _ (hcode.ext E)) rfl (fun _ w2 e2 hcu1 => ?_)
  obtain ⟨bc1, rfl, ybc1, hcu1⟩ := hcu1
  have g_bc1 : w.heap.size ≤ bc1 := Nat.le_trans E.size ybc1
  have y_bc1 := CurO.lt hcu1
  replace E := E.trans e2; replace h1 := h1.ext e2
  have z2 := e2.size
  refine J_st (R_assign rfl) rfl (J_done ?_)
  refine S_seq ?_
  refine S_reg [true, false, false, true, false, true, false, true, true, false] rfl rfl ?_
  refine J_st (R_move rfl) rfl ?_
  refine J_buildSlice (vs := [.int .i64 5, .int .i64 6, .int .i64 8, .int .i64 5, .int .i64 6, .int .i64 2, .int .i64 0]) (css := [[.int .i64 5], [.int .i64 6], [.int .i64 8], [.int .i64 5], [.int .i64 6], [.int .i64 2], [.int .i64 0]]) sl30 rfl rfl ⟨⟨rfl, rfl⟩, ⟨rfl, rfl⟩, ⟨rfl, rfl⟩, ⟨rfl, rfl⟩, ⟨rfl, rfl⟩, ⟨rfl, rfl⟩, ⟨rfl, rfl⟩, trivial⟩ rfl rfl (fun b2 w3 e3 s2 h2 => ?_)
  replace h2 : Blk w3 b2 [.int .i64 5, .int .i64 6, .int .i64 8, .int .i64 5, .int .i64 6, .int .i64 2, .int .i64 0] := h2
  have g_b2 : w.heap.size ≤ b2 := by have := E.size; omega
  have y_b2 := h2.lt
  replace E := E.trans e3; replace h1 := h1.ext e3; replace hcu1 := hcu1.ext e3
  have z3 := e3.size
  refine J_callR Try.call54 rfl rfl (s_l01PickInt bc1 vcode code (.slice (some ⟨b2, 0, none⟩) 7 7) [5, 6, 8, 5, 6, 2, 0] _ hcu1 (RdD.widen (RdD.ext (RdS.rdD hcode) E) (Nat.le_refl _) (by omega)) (fun wX eX => (Blk.rd (α := Int) (xs := [5, 6, 8, 5, 6, 2, 0]) (by decide) (Blk.modR h2 eX (by omega)) rfl (by simp [maxLen]))) (by decide)) rfl (fun _ w4 e4 hv => ?_)
  obtain ⟨dx1, q1, hcu1', hv⟩ := hv
  replace hcu1 := hcu1'
  subst hv
  replace E := E.stepR e4 (by omega); replace h1 := h1.modR e4 (by omega); replace h2 := h2.modR e4 (by omega)
  have z4 := e4.size
  refine J_st (R_move rfl) rfl ?_
  refine J_callR Try.call65 rfl rfl (s_l09Cells bc1 vcode code _ hcu1 (RdD.widen (RdD.ext (RdS.rdD hcode) E) (Nat.le_refl _) (by omega))) rfl (fun v1 w5 e5 ho1 => ?_)
  obtain ⟨dx2, q2, hcu1', ho1⟩ := ho1
  replace hcu1 := hcu1'
  have g_ho1 : w.heap.size ≤ w4.heap.size := E.size
  replace E := E.stepR e5 (by omega); replace h1 := h1.modR e5 (by omega); replace h2 := h2.modR e5 (by omega)
  have z5 := e5.size
  refine J_st (R_move rfl) rfl ?_
  refine J_callR Try.call66 rfl rfl (s_l09Cell bc1 vcode code _ hcu1 (RdD.widen (RdD.ext (RdS.rdD hcode) E) (Nat.le_refl _) (by omega))) rfl (fun _ w6 e6 hv => ?_)
  obtain ⟨dx3, hcu1', hv⟩ := hv
  replace hcu1 := hcu1'
  subst hv
  replace E := E.stepR e6 (by omega); replace h1 := h1.modR e6 (by omega); replace h2 := h2.modR e6 (by omega); replace ho1 := ho1.modR e6 (by omega)
  have z6 := e6.size
  refine J_st (R_assign rfl) rfl (J_st (R_assign rfl) rfl ?_)
  refine J_storeS' (cs' := [.int .i64 dx3.op, .int .i64 dx3.epoch, .int .i64 dx3.key, .int .i64 dx3.val]) st47 rfl rfl rfl rfl h1 (Nat.le_of_ble_eq_true rfl) rfl (fun w7 m1 h1' => ?_)
  replace h1 := h1'
  replace E := E.step m1 (fun g hg => by cases hg; omega); replace hcu1 := hcu1.mod m1 (fun g hg => by cases hg; omega); replace h2 := h2.mod m1 (fun g hg => by cases hg; omega); replace ho1 := ho1.mod m1 (fun g hg => by cases hg; omega)
  have z7 := m1.size
  refine J_done ?_
  refine S_ret (E_doneN (l := [.tmp 2, .tmp 3, .cell 4 47]) (vs := [.int .i64 dx1, v1, .agg (Enc.enc dx3).toArray]) rfl ⟨.tmp rfl, .tmp rfl, .cell rfl (run_loadVar_st st47 h1.at rfl), trivial⟩ rfl E ?_)
  exact ⟨dx1, dx2, dx3, (by omega), ⟨_, rfl, (Own.fin ho1 (by have := E.size; omega) (by omega) (by first | (simp [*]; done) | (simp [*]; rfl)))⟩⟩

set_option maxRecDepth 20000 in
theorem s_DrawPutCell (vcode : Value) (code : List Byt) (w : World) (hcode : RdS w vcode code) : Ct Try.prog 31 [vcode] w (fun v w' => ∃ (dr0 : List Cell) (dr1 : Cell), dr0.length ≤ 100 ∧ ∃ u0, v = .tuple [u0, .agg (Enc.enc dr1).toArray].toArray ∧ Own w' w.heap.size w'.heap.size 4 u0 (List.flatMap (Enc.enc (α := Cell)) dr0)) := by
  refine ct_of Try.func31 rfl Try.ntmps31 rfl ?_
  refine S_sub [(0, vcode)] ⟨rfl, trivial⟩ ?_
  have E : Ext w w := Ext.refl w
  refine S_seq ?_
  refine S_reg [true, false] rfl rfl ?_
  refine J_st (R_assign rfl) rfl ?_
  refine J_alloc st47 rfl (fun b1 w1 e1 s1 h1 => ?_)
  have g_b1 : w.heap.size ≤ b1 := by have := E.size; omega
  have y_b1 := h1.lt
  replace E := E.trans e1
  have z1 := e1.size
  refine J_done ?_
  refine S_seq ?_
  refine S_reg [true, false, true] rfl rfl ?_
  refine J_st (R_move rfl) rfl ?_
  refine J_call Try.call48 rfl (s_l01New vcode code _ (hcode.ext E)) rfl (fun _ w2 e2 hcu1 => ?_)
  obtain ⟨bc1, rfl, ybc1, hcu1⟩ := hcu1
  have g_bc1 : w.heap.size ≤ bc1 := Nat.le_trans E.size ybc1
  have y_bc1 := CurO.lt hcu1
  replace E := E.trans e2; replace h1 := h1.ext e2
  have z2 := e2.size
  refine J_st (R_assign rfl) rfl (J_done ?_)
  refine S_seq ?_
  refine S_reg [true, false, true, false, true, false] rfl rfl ?_
  refine J_st (R_move rfl) rfl ?_
  refine J_callR Try.call65 rfl rfl (s_l09Cells bc1 vcode code _ hcu1 (RdD.widen (RdD.ext (RdS.rdD hcode) E) (Nat.le_refl _) (by omega))) rfl (fun v1 w3 e3 ho1 => ?_)
  obtain ⟨dx1, q1, hcu1', ho1⟩ := ho1
  replace hcu1 := hcu1'
  have g_ho1 : w.heap.size ≤ w2.heap.size := E.size
  replace E := E.stepR e3 (by omega); replace h1 := h1.modR e3 (by omega)
  have z3 := e3.size
  refine J_st (R_move rfl) rfl ?_
  refine J_callR Try.call66 rfl rfl (s_l09Cell bc1 vcode code _ hcu1 (RdD.widen (RdD.ext (RdS.rdD hcode) E) (Nat.le_refl _) (by omega))) rfl (fun _ w4 e4 hv => ?_)
  obtain ⟨dx2, hcu1', hv⟩ := hv
  replace hcu1 := hcu1'
  subst hv
  replace E := E.stepR e4 (by omega); replace h1 := h1.modR e4 (by omega); replace ho1 := ho1.modR e4 (by omega)
  have z4 := e4.size
  refine J_st (R_assign rfl) rfl ?_
  refine J_storeS' (cs' := [.int .i64 dx2.op, .int .i64 dx2.epoch, .int .i64 dx2.key, .int .i64 dx2.val]) st47 rfl rfl rfl rfl h1 (Nat.le_of_ble_eq_true rfl) rfl (fun w5 m1 h1' => ?_)
  replace h1 := h1'
  replace E := E.step m1 (fun g hg => by cases hg; omega); replace hcu1 := hcu1.mod m1 (fun g hg => by cases hg; omega); replace ho1 := ho1.mod m1 (fun g hg => by cases hg; omega)
  have z5 := m1.size
  refine J_done ?_
  refine S_ret (E_doneN (l := [.tmp 2, .cell 3 47]) (vs := [v1, .agg (Enc.enc dx2).toArray]) rfl ⟨.tmp rfl, .cell rfl (run_loadVar_st st47 h1.at rfl), trivial⟩ rfl E ?_)
  exact ⟨dx1, dx2, (by omega), ⟨_, rfl, (Own.fin ho1 (by have := E.size; omega) (by omega) (by first | (simp [*]; done) | (simp [*]; rfl)))⟩⟩

set_option maxRecDepth 20000 in
theorem s_DrawLeastOf (vcode : Value) (code : List Byt) (w : World) (hcode : RdS w vcode code) : Ct Try.prog 33 [vcode] w (fun v w' => ∃ (dr0 : List Cell) (dr1 : Nat) (dr2 : Nat) (dr3 : Nat), dr0.length ≤ 100 ∧ ∃ u0, v = .tuple [u0, .int .i64 ((dr1 : Nat) : Int), .int .i64 ((dr2 : Nat) : Int), .int .i64 ((dr3 : Nat) : Int)].toArray ∧ Own w' w.heap.size w'.heap.size 4 u0 (List.flatMap (Enc.enc (α := Cell)) dr0)) := by
  refine ct_of Try.func33 rfl Try.ntmps33 rfl ?_
  refine S_sub [(0, vcode)] ⟨rfl, trivial⟩ ?_
  have E : Ext w w := Ext.refl w
  refine S_seq ?_
  refine S_reg [true, true, true, true] rfl rfl ?_
  refine J_st (R_assign rfl) rfl (J_st (R_assign rfl) rfl (J_st (R_assign rfl) rfl (J_st (R_assign rfl) rfl (J_done ?_))))
  refine S_seq ?_
  refine S_reg [true, false, true] rfl rfl ?_
  refine J_st (R_move rfl) rfl ?_
  refine J_call Try.call48 rfl (s_l01New vcode code _ (hcode.ext E)) rfl (fun _ w1 e1 hcu1 => ?_)
  obtain ⟨bc1, rfl, ybc1, hcu1⟩ := hcu1
  have g_bc1 : w.heap.size ≤ bc1 := Nat.le_trans E.size ybc1
  have y_bc1 := CurO.lt hcu1
  replace E := E.trans e1
  have z1 := e1.size
  refine J_st (R_assign rfl) rfl (J_done ?_)
  refine S_seq ?_
  refine S_reg [true, false, true, false, true, false, true, false, true, true, true, true] rfl rfl ?_
  refine J_st (R_move rfl) rfl ?_
  refine J_callR Try.call65 rfl rfl (s_l09Cells bc1 vcode code _ hcu1 (RdD.widen (RdD.ext (RdS.rdD hcode) E) (Nat.le_refl _) (by omega))) rfl (fun v1 w2 e2 ho1 => ?_)
  obtain ⟨dx1, q1, hcu1', ho1⟩ := ho1
  replace hcu1 := hcu1'
  have g_ho1 : w.heap.size ≤ w1.heap.size := E.size
  replace E := E.stepR e2 (by omega)
  have z2 := e2.size
  refine J_st (R_move rfl) rfl ?_
  refine J_callR Try.call53 rfl rfl (s_l01Below bc1 vcode code 3 _ hcu1 (RdD.widen (RdD.ext (RdS.rdD hcode) E) (Nat.le_refl _) (by omega))) rfl (fun _ w3 e3 hv => ?_)
  obtain ⟨dx2, q2, q3, hcu1', hv⟩ := hv
  replace hcu1 := hcu1'
  subst hv
  replace E := E.stepR e3 (by omega); replace ho1 := ho1.modR e3 (by omega)
  have z3 := e3.size
  refine J_st (R_move rfl) rfl ?_
  refine J_callR Try.call53 rfl rfl (s_l01Below bc1 vcode code 2 _ hcu1 (RdD.widen (RdD.ext (RdS.rdD hcode) E) (Nat.le_refl _) (by omega))) rfl (fun _ w4 e4 hv => ?_)
  obtain ⟨dx3, q4, q5, hcu1', hv⟩ := hv
  replace hcu1 := hcu1'
  subst hv
  replace E := E.stepR e4 (by omega); replace ho1 := ho1.modR e4 (by omega)
  have z4 := e4.size
  refine J_st (R_move rfl) rfl ?_
  refine J_callR Try.call53 rfl rfl (s_l01Below bc1 vcode code 4 _ hcu1 (RdD.widen (RdD.ext (RdS.rdD hcode) E) (Nat.le_refl _) (by omega))) rfl (fun _ w5 e5 hv => ?_)
  obtain ⟨dx4, q6, q7, hcu1', hv⟩ := hv
  replace hcu1 := hcu1'
  subst hv
  replace E := E.stepR e5 (by omega); replace ho1 := ho1.modR e5 (by omega)
  have z5 := e5.size
  refine J_st (R_assign rfl) rfl (J_st (R_assign rfl) rfl (J_st (R_assign rfl) rfl (J_st (R_assign rfl) rfl (J_done ?_))))
  refine S_ret (E_doneN (l := [.tmp 2, .tmp 3, .tmp 4, .tmp 5]) (vs := [v1, .int .i64 ((dx2 : Nat) : Int), .int .i64 ((dx3 : Nat) : Int), .int .i64 ((dx4 : Nat) : Int)]) rfl ⟨.tmp rfl, .tmp rfl, .tmp rfl, .tmp rfl, trivial⟩ rfl E ?_)
  exact ⟨dx1, dx2, dx3, dx4, (by omega), ⟨_, rfl, (Own.fin ho1 (by have := E.size; omega) (by omega) (by first | (simp [*]; done) | (simp [*]; rfl)))⟩⟩

set_option maxRecDepth 20000 in
theorem s_DrawCellsOf (vcode : Value) (code : List Byt) (w : World) (hcode : RdS w vcode code) : Ct Try.prog 36 [vcode] w (fun v w' => ∃ (dr0 : List Cell) (dr1 : Int) (dr2 : Int), dr0.length ≤ 100 ∧ ∃ u0, v = .tuple [u0, .int .i64 dr1, .int .i64 dr2].toArray ∧ Own w' w.heap.size w'.heap.size 4 u0 (List.flatMap (Enc.enc (α := Cell)) dr0)) := by
  refine ct_of Try.func36 rfl Try.ntmps36 rfl ?_
  refine S_sub [(0, vcode)] ⟨rfl, trivial⟩ ?_
  have E : Ext w w := Ext.refl w
  refine S_seq ?_
  refine S_reg [true, true, true] rfl rfl ?_
  refine J_st (R_assign rfl) rfl (J_st (R_assign rfl) rfl (J_st (R_assign rfl) rfl (J_done ?_)))
  refine S_seq ?_
  refine S_reg [true, false, true] rfl rfl ?_
  refine J_st (R_move rfl) rfl ?_
  refine J_call Try.call48 rfl (s_l01New vcode code _ (hcode.ext E)) rfl (fun _ w1 e1 hcu1 => ?_)
  obtain ⟨bc1, rfl, ybc1, hcu1⟩ := hcu1
  have g_bc1 : w.heap.size ≤ bc1 := Nat.le_trans E.size ybc1
  have y_bc1 := CurO.lt hcu1
  replace E := E.trans e1
  have z1 := e1.size
  refine J_st (R_assign rfl) rfl (J_done ?_)
  refine S_seq ?_
  refine S_reg [true, false, true, false, true, true, false, true, true, true, true] rfl rfl ?_
  refine J_st (R_move rfl) rfl ?_
  refine J_callR Try.call65 rfl rfl (s_l09Cells bc1 vcode code _ hcu1 (RdD.widen (RdD.ext (RdS.rdD hcode) E) (Nat.le_refl _) (by omega))) rfl (fun v1 w2 e2 ho1 => ?_)
  obtain ⟨dx1, q1, hcu1', ho1⟩ := ho1
  replace hcu1 := hcu1'
  have g_ho1 : w.heap.size ≤ w1.heap.size := E.size
  replace E := E.stepR e2 (by omega)
  have z2 := e2.size
  refine J_st (R_move rfl) rfl ?_
  refine J_callR Try.call53 rfl rfl (s_l01Below bc1 vcode code 4 _ hcu1 (RdD.widen (RdD.ext (RdS.rdD hcode) E) (Nat.le_refl _) (by omega))) rfl (fun _ w3 e3 hv => ?_)
  obtain ⟨dx2, q2, q3, hcu1', hv⟩ := hv
  replace hcu1 := hcu1'
  subst hv
  replace E := E.stepR e3 (by omega); replace ho1 := ho1.modR e3 (by omega)
  have z3 := e3.size
  refine J_st (R_sub rfl rfl rfl) rfl (J_st (R_move rfl) rfl ?_)
  refine J_callR Try.call53 rfl rfl (s_l01Below bc1 vcode code 3 _ hcu1 (RdD.widen (RdD.ext (RdS.rdD hcode) E) (Nat.le_refl _) (by omega))) rfl (fun _ w4 e4 hv => ?_)
  obtain ⟨dx3, q4, q5, hcu1', hv⟩ := hv
  replace hcu1 := hcu1'
  subst hv
  replace E := E.stepR e4 (by omega); replace ho1 := ho1.modR e4 (by omega)
  have z4 := e4.size
  refine J_st (R_sub rfl rfl rfl) rfl (J_st (R_assign rfl) rfl (J_st (R_assign rfl) rfl (J_st (R_assign rfl) rfl (J_done ?_))))
  refine S_ret (E_doneN (l := [.tmp 2, .tmp 3, .tmp 4]) (vs := [v1, .int .i64 (IntKind.i64.wrap (((dx2 : Nat) : Int) - 1)), .int .i64 (IntKind.i64.wrap (((dx3 : Nat) : Int) - 1))]) rfl ⟨.tmp rfl, .tmp rfl, .tmp rfl, trivial⟩ rfl E ?_)
  exact ⟨dx1, (IntKind.i64.wrap (((dx2 : Nat) : Int) - 1)), (IntKind.i64.wrap (((dx3 : Nat) : Int) - 1)), (by omega), ⟨_, rfl, (Own.fin ho1 (by have := E.size; omega) (by omega) (by first | (simp [*]; done) | (simp [*]; rfl)))⟩⟩

set_option maxRecDepth 20000 in
theorem s_DrawCellOrder (vcode : Value) (code : List Byt) (w : World) (hcode : RdS w vcode code) : Ct Try.prog 37 [vcode] w (fun v _ => ∃ (dr0 : Cell) (dr1 : Cell), v = .tuple [.agg (Enc.enc dr0).toArray, .agg (Enc.enc dr1).toArray].toArray) := by
  refine ct_of Try.func37 rfl Try.ntmps37 rfl ?_
  refine S_sub [(0, vcode)] ⟨rfl, trivial⟩ ?_
  have E : Ext w w := Ext.refl w
  refine S_seq ?_
  refine S_reg [false, false] rfl rfl ?_
  refine J_alloc st47 rfl (fun b1 w1 e1 s1 h1 => ?_)
  have g_b1 : w.heap.size ≤ b1 := by have := E.size; omega
  have y_b1 := h1.lt
  replace E := E.trans e1
  have z1 := e1.size
  refine J_alloc st47 rfl (fun b2 w2 e2 s2 h2 => ?_)
  have g_b2 : w.heap.size ≤ b2 := by have := E.size; omega
  have y_b2 := h2.lt
  replace E := E.trans e2; replace h1 := h1.ext e2
  have z2 := e2.size
  refine J_done ?_
  refine S_seq ?_
  refine S_reg [true, false, true] rfl rfl ?_
  refine J_st (R_move rfl) rfl ?_
  refine J_call Try.call48 rfl (s_l01New vcode code _ (hcode.ext E)) rfl (fun _ w3 e3 hcu1 => ?_)
  obtain ⟨bc1, rfl, ybc1, hcu1⟩ := hcu1
  have g_bc1 : w.heap.size ≤ bc1 := Nat.le_trans E.size ybc1
  have y_bc1 := CurO.lt hcu1
  replace E := E.trans e3; replace h1 := h1.ext e3; replace h2 := h2.ext e3
  have z3 := e3.size
  refine J_st (R_assign rfl) rfl (J_done ?_)
  refine S_seq ?_
  refine S_reg [true, false, true, false, false, false] rfl rfl ?_
  refine J_st (R_move rfl) rfl ?_
  refine J_callR Try.call66 rfl rfl (s_l09Cell bc1 vcode code _ hcu1 (RdD.widen (RdD.ext (RdS.rdD hcode) E) (Nat.le_refl _) (by omega))) rfl (fun _ w4 e4 hv => ?_)
  obtain ⟨dx1, hcu1', hv⟩ := hv
  replace hcu1 := hcu1'
  subst hv
  replace E := E.stepR e4 (by omega); replace h1 := h1.modR e4 (by omega); replace h2 := h2.modR e4 (by omega)
  have z4 := e4.size
  refine J_st (R_move rfl) rfl ?_
  refine J_callR Try.call66 rfl rfl (s_l09Cell bc1 vcode code _ hcu1 (RdD.widen (RdD.ext (RdS.rdD hcode) E) (Nat.le_refl _) (by omega))) rfl (fun _ w5 e5 hv => ?_)
  obtain ⟨dx2, hcu1', hv⟩ := hv
  replace hcu1 := hcu1'
  subst hv
  replace E := E.stepR e5 (by omega); replace h1 := h1.modR e5 (by omega); replace h2 := h2.modR e5 (by omega)
  have z5 := e5.size
  refine J_storeS' (cs' := [.int .i64 dx1.op, .int .i64 dx1.epoch, .int .i64 dx1.key, .int .i64 dx1.val]) st47 rfl rfl rfl rfl h1 (Nat.le_of_ble_eq_true rfl) rfl (fun w6 m1 h1' => ?_)
  replace h1 := h1'
  replace E := E.step m1 (fun g hg => by cases hg; omega); replace h2 := h2.mod m1 (fun g hg => by cases hg; omega); replace hcu1 := hcu1.mod m1 (fun g hg => by cases hg; omega)
  have z6 := m1.size
  refine J_storeS' (cs' := [.int .i64 dx2.op, .int .i64 dx2.epoch, .int .i64 dx2.key, .int .i64 dx2.val]) st47 rfl rfl rfl rfl h2 (Nat.le_of_ble_eq_true rfl) rfl (fun w7 m2 h2' => ?_)
  replace h2 := h2'
  replace E := E.step m2 (fun g hg => by cases hg; omega); replace h1 := h1.mod m2 (fun g hg => by cases hg; omega); replace hcu1 := hcu1.mod m2 (fun g hg => by cases hg; omega)
  have z7 := m2.size
  refine J_done ?_
  refine S_ret (E_doneN (l := [.cell 2 47, .cell 3 47]) (vs := [.agg (Enc.enc dx1).toArray, .agg (Enc.enc dx2).toArray]) rfl ⟨.cell rfl (run_loadVar_st st47 h1.at rfl), .cell rfl (run_loadVar_st st47 h2.at rfl), trivial⟩ rfl E ?_)
  exact ⟨dx1, dx2, rfl⟩

set_option maxRecDepth 20000 in
theorem l_sameCells (vxs : Value) (xs : List Cell) (vys : Value) (ys : List Cell) (w : World) (hxs : RdS w vxs xs) (hys : RdS w vys ys) : Ct Try.prog 28 [vxs, vys] w (fun v _ => v = .bool (decide (xs = ys))) := by
  refine ct_of Try.func28 rfl Try.ntmps28 rfl ?_
  refine S_sub [(0, vxs), (1, vys)] ⟨rfl, rfl, trivial⟩ ?_
  have E : Ext w w := Ext.refl w
  refine S_seq ?_
  refine S_reg [true] rfl rfl ?_
  refine J_st (R_assign rfl) rfl (J_done ?_)
  refine S_seq ?_
  refine S_seq ?_
  refine S_reg [true, true, true, true, true] rfl rfl ?_
  refine J_st (R_move rfl) rfl (J_st (R_len Try.underlying45 rfl (hxs.ext E).len) rfl (J_st (R_move rfl) rfl (J_st (R_len Try.underlying45 rfl (hys.ext E).len) rfl (J_st (R_neq rfl rfl) rfl (J_done ?_)))))
  refine S_cond rfl (fun hc1 => ?_) (fun hc1 => ?_)
  · have hc1n : ¬ xs.length = ys.length := by first | (have h := of_decide_eq_true hc1; omega) | (have h := hc1; simp at h; omega)
    refine S_seq ?_
    refine S_reg [true] rfl rfl ?_
    refine J_st (R_assign rfl) rfl (J_done ?_)
    refine S_ret (E_done1 rfl rfl E ?_)
    simp [eq_len hc1n]
  · have hc1n : xs.length = ys.length := by first | (have h := of_decide_eq_false hc1; omega) | (have h := hc1; simp at h; omega)
    refine S_skip ?_
    refine S_seq ?_
    refine S_seq ?_
    refine S_reg [true] rfl rfl ?_
    refine J_st (R_assign rfl) rfl (J_done ?_)
    refine S_block ?_
    refine S_loop (fun (k : Nat) => [(0, vxs), (1, vys), (4, .bool false), (5, .int .i64 ((k : Nat) : Int))]) (fun (k : Nat) w' => Ext w w' ∧ w.heap.size ≤ w'.heap.size ∧ k ≤ xs.length ∧ xs.take k = ys.take k) (fun (k : Nat) => xs.length - k) 0 ⟨rfl, rfl, rfl, rfl, trivial⟩ ⟨E, Nat.le_refl _, Nat.zero_le _, rfl⟩ ?_
    clear E
    rintro k w1 ⟨E, z1, hk, hp⟩
    refine S_seq ?_
    refine S_seq ?_
    refine S_reg [true, true, true, true] rfl rfl ?_
    refine J_st (R_move rfl) rfl (J_st (R_move rfl) rfl (J_st (R_len Try.underlying45 rfl (hxs.ext E).len) rfl (J_st (R_lss rfl rfl) rfl (J_done ?_))))
    refine S_cond rfl (fun hc2 => ?_) (fun hc2 => ?_)
    · have hc2n : k < xs.length := by first | (have h := of_decide_eq_true hc2; omega) | (have h := hc2; simp at h; omega)
      refine S_skip ?_
      refine S_seq ?_
      refine S_block ?_
      refine S_seq ?_
      refine S_regD mixed [(0, true), (1, true), (2, true), (3, true), (4, true), (5, true), (6, true), (7, true), (8, true)] (by decide +kernel) rfl (fun w2 e1 => ?_)
      replace E := E.trans e1
      have z2 := e1.size
      refine J_st (R_move rfl) rfl (J_st (R_move rfl) rfl ?_)
      have hi1 : k < xs.length := (by first | assumption | omega | (simp only [List.length_set]; first | assumption | omega) | (simp only [List.getElem_set_self, List.length_set]; first | assumption | omega) | (simp only [setW, setLk, List.length_set]; first | assumption | omega) | (simp; done))
      refine J_st (R_index (i := k) sl45 rfl rfl (hxs.ext E) hi1) rfl (J_st (R_loadS st47 rfl ((hxs.ext E).get hi1) rfl) rfl (J_st (R_move rfl) rfl (J_st (R_move rfl) rfl ?_)))
      have hi2 : k < ys.length := (by first | assumption | omega | (simp only [List.length_set]; first | assumption | omega) | (simp only [List.getElem_set_self, List.length_set]; first | assumption | omega) | (simp only [setW, setLk, List.length_set]; first | assumption | omega) | (simp; done))
      refine J_st (R_index (i := k) sl45 rfl rfl (hys.ext E) hi2) rfl (J_st (R_loadS st47 rfl ((hys.ext E).get hi2) rfl) rfl (J_st (R_neqS (ne47 (xs[k]'hi1) (ys[k]'hi2)) eqg47 rfl rfl) rfl (J_done ?_)))
      refine S_cond rfl (fun hc3 => ?_) (fun hc3 => ?_)
      · refine S_seq ?_
        refine S_reg [true] rfl rfl ?_
        refine J_st (R_assign rfl) rfl (J_done ?_)
        refine S_ret (E_inB_ret (E_lp_ret (E_inB_ret (E_done1 rfl rfl E ?_))))
        exact eqS_no (by omega) (by omega) (by simpa using hc3)
      · refine S_skip ?_
        refine S_nil (E_inB ?_)
        refine S_reg [true, true, true] rfl rfl ?_
        refine J_st (R_move rfl) rfl (J_st (R_add rfl rfl (add_one hc2n hxs.1)) rfl (J_st (R_assign rfl) rfl (J_done ?_)))
        refine S_nil (E_again (k + 1) (by omega) ⟨rfl, rfl, rfl, rfl, trivial⟩ ⟨E, (by omega), (by omega), eqS_step hp (by assumption) (by omega) (by simpa using hc3)⟩)
    · have hc2n : ¬ k < xs.length := by first | (have h := of_decide_eq_false hc2; omega) | (have h := hc2; simp at h; omega)
      refine S_exit (E_lp_exit (E_inB_exit ?_))
      refine S_seq ?_
      refine S_reg [true] rfl rfl ?_
      refine J_st (R_assign rfl) rfl (J_done ?_)
      refine S_ret (E_done1 rfl rfl E ?_)
      exact eqS_yes hp hc1n (by omega)

set_option maxRecDepth 20000 in
theorem l_big (vcode : Value) (code : List Byt) (w : World) (hcode : RdS w vcode code) : Ct Try.prog 6 [vcode] w (fun v _ => v = .bool (decide (((code.length : Nat) : Int) > 1048576))) := by
  refine ct_of Try.func6 rfl Try.ntmps6 rfl ?_
  refine S_sub [(0, vcode)] ⟨rfl, trivial⟩ ?_
  have E : Ext w w := Ext.refl w
  refine S_seq ?_
  refine S_reg [true] rfl rfl ?_
  refine J_st (R_assign rfl) rfl (J_done ?_)
  refine S_seq ?_
  refine S_reg [true, true, true, true] rfl rfl ?_
  refine J_st (R_move rfl) rfl (J_st (R_len Try.underlying22 rfl (hcode.ext E).len) rfl (J_st (R_gtr rfl rfl) rfl (J_st (R_assign rfl) rfl (J_done ?_))))
  refine S_ret (E_done1 rfl rfl E ?_)
  rfl

end Go.Proofs.Ytdmngeljbhlgmaa
