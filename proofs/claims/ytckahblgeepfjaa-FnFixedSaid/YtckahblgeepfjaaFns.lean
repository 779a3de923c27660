/- What the functions that the laws call come to: a contract each; no condition. -/
import Derived.Test.YtckahblgeepfjaaTypes
namespace Go.Proofs.Ytckahblgeepfjaa
open Go Go.Proofs.Ytckahblgeepfjaa.X Go.Proofs
set_option maxRecDepth 20000 in
theorem c_l02Order (a : Int) (b : Int) (w : World)  : Ct Try.prog 97 [.int .i64 a, .int .i64 b] w (fun v _ => v = .int .i64 (ordI a b)) := by
 refine ct_of Try.func97 rfl Try.ntmps97 rfl ?_
 refine S_sub [(0, .int .i64 a), (1, .int .i64 b)] ⟨rfl, rfl, trivial⟩ ?_
 have E : Ext w w := Ext.refl w
 refine S_seq ?_
 refine S_reg [true] rfl rfl ?_
 refine J_st (R_assign rfl) rfl (J_done ?_)
 refine S_seq ?_
 refine S_block ?_
 refine S_seq ?_
 refine S_reg [true, true, true, true] rfl rfl ?_
 refine J_st (R_move rfl) rfl (J_st (R_move rfl) rfl (J_st (R_lss rfl rfl) rfl (J_st (R_assign rfl) rfl (J_done ?_))))
 refine S_cond rfl (fun hc1 => ?_) (fun hc1 => ?_)
 ·refine S_seq ?_
  refine S_reg [true] rfl rfl ?_
  refine J_st (R_assign rfl) rfl (J_done ?_)
  refine S_ret (E_inB_ret (E_done1 rfl rfl E ?_))
  refine congrArg (Value.int .i64) ?_
  simp at *
  unfold ordI; (repeat' split) <;> first | rfl | omega
 ·refine S_seq ?_
  refine S_reg [true, true, true, true] rfl rfl ?_
  refine J_st (R_move rfl) rfl (J_st (R_move rfl) rfl (J_st (R_gtr rfl rfl) rfl (J_st (R_assign rfl) rfl (J_done ?_))))
  refine S_cond rfl (fun hc2 => ?_) (fun hc2 => ?_)
  ·refine S_seq ?_
   refine S_reg [true] rfl rfl ?_
   refine J_st (R_assign rfl) rfl (J_done ?_)
   refine S_ret (E_inB_ret (E_done1 rfl rfl E ?_))
   refine congrArg (Value.int .i64) ?_
   simp at *
   unfold ordI; (repeat' split) <;> first | rfl | omega
  ·refine S_skip ?_
   refine S_nil (E_inB ?_)
   refine S_seq ?_
   refine S_reg [true] rfl rfl ?_
   refine J_st (R_assign rfl) rfl (J_done ?_)
   refine S_ret (E_done1 rfl rfl E ?_)
   refine congrArg (Value.int .i64) ?_
   simp at *
   unfold ordI; (repeat' split) <;> first | rfl | omega

set_option maxRecDepth 20000 in
theorem c_isNaN (a : Int) (w : World)  : Ct Try.prog 102 [.int .i64 a] w (fun v _ => v = .bool false) := by
 refine ct_of Try.func102 rfl Try.ntmps102 rfl ?_
 refine S_sub [(0, .int .i64 a)] ⟨rfl, trivial⟩ ?_
 have E : Ext w w := Ext.refl w
 refine S_seq ?_
 refine S_reg [true] rfl rfl ?_
 refine J_st (R_assign rfl) rfl (J_done ?_)
 refine S_seq ?_
 refine S_reg [true, true, true, true] rfl rfl ?_
 refine J_st (R_move rfl) rfl (J_st (R_move rfl) rfl (J_st (R_neq rfl rfl) rfl (J_st (R_assign rfl) rfl (J_done ?_))))
 refine S_ret (E_done1 rfl rfl E ?_)
 simp

set_option maxRecDepth 20000 in
theorem c_cmpCompare (a : Int) (b : Int) (w : World)  : Ct Try.prog 100 [.int .i64 a, .int .i64 b] w (fun v _ => v = .int .i64 (ordI a b)) := by
 refine ct_of Try.func100 rfl Try.ntmps100 rfl ?_
 refine S_sub [(0, .int .i64 a), (1, .int .i64 b)] ⟨rfl, rfl, trivial⟩ ?_
 have E : Ext w w := Ext.refl w
 refine S_seq ?_
 refine S_reg [true] rfl rfl ?_
 refine J_st (R_assign rfl) rfl (J_done ?_)
 refine S_seq ?_
 refine S_reg [true, false, true] rfl rfl ?_
 refine J_st (R_move rfl) rfl ?_
 refine J_call Try.call102 rfl (c_isNaN a _ ) rfl (fun _ w1 e1 hv => ?_)
 subst hv
 replace E := E.trans e1
 have z1 := e1.size
 refine J_st (R_assign rfl) rfl (J_done ?_)
 refine S_seq ?_
 refine S_reg [true, false, true] rfl rfl ?_
 refine J_st (R_move rfl) rfl ?_
 refine J_call Try.call102 rfl (c_isNaN b _ ) rfl (fun _ w2 e2 hv => ?_)
 subst hv
 replace E := E.trans e2
 have z2 := e2.size
 refine J_st (R_assign rfl) rfl (J_done ?_)
 refine S_seq ?_
 refine S_seq ?_
 refine S_reg [true] rfl rfl ?_
 refine J_st (R_move rfl) rfl (J_done ?_)
 refine S_condF rfl ?_
 refine S_skip ?_
 refine S_seq ?_
 refine S_seq ?_
 refine S_reg [true] rfl rfl ?_
 refine J_st (R_move rfl) rfl (J_done ?_)
 refine S_condF rfl ?_
 refine S_skip ?_
 refine S_seq ?_
 refine S_seq ?_
 refine S_reg [true, true, true] rfl rfl ?_
 refine J_st (R_move rfl) rfl (J_st (R_move rfl) rfl (J_st (R_lss rfl rfl) rfl (J_done ?_)))
 refine S_cond rfl (fun hc1 => ?_) (fun hc1 => ?_)
 ·refine S_seq ?_
  refine S_reg [true] rfl rfl ?_
  refine J_st (R_assign rfl) rfl (J_done ?_)
  refine S_ret (E_done1 rfl rfl E ?_)
  refine congrArg (Value.int .i64) ?_
  simp at *
  unfold ordI; (repeat' split) <;> first | rfl | omega
 ·refine S_skip ?_
  refine S_seq ?_
  refine S_seq ?_
  refine S_reg [true, true, true] rfl rfl ?_
  refine J_st (R_move rfl) rfl (J_st (R_move rfl) rfl (J_st (R_gtr rfl rfl) rfl (J_done ?_)))
  refine S_cond rfl (fun hc2 => ?_) (fun hc2 => ?_)
  ·refine S_seq ?_
   refine S_reg [true] rfl rfl ?_
   refine J_st (R_assign rfl) rfl (J_done ?_)
   refine S_ret (E_done1 rfl rfl E ?_)
   refine congrArg (Value.int .i64) ?_
   simp at *
   unfold ordI; (repeat' split) <;> first | rfl | omega
  ·refine S_skip ?_
   refine S_seq ?_
   refine S_reg [true] rfl rfl ?_
   refine J_st (R_assign rfl) rfl (J_done ?_)
   refine S_ret (E_done1 rfl rfl E ?_)
   refine congrArg (Value.int .i64) ?_
   simp at *
   unfold ordI; (repeat' split) <;> first | rfl | omega

set_option maxRecDepth 20000 in
theorem c_slicesCompare (vxs : Value) (xs : List Int) (vys : Value) (ys : List Int) (w : World) (hxs : RdS w vxs xs) (hys : RdS w vys ys) : Ct Try.prog 98 [vxs, vys] w (fun v _ => v = .int .i64 (cmpL xs ys)) := by
 refine ct_of Try.func98 rfl Try.ntmps98 rfl ?_
 refine S_sub [(0, vxs), (1, vys)] ⟨rfl, rfl, trivial⟩ ?_
 have E : Ext w w := Ext.refl w
 refine S_seq ?_
 refine S_reg [true] rfl rfl ?_
 refine J_st (R_assign rfl) rfl (J_done ?_)
 refine S_seq ?_
 refine S_seq ?_
 refine S_reg [true, true, true] rfl rfl ?_
 refine J_st (R_move rfl) rfl (J_st (R_len Try.underlying40 rfl (hxs.ext E).len) rfl (J_st (R_move rfl) rfl (J_done ?_)))
 refine S_block ?_
 refine S_loop (fun (k : Nat) => [(0, vxs), (1, vys), (4, .int .i64 0), (9, vxs), (10, .int .i64 ((xs.length : Nat) : Int)), (11, .int .i64 ((k : Nat) : Int))]) (fun (k : Nat) w' => Ext w w' ∧ w.heap.size ≤ w'.heap.size ∧ k ≤ xs.length ∧ k ≤ ys.length ∧ cmpL (xs.drop k) (ys.drop k) = cmpL xs ys) (fun (k : Nat) => xs.length - k) 0 ⟨rfl, rfl, rfl, rfl, rfl, rfl, trivial⟩ ⟨E, Nat.le_refl _, Nat.zero_le _, Nat.zero_le _, rfl⟩ ?_
 clear E
 rintro k w1 ⟨E, z1, hk, hky, hI⟩
 refine S_seq ?_
 refine S_reg [true] rfl rfl ?_
 refine J_st (R_lss rfl rfl) rfl (J_done ?_)
 refine S_seq ?_
 refine S_cond rfl (fun hc1 => ?_) (fun hc1 => ?_)
 ·have hc1n : k < xs.length := by first | (have h := of_decide_eq_true hc1; omega) | (have h := hc1; simp at h; omega)
  refine S_skip ?_
  refine S_seq ?_
  refine S_block ?_
  refine S_seq ?_
  refine S_reg [true, true, true, true, true] rfl rfl ?_
  refine J_st (R_move rfl) rfl ?_
  have hi1 : k < xs.length := (by first | assumption | omega | (simp only [List.length_set]; first | assumption | omega) | (simp only [List.getElem_set_self, List.length_set]; first | assumption | omega) | (simp only [setW, setLk, List.length_set]; first | assumption | omega) | (simp; done))
  refine J_st (R_index (i := k) sl40 rfl rfl (hxs.ext E) hi1) rfl (J_st (R_load sc3 rfl (((hxs.ext E).get hi1).one 0 rfl)) rfl (J_st (R_assign rfl) rfl (J_st (R_assign rfl) rfl (J_done ?_))))
  refine S_seq ?_
  refine S_seq ?_
  refine S_reg [true, true, true, true] rfl rfl ?_
  refine J_st (R_move rfl) rfl (J_st (R_move rfl) rfl (J_st (R_len Try.underlying40 rfl (hys.ext E).len) rfl (J_st (R_geq rfl rfl) rfl (J_done ?_))))
  refine S_cond rfl (fun hc2 => ?_) (fun hc2 => ?_)
  ·have hc2n : k ≥ ys.length := by first | (have h := of_decide_eq_true hc2; omega) | (have h := hc2; simp at h; omega)
   refine S_seq ?_
   refine S_reg [true] rfl rfl ?_
   refine J_st (R_assign rfl) rfl (J_done ?_)
   refine S_ret (E_inB_ret (E_lp_ret (E_inB_ret (E_done1 rfl rfl E ?_))))
   exact cmpL_1 hI (by omega) (by omega)
  ·have hc2n : ¬ k ≥ ys.length := by first | (have h := of_decide_eq_false hc2; omega) | (have h := hc2; simp at h; omega)
   refine S_skip ?_
   refine S_seq ?_
   refine S_reg [true, true, true, true, true] rfl rfl ?_
   refine J_st (R_move rfl) rfl (J_st (R_move rfl) rfl ?_)
   have hi2 : k < ys.length := (by first | assumption | omega | (simp only [List.length_set]; first | assumption | omega) | (simp only [List.getElem_set_self, List.length_set]; first | assumption | omega) | (simp only [setW, setLk, List.length_set]; first | assumption | omega) | (simp; done))
   refine J_st (R_index (i := k) sl40 rfl rfl (hys.ext E) hi2) rfl (J_st (R_load sc3 rfl (((hys.ext E).get hi2).one 0 rfl)) rfl (J_st (R_assign rfl) rfl (J_done ?_)))
   refine S_seq ?_
   refine S_reg [true, true, false, true] rfl rfl ?_
   refine J_st (R_move rfl) rfl (J_st (R_move rfl) rfl ?_)
   refine J_call Try.call100 rfl (c_cmpCompare (xs[k]'hi1) (ys[k]'hi2) _ ) rfl (fun _ w2 e1 hv => ?_)
   subst hv
   replace E := E.trans e1
   have z2 := e1.size
   refine J_st (R_assign rfl) rfl (J_done ?_)
   refine S_seq ?_
   refine S_reg [true, true] rfl rfl ?_
   refine J_st (R_move rfl) rfl (J_st (R_neq rfl rfl) rfl (J_done ?_))
   refine S_cond rfl (fun hc3 => ?_) (fun hc3 => ?_)
   ·refine S_seq ?_
    refine S_reg [true, true] rfl rfl ?_
    refine J_st (R_move rfl) rfl (J_st (R_assign rfl) rfl (J_done ?_))
    refine S_ret (E_inB_ret (E_lp_ret (E_inB_ret (E_done1 rfl rfl E ?_))))
    exact cmpL_2 hI (by omega) (by omega) (by simpa using hc3)
   ·refine S_skip ?_
    refine S_nil (E_inB ?_)
    refine S_reg [true, true] rfl rfl ?_
    refine J_st (R_add rfl rfl (add_one hc1n hxs.1)) rfl (J_st (R_move rfl) rfl (J_done ?_))
    refine S_nil (E_again (k + 1) (by omega) ⟨rfl, rfl, rfl, rfl, rfl, rfl, trivial⟩ ⟨E, (by omega), (by omega), (by omega), cmpL_step hI (by omega) (by omega) (by simpa using hc3)⟩)
 ·have hc1n : ¬ k < xs.length := by first | (have h := of_decide_eq_false hc1; omega) | (have h := hc1; simp at h; omega)
  refine S_exit (E_lp_exit (E_inB_exit ?_))
  refine S_seq ?_
  refine S_seq ?_
  refine S_reg [true, true, true, true, true] rfl rfl ?_
  refine J_st (R_move rfl) rfl (J_st (R_len Try.underlying40 rfl (hxs.ext E).len) rfl (J_st (R_move rfl) rfl (J_st (R_len Try.underlying40 rfl (hys.ext E).len) rfl (J_st (R_lss rfl rfl) rfl (J_done ?_)))))
  refine S_cond rfl (fun hc4 => ?_) (fun hc4 => ?_)
  ·have hc4n : xs.length < ys.length := by first | (have h := of_decide_eq_true hc4; omega) | (have h := hc4; simp at h; omega)
   refine S_seq ?_
   refine S_reg [true] rfl rfl ?_
   refine J_st (R_assign rfl) rfl (J_done ?_)
   refine S_ret (E_done1 rfl rfl E ?_)
   exact cmpL_3 hI (by omega) (by omega)
  ·have hc4n : ¬ xs.length < ys.length := by first | (have h := of_decide_eq_false hc4; omega) | (have h := hc4; simp at h; omega)
   refine S_skip ?_
   refine S_seq ?_
   refine S_reg [true] rfl rfl ?_
   refine J_st (R_assign rfl) rfl (J_done ?_)
   refine S_ret (E_done1 rfl rfl E ?_)
   exact cmpL_4 hI (by omega) (by omega)

set_option maxRecDepth 20000 in
theorem c_orderOf (vxs : Value) (xs : List Int) (vys : Value) (ys : List Int) (w : World) (hxs : RdS w vxs xs) (hys : RdS w vys ys) : Ct Try.prog 93 [vxs, vys] w (fun v _ => v = .int .i64 (cmpL xs ys)) := by
 refine ct_of Try.func93 rfl Try.ntmps93 rfl ?_
 refine S_sub [(0, vxs), (1, vys)] ⟨rfl, rfl, trivial⟩ ?_
 have E : Ext w w := Ext.refl w
 refine S_seq ?_
 refine S_reg [true] rfl rfl ?_
 refine J_st (R_assign rfl) rfl (J_done ?_)
 refine S_seq ?_
 refine S_reg [true, true, false, true] rfl rfl ?_
 refine J_st (R_move rfl) rfl (J_st (R_move rfl) rfl ?_)
 refine J_call Try.call98 rfl (c_slicesCompare vxs xs vys ys _ (hxs.ext E) (hys.ext E)) rfl (fun _ w1 e1 hv => ?_)
 subst hv
 replace E := E.trans e1
 have z1 := e1.size
 refine J_st (R_assign rfl) rfl (J_done ?_)
 refine S_ret (E_done1 rfl rfl E ?_)
 rfl

set_option maxRecDepth 20000 in
theorem c_CellOrder (x : Cell) (y : Cell) (w : World)  : Ct Try.prog 88 [.agg (Enc.enc x).toArray, .agg (Enc.enc y).toArray] w (fun v _ => v = .int .i64 (cellOrd x y)) := by
 refine ct_of Try.func88 rfl Try.ntmps88 rfl ?_
 refine S_sub [(0, .agg (Enc.enc x).toArray), (1, .agg (Enc.enc y).toArray)] ⟨rfl, rfl, trivial⟩ ?_
 have E : Ext w w := Ext.refl w
 refine S_seq ?_
 refine S_reg [false, false, true] rfl rfl ?_
 refine J_box rfl rfl (fun b1 w1 e1 s1 h1 => ?_)
 have g_b1 : w.heap.size ≤ b1 := by have := E.size; omega
 have y_b1 := h1.lt
 replace E := E.trans e1
 have z1 := e1.size
 refine J_box rfl rfl (fun b2 w2 e2 s2 h2 => ?_)
 have g_b2 : w.heap.size ≤ b2 := by have := E.size; omega
 have y_b2 := h2.lt
 replace E := E.trans e2; replace h1 := h1.ext e2
 have z2 := e2.size
 refine J_st (R_assign rfl) rfl (J_done ?_)
 refine S_seq ?_
 refine S_reg [true, true, true, true, true, true, true, true, false, true, true, true, true, true, true, true, true, false, false, true] rfl rfl ?_
 refine J_st (R_fieldAddr0 fl56_1 rfl) rfl (J_st (R_load sc3 rfl (h1.one 1 rfl)) rfl (J_st (R_fieldAddr0 fl56_0 rfl) rfl (J_st (R_load sc3 rfl (h1.one 0 rfl)) rfl (J_st (R_fieldAddr0 fl56_2 rfl) rfl (J_st (R_load sc3 rfl (h1.one 2 rfl)) rfl (J_st (R_fieldAddr0 fl56_3 rfl) rfl (J_st (R_load sc3 rfl (h1.one 3 rfl)) rfl ?_)))))))
 refine J_buildSlice (vs := [.int .i64 x.epoch, .int .i64 x.op, .int .i64 x.key, .int .i64 x.val]) (css := [[.int .i64 x.epoch], [.int .i64 x.op], [.int .i64 x.key], [.int .i64 x.val]]) sl40 rfl rfl ⟨⟨rfl, rfl⟩, ⟨rfl, rfl⟩, ⟨rfl, rfl⟩, ⟨rfl, rfl⟩, trivial⟩ rfl rfl (fun b3 w3 e3 s3 h3 => ?_)
 replace h3 : Blk w3 b3 [.int .i64 x.epoch, .int .i64 x.op, .int .i64 x.key, .int .i64 x.val] := h3
 have g_b3 : w.heap.size ≤ b3 := by have := E.size; omega
 have y_b3 := h3.lt
 replace E := E.trans e3; replace h1 := h1.ext e3; replace h2 := h2.ext e3
 have z3 := e3.size
 refine J_st (R_fieldAddr0 fl56_1 rfl) rfl (J_st (R_load sc3 rfl (h2.one 1 rfl)) rfl (J_st (R_fieldAddr0 fl56_0 rfl) rfl (J_st (R_load sc3 rfl (h2.one 0 rfl)) rfl (J_st (R_fieldAddr0 fl56_2 rfl) rfl (J_st (R_load sc3 rfl (h2.one 2 rfl)) rfl (J_st (R_fieldAddr0 fl56_3 rfl) rfl (J_st (R_load sc3 rfl (h2.one 3 rfl)) rfl ?_)))))))
 refine J_buildSlice (vs := [.int .i64 y.epoch, .int .i64 y.op, .int .i64 y.key, .int .i64 y.val]) (css := [[.int .i64 y.epoch], [.int .i64 y.op], [.int .i64 y.key], [.int .i64 y.val]]) sl40 rfl rfl ⟨⟨rfl, rfl⟩, ⟨rfl, rfl⟩, ⟨rfl, rfl⟩, ⟨rfl, rfl⟩, trivial⟩ rfl rfl (fun b4 w4 e4 s4 h4 => ?_)
 replace h4 : Blk w4 b4 [.int .i64 y.epoch, .int .i64 y.op, .int .i64 y.key, .int .i64 y.val] := h4
 have g_b4 : w.heap.size ≤ b4 := by have := E.size; omega
 have y_b4 := h4.lt
 replace E := E.trans e4; replace h1 := h1.ext e4; replace h2 := h2.ext e4; replace h3 := h3.ext e4
 have z4 := e4.size
 refine J_call Try.call93 rfl (c_orderOf (.slice (some ⟨b3, 0, none⟩) 4 4) [x.epoch, x.op, x.key, x.val] (.slice (some ⟨b4, 0, none⟩) 4 4) [y.epoch, y.op, y.key, y.val] _ (Blk.rd (α := Int) (xs := [x.epoch, x.op, x.key, x.val]) (by decide) h3 rfl (by simp [maxLen])) (Blk.rd (α := Int) (xs := [y.epoch, y.op, y.key, y.val]) (by decide) h4 rfl (by simp [maxLen]))) rfl (fun _ w5 e5 hv => ?_)
 subst hv
 replace E := E.trans e5; replace h1 := h1.ext e5; replace h2 := h2.ext e5; replace h3 := h3.ext e5; replace h4 := h4.ext e5
 have z5 := e5.size
 refine J_st (R_assign rfl) rfl (J_done ?_)
 refine S_ret (E_done1 rfl rfl E ?_)
 rfl

set_option maxRecDepth 20000 in
theorem s_CellOrder (x : Cell) (y : Cell) (w : World)  : Ct Try.prog 91 [.agg (Enc.enc x).toArray, .agg (Enc.enc y).toArray] w (fun v _ => v = .int .i64 (cellOrd x y)) := by
 refine ct_of Try.func91 rfl Try.ntmps91 rfl ?_
 refine S_sub [(0, .agg (Enc.enc x).toArray), (1, .agg (Enc.enc y).toArray)] ⟨rfl, rfl, trivial⟩ ?_
 have E : Ext w w := Ext.refl w
 refine S_seq ?_
 refine S_reg [false, false, true] rfl rfl ?_
 refine J_box rfl rfl (fun b1 w1 e1 s1 h1 => ?_)
 have g_b1 : w.heap.size ≤ b1 := by have := E.size; omega
 have y_b1 := h1.lt
 replace E := E.trans e1
 have z1 := e1.size
 refine J_box rfl rfl (fun b2 w2 e2 s2 h2 => ?_)
 have g_b2 : w.heap.size ≤ b2 := by have := E.size; omega
 have y_b2 := h2.lt
 replace E := E.trans e2; replace h1 := h1.ext e2
 have z2 := e2.size
 refine J_st (R_assign rfl) rfl (J_done ?_)
 refine S_seq ?_
 refine S_regD mixed [(0, true), (1, true), (2, true), (3, true), (5, true), (6, true), (7, true), (8, true), (10, true), (11, true), (12, true), (13, true), (15, true), (16, true), (17, true), (18, true), (4, false), (9, false), (14, false), (19, false), (20, false), (21, true)] (by decide +kernel) rfl (fun w3 e3 => ?_)
 replace E := E.trans e3; replace h1 := h1.ext e3; replace h2 := h2.ext e3
 have z3 := e3.size
 refine J_st (R_fieldAddr0 fl56_1 rfl) rfl (J_st (R_load sc3 rfl (h1.one 1 rfl)) rfl (J_st (R_fieldAddr0 fl56_1 rfl) rfl (J_st (R_load sc3 rfl (h2.one 1 rfl)) rfl (J_st (R_fieldAddr0 fl56_0 rfl) rfl (J_st (R_load sc3 rfl (h1.one 0 rfl)) rfl (J_st (R_fieldAddr0 fl56_0 rfl) rfl (J_st (R_load sc3 rfl (h2.one 0 rfl)) rfl (J_st (R_fieldAddr0 fl56_2 rfl) rfl (J_st (R_load sc3 rfl (h1.one 2 rfl)) rfl (J_st (R_fieldAddr0 fl56_2 rfl) rfl (J_st (R_load sc3 rfl (h2.one 2 rfl)) rfl (J_st (R_fieldAddr0 fl56_3 rfl) rfl (J_st (R_load sc3 rfl (h1.one 3 rfl)) rfl (J_st (R_fieldAddr0 fl56_3 rfl) rfl (J_st (R_load sc3 rfl (h2.one 3 rfl)) rfl ?_)))))))))))))))
 refine J_call Try.call97 rfl (c_l02Order x.epoch y.epoch _ ) rfl (fun _ w4 e4 hv => ?_)
 subst hv
 replace E := E.trans e4; replace h1 := h1.ext e4; replace h2 := h2.ext e4
 have z4 := e4.size
 refine J_call Try.call97 rfl (c_l02Order x.op y.op _ ) rfl (fun _ w5 e5 hv => ?_)
 subst hv
 replace E := E.trans e5; replace h1 := h1.ext e5; replace h2 := h2.ext e5
 have z5 := e5.size
 refine J_call Try.call97 rfl (c_l02Order x.key y.key _ ) rfl (fun _ w6 e6 hv => ?_)
 subst hv
 replace E := E.trans e6; replace h1 := h1.ext e6; replace h2 := h2.ext e6
 have z6 := e6.size
 refine J_call Try.call97 rfl (c_l02Order x.val y.val _ ) rfl (fun _ w7 e7 hv => ?_)
 subst hv
 replace E := E.trans e7; replace h1 := h1.ext e7; replace h2 := h2.ext e7
 have z7 := e7.size
 refine J_buildSlice (vs := [.int .i64 (ordI x.epoch y.epoch), .int .i64 (ordI x.op y.op), .int .i64 (ordI x.key y.key), .int .i64 (ordI x.val y.val)]) (css := [[.int .i64 (ordI x.epoch y.epoch)], [.int .i64 (ordI x.op y.op)], [.int .i64 (ordI x.key y.key)], [.int .i64 (ordI x.val y.val)]]) sl40 rfl rfl ⟨⟨rfl, rfl⟩, ⟨rfl, rfl⟩, ⟨rfl, rfl⟩, ⟨rfl, rfl⟩, trivial⟩ rfl rfl (fun b3 w8 e8 s3 h3 => ?_)
 replace h3 : Blk w8 b3 [.int .i64 (ordI x.epoch y.epoch), .int .i64 (ordI x.op y.op), .int .i64 (ordI x.key y.key), .int .i64 (ordI x.val y.val)] := h3
 have g_b3 : w.heap.size ≤ b3 := by have := E.size; omega
 have y_b3 := h3.lt
 replace E := E.trans e8; replace h1 := h1.ext e8; replace h2 := h2.ext e8
 have z8 := e8.size
 refine J_st (R_assign rfl) rfl (J_done ?_)
 refine S_seq ?_
 refine S_seq ?_
 refine S_reg [true] rfl rfl ?_
 refine J_st (R_assign rfl) rfl (J_done ?_)
 refine S_block ?_
 refine S_loop (fun (k : Nat) => [(4, .int .i64 0), (5, .slice (some ⟨b3, 0, none⟩) 4 4), (6, .int .i64 ((k : Nat) : Int))]) (fun (k : Nat) w' => Ext w w' ∧ w8.heap.size ≤ w'.heap.size ∧ Blk w' b1 (Enc.enc x) ∧ Blk w' b2 (Enc.enc y) ∧ Blk w' b3 [.int .i64 (ordI x.epoch y.epoch), .int .i64 (ordI x.op y.op), .int .i64 (ordI x.key y.key), .int .i64 (ordI x.val y.val)] ∧ k ≤ 4 ∧ firstNZ (List.drop k [ordI x.epoch y.epoch, ordI x.op y.op, ordI x.key y.key, ordI x.val y.val]) = firstNZ [ordI x.epoch y.epoch, ordI x.op y.op, ordI x.key y.key, ordI x.val y.val]) (fun (k : Nat) => 4 - k) 0 ⟨rfl, rfl, rfl, trivial⟩ ⟨E, Nat.le_refl _, h1, h2, h3, Nat.zero_le _, rfl⟩ ?_
 clear E h1 h2 h3
 rintro k w9 ⟨E, z9, h1, h2, h3, hk, hI⟩
 refine S_seq ?_
 refine S_seq ?_
 refine S_reg [true, true] rfl rfl ?_
 refine J_st (R_move rfl) rfl (J_st (R_lss rfl rfl) rfl (J_done ?_))
 refine S_cond rfl (fun hc1 => ?_) (fun hc1 => ?_)
 ·have hc1n : k < 4 := by first | (have h := of_decide_eq_true hc1; omega) | (have h := hc1; simp at h; omega)
  refine S_skip ?_
  refine S_seq ?_
  refine S_block ?_
  refine S_seq ?_
  refine S_reg [true, true, true, true, true] rfl rfl ?_
  refine J_st (R_move rfl) rfl (J_st (R_move rfl) rfl ?_)
  have hi1 : k < [ordI x.epoch y.epoch, ordI x.op y.op, ordI x.key y.key, ordI x.val y.val].length := (by first | assumption | omega | (simp only [List.length_set]; first | assumption | omega) | (simp only [List.getElem_set_self, List.length_set]; first | assumption | omega) | (simp only [setW, setLk, List.length_set]; first | assumption | omega) | (simp; done))
  refine J_st (R_index (i := k) sl40 rfl rfl (Blk.rd (α := Int) (xs := [ordI x.epoch y.epoch, ordI x.op y.op, ordI x.key y.key, ordI x.val y.val]) (by decide) h3 rfl (by simp [maxLen])) hi1) rfl (J_st (R_load sc3 rfl (((Blk.rd (α := Int) (xs := [ordI x.epoch y.epoch, ordI x.op y.op, ordI x.key y.key, ordI x.val y.val]) (by decide) h3 rfl (by simp [maxLen])).get hi1).one 0 rfl)) rfl (J_st (R_neq rfl rfl) rfl (J_done ?_)))
  refine S_cond rfl (fun hc2 => ?_) (fun hc2 => ?_)
  ·refine S_seq ?_
   refine S_reg [true, true, true, true, true] rfl rfl ?_
   refine J_st (R_move rfl) rfl (J_st (R_move rfl) rfl (J_st (R_index (i := k) sl40 rfl rfl (Blk.rd (α := Int) (xs := [ordI x.epoch y.epoch, ordI x.op y.op, ordI x.key y.key, ordI x.val y.val]) (by decide) h3 rfl (by simp [maxLen])) hi1) rfl (J_st (R_load sc3 rfl (((Blk.rd (α := Int) (xs := [ordI x.epoch y.epoch, ordI x.op y.op, ordI x.key y.key, ordI x.val y.val]) (by decide) h3 rfl (by simp [maxLen])).get hi1).one 0 rfl)) rfl (J_st (R_assign rfl) rfl (J_done ?_)))))
   refine S_ret (E_inB_ret (E_lp_ret (E_inB_ret (E_done1 rfl rfl E ?_))))
   exact cellOrd_a (firstNZ_yes hI (by simpa using hc1n) (by simpa using hc2))
  ·refine S_skip ?_
   refine S_nil (E_inB ?_)
   refine S_reg [true, true, true] rfl rfl ?_
   refine J_st (R_move rfl) rfl (J_st (R_add rfl rfl (add_one hc1n (by first | assumption | (unfold maxLen; omega)))) rfl (J_st (R_assign rfl) rfl (J_done ?_)))
   refine S_nil (E_again (k + 1) (by omega) ⟨rfl, rfl, rfl, trivial⟩ ⟨E, (by omega), h1, h2, h3, (by omega), firstNZ_step hI (by simpa using hc1n) (by simpa using hc2)⟩)
 ·have hc1n : ¬ k < 4 := by first | (have h := of_decide_eq_false hc1; omega) | (have h := hc1; simp at h; omega)
  refine S_exit (E_lp_exit (E_inB_exit ?_))
  refine S_seq ?_
  refine S_reg [true] rfl rfl ?_
  refine J_st (R_assign rfl) rfl (J_done ?_)
  refine S_ret (E_done1 rfl rfl E ?_)
  exact cellOrd_b (firstNZ_no hI (by simp; omega))

set_option maxRecDepth 20000 in
theorem s_HasCell (vxs : Value) (xs : List Cell) (x : Cell) (w : World) (hxs : RdS w vxs xs) : Ct Try.prog 78 [vxs, .agg (Enc.enc x).toArray] w (fun v _ => v = .bool (decide (x ∈ xs))) := by
 refine ct_of Try.func78 rfl Try.ntmps78 rfl ?_
 refine S_sub [(0, vxs), (1, .agg (Enc.enc x).toArray)] ⟨rfl, rfl, trivial⟩ ?_
 have E : Ext w w := Ext.refl w
 refine S_seq ?_
 refine S_reg [false, true] rfl rfl ?_
 refine J_box rfl rfl (fun b1 w1 e1 s1 h1 => ?_)
 have g_b1 : w.heap.size ≤ b1 := by have := E.size; omega
 have y_b1 := h1.lt
 replace E := E.trans e1
 have z1 := e1.size
 refine J_st (R_assign rfl) rfl (J_done ?_)
 refine S_seq ?_
 refine S_seq ?_
 refine S_reg [true] rfl rfl ?_
 refine J_st (R_assign rfl) rfl (J_done ?_)
 refine S_block ?_
 refine S_loop (fun (k : Nat) => [(0, vxs), (3, .pointer (some ⟨b1, 0, none⟩)), (4, .bool false), (5, .int .i64 ((k : Nat) : Int))]) (fun (k : Nat) w' => Ext w w' ∧ w1.heap.size ≤ w'.heap.size ∧ Blk w' b1 (Enc.enc x) ∧ k ≤ xs.length ∧ x ∉ xs.take k) (fun (k : Nat) => xs.length - k) 0 ⟨rfl, rfl, rfl, rfl, trivial⟩ ⟨E, Nat.le_refl _, h1, Nat.zero_le _, (by simp)⟩ ?_
 clear E h1
 rintro k w2 ⟨E, z2, h1, hk, hI⟩
 refine S_seq ?_
 refine S_seq ?_
 refine S_reg [true, true, true, true] rfl rfl ?_
 refine J_st (R_move rfl) rfl (J_st (R_move rfl) rfl (J_st (R_len Try.underlying27 rfl (hxs.ext E).len) rfl (J_st (R_lss rfl rfl) rfl (J_done ?_))))
 refine S_cond rfl (fun hc1 => ?_) (fun hc1 => ?_)
 ·have hc1n : k < xs.length := by first | (have h := of_decide_eq_true hc1; omega) | (have h := hc1; simp at h; omega)
  refine S_skip ?_
  refine S_seq ?_
  refine S_block ?_
  refine S_seq ?_
  refine S_regD mixed [(0, true), (1, true), (2, true), (3, true), (4, true), (5, true)] (by decide +kernel) rfl (fun w3 e2 => ?_)
  replace E := E.trans e2; replace h1 := h1.ext e2
  have z3 := e2.size
  refine J_st (R_move rfl) rfl (J_st (R_move rfl) rfl ?_)
  have hi1 : k < xs.length := (by first | assumption | omega | (simp only [List.length_set]; first | assumption | omega) | (simp only [List.getElem_set_self, List.length_set]; first | assumption | omega) | (simp only [setW, setLk, List.length_set]; first | assumption | omega) | (simp; done))
  refine J_st (R_index (i := k) sl27 rfl rfl (hxs.ext E) hi1) rfl (J_st (R_loadS st56 rfl ((hxs.ext E).get hi1) rfl) rfl (J_st (R_loadS st56 rfl h1.at rfl) rfl (J_st (R_eqlS (eq56 (xs[k]'hi1) x) eqg56 rfl rfl) rfl (J_done ?_))))
  refine S_cond rfl (fun hc2 => ?_) (fun hc2 => ?_)
  ·refine S_seq ?_
   refine S_reg [true] rfl rfl ?_
   refine J_st (R_assign rfl) rfl (J_done ?_)
   refine S_ret (E_inB_ret (E_lp_ret (E_inB_ret (E_done1 rfl rfl E ?_))))
   exact has_yes hc1n (by simpa using hc2)
  ·refine S_skip ?_
   refine S_nil (E_inB ?_)
   refine S_reg [true, true, true] rfl rfl ?_
   refine J_st (R_move rfl) rfl (J_st (R_add rfl rfl (add_one hc1n hxs.1)) rfl (J_st (R_assign rfl) rfl (J_done ?_)))
   refine S_nil (E_again (k + 1) (by omega) ⟨rfl, rfl, rfl, rfl, trivial⟩ ⟨E, (by omega), h1, (by omega), has_step hI (by assumption) (by simpa using hc2)⟩)
 ·have hc1n : ¬ k < xs.length := by first | (have h := of_decide_eq_false hc1; omega) | (have h := hc1; simp at h; omega)
  refine S_exit (E_lp_exit (E_inB_exit ?_))
  refine S_seq ?_
  refine S_reg [true] rfl rfl ?_
  refine J_st (R_assign rfl) rfl (J_done ?_)
  refine S_ret (E_done1 rfl rfl E ?_)
  exact has_no hI (by omega)

set_option maxRecDepth 20000 in
theorem c_slicesIndex (vxs : Value) (xs : List Cell) (x : Cell) (w : World) (hxs : RdS w vxs xs) : Ct Try.prog 96 [vxs, .agg (Enc.enc x).toArray] w (fun v _ => v = .int .i64 (idxI xs x)) := by
 refine ct_of Try.func96 rfl Try.ntmps96 rfl ?_
 refine S_sub [(0, vxs), (1, .agg (Enc.enc x).toArray)] ⟨rfl, rfl, trivial⟩ ?_
 have E : Ext w w := Ext.refl w
 refine S_seq ?_
 refine S_reg [false, true] rfl rfl ?_
 refine J_box rfl rfl (fun b1 w1 e1 s1 h1 => ?_)
 have g_b1 : w.heap.size ≤ b1 := by have := E.size; omega
 have y_b1 := h1.lt
 replace E := E.trans e1
 have z1 := e1.size
 refine J_st (R_assign rfl) rfl (J_done ?_)
 refine S_seq ?_
 refine S_seq ?_
 refine S_reg [true, true, true] rfl rfl ?_
 refine J_st (R_move rfl) rfl (J_st (R_len Try.underlying27 rfl (hxs.ext E).len) rfl (J_st (R_move rfl) rfl (J_done ?_)))
 refine S_block ?_
 refine S_loop (fun (k : Nat) => [(0, vxs), (3, .pointer (some ⟨b1, 0, none⟩)), (4, .int .i64 0), (7, .int .i64 ((xs.length : Nat) : Int)), (8, .int .i64 ((k : Nat) : Int))]) (fun (k : Nat) w' => Ext w w' ∧ w1.heap.size ≤ w'.heap.size ∧ Blk w' b1 (Enc.enc x) ∧ k ≤ xs.length ∧ x ∉ xs.take k) (fun (k : Nat) => xs.length - k) 0 ⟨rfl, rfl, rfl, rfl, rfl, trivial⟩ ⟨E, Nat.le_refl _, h1, Nat.zero_le _, (by simp)⟩ ?_
 clear E h1
 rintro k w2 ⟨E, z2, h1, hk, hI⟩
 refine S_seq ?_
 refine S_reg [true] rfl rfl ?_
 refine J_st (R_lss rfl rfl) rfl (J_done ?_)
 refine S_seq ?_
 refine S_cond rfl (fun hc1 => ?_) (fun hc1 => ?_)
 ·have hc1n : k < xs.length := by first | (have h := of_decide_eq_true hc1; omega) | (have h := hc1; simp at h; omega)
  refine S_skip ?_
  refine S_seq ?_
  refine S_block ?_
  refine S_seq ?_
  refine S_reg [true, true] rfl rfl ?_
  refine J_st (R_move rfl) rfl (J_st (R_assign rfl) rfl (J_done ?_))
  refine S_seq ?_
  refine S_regD mixed [(0, true), (1, true), (2, true), (3, true), (4, true), (5, true)] (by decide +kernel) rfl (fun w3 e2 => ?_)
  replace E := E.trans e2; replace h1 := h1.ext e2
  have z3 := e2.size
  refine J_st (R_loadS st56 rfl h1.at rfl) rfl (J_st (R_move rfl) rfl (J_st (R_move rfl) rfl ?_))
  have hi1 : k < xs.length := (by first | assumption | omega | (simp only [List.length_set]; first | assumption | omega) | (simp only [List.getElem_set_self, List.length_set]; first | assumption | omega) | (simp only [setW, setLk, List.length_set]; first | assumption | omega) | (simp; done))
  refine J_st (R_index (i := k) sl27 rfl rfl (hxs.ext E) hi1) rfl (J_st (R_loadS st56 rfl ((hxs.ext E).get hi1) rfl) rfl (J_st (R_eqlS (eq56 x (xs[k]'hi1)) eqg56 rfl rfl) rfl (J_done ?_)))
  refine S_cond rfl (fun hc2 => ?_) (fun hc2 => ?_)
  ·refine S_seq ?_
   refine S_reg [true, true] rfl rfl ?_
   refine J_st (R_move rfl) rfl (J_st (R_assign rfl) rfl (J_done ?_))
   refine S_ret (E_inB_ret (E_lp_ret (E_inB_ret (E_done1 rfl rfl E ?_))))
   exact idx_yes hI hc1n (by simpa [eq_comm] using hc2)
  ·refine S_skip ?_
   refine S_nil (E_inB ?_)
   refine S_reg [true, true] rfl rfl ?_
   refine J_st (R_add rfl rfl (add_one hc1n hxs.1)) rfl (J_st (R_move rfl) rfl (J_done ?_))
   refine S_nil (E_again (k + 1) (by omega) ⟨rfl, rfl, rfl, rfl, rfl, trivial⟩ ⟨E, (by omega), h1, (by omega), has_step hI (by assumption) (by simpa [eq_comm] using hc2)⟩)
 ·have hc1n : ¬ k < xs.length := by first | (have h := of_decide_eq_false hc1; omega) | (have h := hc1; simp at h; omega)
  refine S_exit (E_lp_exit (E_inB_exit ?_))
  refine S_seq ?_
  refine S_reg [true] rfl rfl ?_
  refine J_st (R_assign rfl) rfl (J_done ?_)
  refine S_ret (E_done1 rfl rfl E ?_)
  exact idx_no hI (by omega)

set_option maxRecDepth 20000 in
theorem c_slicesContains (vxs : Value) (xs : List Cell) (x : Cell) (w : World) (hxs : RdS w vxs xs) : Ct Try.prog 90 [vxs, .agg (Enc.enc x).toArray] w (fun v _ => v = .bool (decide (x ∈ xs))) := by
 refine ct_of Try.func90 rfl Try.ntmps90 rfl ?_
 refine S_sub [(0, vxs), (1, .agg (Enc.enc x).toArray)] ⟨rfl, rfl, trivial⟩ ?_
 have E : Ext w w := Ext.refl w
 refine S_seq ?_
 refine S_reg [false, true] rfl rfl ?_
 refine J_box rfl rfl (fun b1 w1 e1 s1 h1 => ?_)
 have g_b1 : w.heap.size ≤ b1 := by have := E.size; omega
 have y_b1 := h1.lt
 replace E := E.trans e1
 have z1 := e1.size
 refine J_st (R_assign rfl) rfl (J_done ?_)
 refine S_seq ?_
 refine S_reg [true, true, false, true, true] rfl rfl ?_
 refine J_st (R_move rfl) rfl (J_st (R_loadS st56 rfl h1.at rfl) rfl ?_)
 refine J_call Try.call96 rfl (c_slicesIndex vxs xs x _ (hxs.ext E)) rfl (fun _ w2 e2 hv => ?_)
 subst hv
 replace E := E.trans e2; replace h1 := h1.ext e2
 have z2 := e2.size
 refine J_st (R_geq rfl rfl) rfl (J_st (R_assign rfl) rfl (J_done ?_))
 refine S_ret (E_done1 rfl rfl E ?_)
 exact has_idx

set_option maxRecDepth 20000 in
theorem c_HasCell (vxs : Value) (xs : List Cell) (x : Cell) (w : World) (hxs : RdS w vxs xs) : Ct Try.prog 76 [vxs, .agg (Enc.enc x).toArray] w (fun v _ => v = .bool (decide (x ∈ xs))) := by
 refine ct_of Try.func76 rfl Try.ntmps76 rfl ?_
 refine S_sub [(0, vxs), (1, .agg (Enc.enc x).toArray)] ⟨rfl, rfl, trivial⟩ ?_
 have E : Ext w w := Ext.refl w
 refine S_seq ?_
 refine S_reg [false, true] rfl rfl ?_
 refine J_box rfl rfl (fun b1 w1 e1 s1 h1 => ?_)
 have g_b1 : w.heap.size ≤ b1 := by have := E.size; omega
 have y_b1 := h1.lt
 replace E := E.trans e1
 have z1 := e1.size
 refine J_st (R_assign rfl) rfl (J_done ?_)
 refine S_seq ?_
 refine S_reg [true, true, false, true] rfl rfl ?_
 refine J_st (R_move rfl) rfl (J_st (R_loadS st56 rfl h1.at rfl) rfl ?_)
 refine J_call Try.call90 rfl (c_slicesContains vxs xs x _ (hxs.ext E)) rfl (fun _ w2 e2 hv => ?_)
 subst hv
 replace E := E.trans e2; replace h1 := h1.ext e2
 have z2 := e2.size
 refine J_st (R_assign rfl) rfl (J_done ?_)
 refine S_ret (E_done1 rfl rfl E ?_)
 rfl

set_option maxRecDepth 20000 in
theorem c_sameSlot (x : Cell) (y : Cell) (w : World)  : Ct Try.prog 85 [.agg (Enc.enc x).toArray, .agg (Enc.enc y).toArray] w (fun v _ => v = .bool (slot x y)) := by
 refine ct_of Try.func85 rfl Try.ntmps85 rfl ?_
 refine S_sub [(0, .agg (Enc.enc x).toArray), (1, .agg (Enc.enc y).toArray)] ⟨rfl, rfl, trivial⟩ ?_
 have E : Ext w w := Ext.refl w
 refine S_seq ?_
 refine S_reg [false, false, true] rfl rfl ?_
 refine J_box rfl rfl (fun b1 w1 e1 s1 h1 => ?_)
 have g_b1 : w.heap.size ≤ b1 := by have := E.size; omega
 have y_b1 := h1.lt
 replace E := E.trans e1
 have z1 := e1.size
 refine J_box rfl rfl (fun b2 w2 e2 s2 h2 => ?_)
 have g_b2 : w.heap.size ≤ b2 := by have := E.size; omega
 have y_b2 := h2.lt
 replace E := E.trans e2; replace h1 := h1.ext e2
 have z2 := e2.size
 refine J_st (R_assign rfl) rfl (J_done ?_)
 refine S_seq ?_
 refine S_reg [true, true, true, true, true, true, true, true, true, true, true, true, true, true, true, true, true, true, true, true] rfl rfl ?_
 refine J_st (R_fieldAddr0 fl56_0 rfl) rfl (J_st (R_load sc3 rfl (h1.one 0 rfl)) rfl (J_st (R_fieldAddr0 fl56_0 rfl) rfl (J_st (R_load sc3 rfl (h2.one 0 rfl)) rfl (J_st (R_eql rfl rfl) rfl (J_st (R_move rfl) rfl ?_)))))
 refine J_cut 13 [(0, .agg (Enc.enc x).toArray), (1, .agg (Enc.enc y).toArray), (2, .pointer (some ⟨b1, 0, none⟩)), (3, .pointer (some ⟨b2, 0, none⟩)), (4, .bool false), (23, .bool (((x.op == y.op) && (x.epoch == y.epoch)) && (x.key == y.key)))] (fun w' => w2 = w') ?_ ?_
 ·refine J_if (gd := 10) rfl rfl (fun hg1 => ?_) (fun hg1 => ?_)
  ·refine J_gd rfl rfl (R_fieldAddr0 fl56_1 rfl) rfl (J_gd rfl rfl (R_load sc3 rfl (h1.one 1 rfl)) rfl (J_gd rfl rfl (R_fieldAddr0 fl56_1 rfl) rfl (J_gd rfl rfl (R_load sc3 rfl (h2.one 1 rfl)) rfl (J_gd rfl rfl (R_eql rfl rfl) rfl (J_st (R_pickT rfl rfl) rfl (J_st (R_move rfl) rfl ?_))))))
   refine J_if (gd := 17) rfl rfl (fun hg2 => ?_) (fun hg2 => ?_)
   ·refine J_gd rfl rfl (R_fieldAddr0 fl56_2 rfl) rfl (J_gd rfl rfl (R_load sc3 rfl (h1.one 2 rfl)) rfl (J_gd rfl rfl (R_fieldAddr0 fl56_2 rfl) rfl (J_gd rfl rfl (R_load sc3 rfl (h2.one 2 rfl)) rfl (J_gd rfl rfl (R_eql rfl rfl) rfl (J_st (R_pickT rfl rfl) rfl (J_cutEnd ⟨rfl, rfl, rfl, rfl, rfl, congrArg (fun b => some (Value.bool b)) (show (x.key == y.key) = (((x.op == y.op) && (x.epoch == y.epoch)) && (x.key == y.key)) by first | (rw [hg1, hg2] <;> rfl) | (simp [hg1, hg2]; done) | (simp only [nat_nlt] <;> simp)), trivial⟩ rfl))))))
   ·refine J_gdno rfl rfl rfl rfl (J_gdno rfl rfl rfl rfl (J_gdno rfl rfl rfl rfl (J_gdno rfl rfl rfl rfl (J_gdno rfl rfl rfl rfl (J_st (R_pickF rfl rfl) rfl (J_cutEnd ⟨rfl, rfl, rfl, rfl, rfl, congrArg (fun b => some (Value.bool b)) (show false = (((x.op == y.op) && (x.epoch == y.epoch)) && (x.key == y.key)) by first | (rw [hg1, hg2] <;> rfl) | (simp [hg1, hg2]; done) | (simp only [nat_nlt] <;> simp)), trivial⟩ rfl))))))
  ·refine J_gdno rfl rfl rfl rfl (J_gdno rfl rfl rfl rfl (J_gdno rfl rfl rfl rfl (J_gdno rfl rfl rfl rfl (J_gdno rfl rfl rfl rfl (J_st (R_pickF rfl rfl) rfl (J_st (R_move rfl) rfl (J_gdno rfl rfl rfl rfl (J_gdno rfl rfl rfl rfl (J_gdno rfl rfl rfl rfl (J_gdno rfl rfl rfl rfl (J_gdno rfl rfl rfl rfl (J_st (R_pickF rfl rfl) rfl (J_cutEnd ⟨rfl, rfl, rfl, rfl, rfl, congrArg (fun b => some (Value.bool b)) (show false = (((x.op == y.op) && (x.epoch == y.epoch)) && (x.key == y.key)) by first | (rw [hg1] <;> rfl) | (simp [hg1]; done) | (simp only [nat_nlt] <;> simp)), trivial⟩ rfl)))))))))))))
 rintro _ rfl
 refine J_st (R_assign rfl) rfl (J_done ?_)
 refine S_ret (E_done1 rfl rfl E ?_)
 rfl

set_option maxRecDepth 20000 in
theorem c_LeastOf (vxs : Value) (xs : List Cell) (op : Int) (epoch : Int) (key : Int) (w : World) (hxs : RdS w vxs xs) : Ct Try.prog 67 [vxs, .int .i64 op, .int .i64 epoch, .int .i64 key] w (fun v _ => v = .tuple [.int .i64 ((leastM xs op epoch key).1), .bool ((leastM xs op epoch key).2)].toArray) := by
 refine ct_of Try.func67 rfl Try.ntmps67 rfl ?_
 refine S_sub [(0, vxs), (1, .int .i64 op), (2, .int .i64 epoch), (3, .int .i64 key)] ⟨rfl, rfl, rfl, rfl, trivial⟩ ?_
 have E : Ext w w := Ext.refl w
 refine S_seq ?_
 refine S_reg [true, true] rfl rfl ?_
 refine J_st (R_assign rfl) rfl (J_st (R_assign rfl) rfl (J_done ?_))
 refine S_seq ?_
 refine S_reg [true, true] rfl rfl ?_
 refine J_st (R_assign rfl) rfl (J_st (R_assign rfl) rfl (J_done ?_))
 refine S_seq ?_
 refine S_seq ?_
 refine S_reg [true, true, true] rfl rfl ?_
 refine J_st (R_move rfl) rfl (J_st (R_len Try.underlying27 rfl (hxs.ext E).len) rfl (J_st (R_move rfl) rfl (J_done ?_)))
 refine S_block ?_
 refine S_loop (fun (xq : Nat × Int × Bool) => let ⟨k, n, s⟩ := xq; [(1, .int .i64 op), (2, .int .i64 epoch), (3, .int .i64 key), (8, .int .i64 0), (9, .bool false), (10, .int .i64 n), (11, .bool s), (14, vxs), (15, .int .i64 ((xs.length : Nat) : Int)), (16, .int .i64 ((k : Nat) : Int))]) (fun (xq : Nat × Int × Bool) w' => let ⟨k, n, s⟩ := xq; Ext w w' ∧ w.heap.size ≤ w'.heap.size ∧ k ≤ xs.length ∧ leastGo op epoch key (xs.drop k) n s = leastM xs op epoch key) (fun (xq : Nat × Int × Bool) => let ⟨k, n, s⟩ := xq; xs.length - k) (0, 0, false) ⟨rfl, rfl, rfl, rfl, rfl, rfl, rfl, rfl, rfl, rfl, trivial⟩ ⟨E, Nat.le_refl _, Nat.zero_le _, rfl⟩ ?_
 clear E
 rintro ⟨k, n, s⟩ w1 ⟨E, z1, hk, hI⟩
 refine S_sub [(1, .int .i64 op), (2, .int .i64 epoch), (3, .int .i64 key), (8, .int .i64 0), (9, .bool false), (10, .int .i64 n), (11, .bool s), (14, vxs), (15, .int .i64 ((xs.length : Nat) : Int)), (16, .int .i64 ((k : Nat) : Int))] ⟨rfl, rfl, rfl, rfl, rfl, rfl, rfl, rfl, rfl, rfl, trivial⟩ ?_
 refine S_seq ?_
 refine S_reg [true] rfl rfl ?_
 refine J_st (R_lss rfl rfl) rfl (J_done ?_)
 refine S_seq ?_
 refine S_cond rfl (fun hc1 => ?_) (fun hc1 => ?_)
 ·have hc1n : k < xs.length := by first | (have h := of_decide_eq_true hc1; omega) | (have h := hc1; simp at h; omega)
  refine S_skip ?_
  refine S_seq ?_
  refine S_block ?_
  refine S_seq ?_
  refine S_reg [true, true, false, false] rfl rfl ?_
  have hi1 : k < xs.length := (by first | assumption | omega | (simp only [List.length_set]; first | assumption | omega) | (simp only [List.getElem_set_self, List.length_set]; first | assumption | omega) | (simp only [setW, setLk, List.length_set]; first | assumption | omega) | (simp; done))
  refine J_st (R_index (i := k) sl27 rfl rfl (hxs.ext E) hi1) rfl (J_st (R_loadS st56 rfl ((hxs.ext E).get hi1) rfl) rfl ?_)
  refine J_alloc st56 rfl (fun b1 w2 e1 s1 h1 => ?_)
  have g_b1 : w.heap.size ≤ b1 := by have := E.size; omega
  have y_b1 := h1.lt
  replace E := E.trans e1
  have z2 := e1.size
  refine J_storeS' (cs' := [.int .i64 ((xs[k]'hi1).op), .int .i64 ((xs[k]'hi1).epoch), .int .i64 ((xs[k]'hi1).key), .int .i64 ((xs[k]'hi1).val)]) st56 rfl rfl rfl rfl h1 (Nat.le_of_ble_eq_true rfl) rfl (fun w3 m1 h1' => ?_)
  replace h1 := h1'
  replace E := E.step m1 (fun g hg => by cases hg; omega)
  have z3 := m1.size
  refine J_done ?_
  refine S_seq ?_
  refine S_reg [true, true, true, true, true, false, true, true, true, true, true, true, true, true, true, true] rfl rfl ?_
  refine J_st (R_loadS st56 rfl h1.at rfl) rfl (J_st (R_move rfl) rfl (J_st (R_move rfl) rfl (J_st (R_move rfl) rfl (J_st (R_build (⟨op, epoch, key, 0⟩ : Cell) rfl (fun _ => by kernel_rfl)) rfl ?_))))
  refine J_call Try.call85 rfl (c_sameSlot (xs[k]'hi1) (⟨op, epoch, key, 0⟩ : Cell) _ ) rfl (fun _ w4 e2 hv => ?_)
  subst hv
  replace E := E.trans e2; replace h1 := h1.ext e2
  have z4 := e2.size
  refine J_st (R_move rfl) rfl ?_
  refine J_cut 9 [(1, .int .i64 op), (2, .int .i64 epoch), (3, .int .i64 key), (8, .int .i64 0), (9, .bool false), (10, .int .i64 n), (11, .bool s), (13, .pointer (some ⟨b1, 0, none⟩)), (14, vxs), (15, .int .i64 ((xs.length : Nat) : Int)), (16, .int .i64 ((k : Nat) : Int)), (17, .bool (decide (((k : Nat) : Int) < ((xs.length : Nat) : Int)))), (18, .pointer (some ⟨sblk vxs, soff vxs + k * 4, none⟩)), (19, .agg (Enc.enc (xs[k]'hi1)).toArray), (35, .bool ((slot (xs[k]'hi1) (⟨op, epoch, key, 0⟩ : Cell)) && ((!s) || (decide (((xs[k]'hi1).val) < n)))))] (fun w' => w4 = w') ?_ ?_
  ·refine J_if (gd := 26) rfl rfl (fun hg1 => ?_) (fun hg1 => ?_)
   ·refine J_gd rfl rfl (R_move rfl) rfl (J_gd rfl rfl (R_not rfl) rfl (J_gd rfl rfl (R_move rfl) rfl ?_))
    refine J_if (gd := 29) rfl rfl (fun hg2 => ?_) (fun hg2 => ?_)
    ·refine J_gdno rfl rfl rfl rfl (J_gdno rfl rfl rfl rfl (J_gdno rfl rfl rfl rfl (J_gdno rfl rfl rfl rfl (J_gd rfl rfl (R_pickT rfl rfl) rfl (J_st (R_pickT rfl rfl) rfl (J_cutEnd ⟨rfl, rfl, rfl, rfl, rfl, rfl, rfl, rfl, rfl, rfl, rfl, rfl, rfl, rfl, congrArg (fun b => some (Value.bool b)) (show true = ((slot (xs[k]'hi1) (⟨op, epoch, key, 0⟩ : Cell)) && ((!s) || (decide (((xs[k]'hi1).val) < n)))) by first | (rw [hg1, hg2] <;> rfl) | (simp [hg1, hg2]; done) | (simp only [nat_nlt] <;> simp)), trivial⟩ rfl))))))
    ·refine J_gd rfl rfl (R_fieldAddr0 fl56_3 rfl) rfl (J_gd rfl rfl (R_load sc3 rfl (h1.one 3 rfl)) rfl (J_gd rfl rfl (R_move rfl) rfl (J_gd rfl rfl (R_lss rfl rfl) rfl (J_gd rfl rfl (R_pickF rfl rfl) rfl (J_st (R_pickT rfl rfl) rfl (J_cutEnd ⟨rfl, rfl, rfl, rfl, rfl, rfl, rfl, rfl, rfl, rfl, rfl, rfl, rfl, rfl, congrArg (fun b => some (Value.bool b)) (show (decide (((xs[k]'hi1).val) < n)) = ((slot (xs[k]'hi1) (⟨op, epoch, key, 0⟩ : Cell)) && ((!s) || (decide (((xs[k]'hi1).val) < n)))) by first | (rw [hg1, hg2] <;> rfl) | (simp [hg1, hg2]; done) | (simp only [nat_nlt] <;> simp)), trivial⟩ rfl))))))
   ·refine J_gdno rfl rfl rfl rfl (J_gdno rfl rfl rfl rfl (J_gdno rfl rfl rfl rfl (J_gdx rfl rfl rfl (J_gdx rfl rfl rfl (J_gdx rfl rfl rfl (J_gdx rfl rfl rfl (J_gdno rfl rfl rfl rfl (J_st (R_pickF rfl rfl) rfl (J_cutEnd ⟨rfl, rfl, rfl, rfl, rfl, rfl, rfl, rfl, rfl, rfl, rfl, rfl, rfl, rfl, congrArg (fun b => some (Value.bool b)) (show false = ((slot (xs[k]'hi1) (⟨op, epoch, key, 0⟩ : Cell)) && ((!s) || (decide (((xs[k]'hi1).val) < n)))) by first | (rw [hg1] <;> rfl) | (simp [hg1]; done) | (simp only [nat_nlt] <;> simp)), trivial⟩ rfl)))))))))
  rintro _ rfl
  refine J_done ?_
  refine S_cond rfl (fun hc2 => ?_) (fun hc2 => ?_)
  ·refine S_reg [true, true, true, true] rfl rfl ?_
   refine J_st (R_fieldAddr0 fl56_3 rfl) rfl (J_st (R_load sc3 rfl (h1.one 3 rfl)) rfl (J_st (R_assign rfl) rfl (J_st (R_assign rfl) rfl (J_done ?_))))
   refine S_nil (E_inB ?_)
   refine S_reg [true, true] rfl rfl ?_
   refine J_st (R_add rfl rfl (add_one hc1n hxs.1)) rfl (J_st (R_move rfl) rfl (J_done ?_))
   refine S_nil (E_again (k + 1, (xs[k]'hi1).val, true) (by simp; omega) ⟨rfl, rfl, rfl, rfl, rfl, rfl, rfl, rfl, rfl, rfl, trivial⟩ ⟨E, (by omega), (by omega), leastGo_yes hI hc1n (by simpa [slot] using hc2)⟩)
  ·refine S_skip ?_
   refine S_nil (E_inB ?_)
   refine S_reg [true, true] rfl rfl ?_
   refine J_st (R_add rfl rfl (add_one hc1n hxs.1)) rfl (J_st (R_move rfl) rfl (J_done ?_))
   refine S_nil (E_again (k + 1, n, s) (by simp; omega) ⟨rfl, rfl, rfl, rfl, rfl, rfl, rfl, rfl, rfl, rfl, trivial⟩ ⟨E, (by omega), (by omega), leastGo_no hI hc1n (by simpa [slot] using hc2)⟩)
 ·have hc1n : ¬ k < xs.length := by first | (have h := of_decide_eq_false hc1; omega) | (have h := hc1; simp at h; omega)
  refine S_exit (E_lp_exit (E_inB_exit ?_))
  refine S_seq ?_
  refine S_reg [true, true, true, true] rfl rfl ?_
  refine J_st (R_move rfl) rfl (J_st (R_move rfl) rfl (J_st (R_assign rfl) rfl (J_st (R_assign rfl) rfl (J_done ?_))))
  refine S_ret (E_doneN (l := [.tmp 8, .tmp 9]) (vs := [.int .i64 n, .bool s]) rfl ⟨.tmp rfl, .tmp rfl, trivial⟩ rfl E ?_)
  simp only [← hI, List.drop_of_length_le (show xs.length ≤ k by omega), leastGo]

set_option maxRecDepth 20000 in
theorem s_LeastOf (vxs : Value) (xs : List Cell) (op : Int) (epoch : Int) (key : Int) (w : World) (hxs : RdS w vxs xs) : Ct Try.prog 68 [vxs, .int .i64 op, .int .i64 epoch, .int .i64 key] w (fun v _ => v = .tuple [.int .i64 ((leastM xs op epoch key).1), .bool ((leastM xs op epoch key).2)].toArray) := by
 refine ct_of Try.func68 rfl Try.ntmps68 rfl ?_
 refine S_sub [(0, vxs), (1, .int .i64 op), (2, .int .i64 epoch), (3, .int .i64 key)] ⟨rfl, rfl, rfl, rfl, trivial⟩ ?_
 have E : Ext w w := Ext.refl w
 refine S_seq ?_
 refine S_reg [true, true] rfl rfl ?_
 refine J_st (R_assign rfl) rfl (J_st (R_assign rfl) rfl (J_done ?_))
 refine S_seq ?_
 refine S_reg [true] rfl rfl ?_
 refine J_st (R_assign rfl) rfl (J_done ?_)
 refine S_seq ?_
 refine S_reg [true] rfl rfl ?_
 refine J_st (R_assign rfl) rfl (J_done ?_)
 refine S_seq ?_
 refine S_seq ?_
 refine S_reg [true] rfl rfl ?_
 refine J_st (R_assign rfl) rfl (J_done ?_)
 refine S_block ?_
 refine S_loop (fun (xq : Nat × Int × Bool) => let ⟨k, n, s⟩ := xq; [(0, vxs), (1, .int .i64 op), (2, .int .i64 epoch), (3, .int .i64 key), (8, .int .i64 0), (9, .bool false), (10, .int .i64 n), (11, .bool s), (12, .int .i64 ((k : Nat) : Int))]) (fun (xq : Nat × Int × Bool) w' => let ⟨k, n, s⟩ := xq; Ext w w' ∧ w.heap.size ≤ w'.heap.size ∧ k ≤ xs.length ∧ leastGo op epoch key (xs.drop k) n s = leastM xs op epoch key) (fun (xq : Nat × Int × Bool) => let ⟨k, n, s⟩ := xq; xs.length - k) (0, 0, false) ⟨rfl, rfl, rfl, rfl, rfl, rfl, rfl, rfl, rfl, trivial⟩ ⟨E, Nat.le_refl _, Nat.zero_le _, rfl⟩ ?_
 clear E
 rintro ⟨k, n, s⟩ w1 ⟨E, z1, hk, hI⟩
 refine S_sub [(0, vxs), (1, .int .i64 op), (2, .int .i64 epoch), (3, .int .i64 key), (8, .int .i64 0), (9, .bool false), (10, .int .i64 n), (11, .bool s), (12, .int .i64 ((k : Nat) : Int))] ⟨rfl, rfl, rfl, rfl, rfl, rfl, rfl, rfl, rfl, trivial⟩ ?_
 refine S_seq ?_
 refine S_seq ?_
 refine S_reg [true, true, true, true] rfl rfl ?_
 refine J_st (R_move rfl) rfl (J_st (R_move rfl) rfl (J_st (R_len Try.underlying27 rfl (hxs.ext E).len) rfl (J_st (R_lss rfl rfl) rfl (J_done ?_))))
 refine S_cond rfl (fun hc1 => ?_) (fun hc1 => ?_)
 ·have hc1n : k < xs.length := by first | (have h := of_decide_eq_true hc1; omega) | (have h := hc1; simp at h; omega)
  refine S_skip ?_
  refine S_seq ?_
  refine S_block ?_
  refine S_seq ?_
  refine S_reg [true, true, true, true, false, false] rfl rfl ?_
  refine J_st (R_move rfl) rfl (J_st (R_move rfl) rfl ?_)
  have hi1 : k < xs.length := (by first | assumption | omega | (simp only [List.length_set]; first | assumption | omega) | (simp only [List.getElem_set_self, List.length_set]; first | assumption | omega) | (simp only [setW, setLk, List.length_set]; first | assumption | omega) | (simp; done))
  refine J_st (R_index (i := k) sl27 rfl rfl (hxs.ext E) hi1) rfl (J_st (R_loadS st56 rfl ((hxs.ext E).get hi1) rfl) rfl ?_)
  refine J_alloc st56 rfl (fun b1 w2 e1 s1 h1 => ?_)
  have g_b1 : w.heap.size ≤ b1 := by have := E.size; omega
  have y_b1 := h1.lt
  replace E := E.trans e1
  have z2 := e1.size
  refine J_storeS' (cs' := [.int .i64 ((xs[k]'hi1).op), .int .i64 ((xs[k]'hi1).epoch), .int .i64 ((xs[k]'hi1).key), .int .i64 ((xs[k]'hi1).val)]) st56 rfl rfl rfl rfl h1 (Nat.le_of_ble_eq_true rfl) rfl (fun w3 m1 h1' => ?_)
  replace h1 := h1'
  replace E := E.step m1 (fun g hg => by cases hg; omega)
  have z3 := m1.size
  refine J_done ?_
  refine S_seq ?_
  refine S_reg [true, true, true, true, true, true, true, true, true, true, true, true, true, true, true, true, true, true, true, true, true, true, true, true, true, true] rfl rfl ?_
  refine J_st (R_fieldAddr0 fl56_0 rfl) rfl (J_st (R_load sc3 rfl (h1.one 0 rfl)) rfl (J_st (R_move rfl) rfl (J_st (R_eql rfl rfl) rfl (J_st (R_move rfl) rfl ?_))))
  refine J_cut 21 [(0, vxs), (1, .int .i64 op), (2, .int .i64 epoch), (3, .int .i64 key), (8, .int .i64 0), (9, .bool false), (10, .int .i64 n), (11, .bool s), (12, .int .i64 ((k : Nat) : Int)), (13, .pointer (some ⟨b1, 0, none⟩)), (14, .int .i64 ((k : Nat) : Int)), (15, vxs), (16, .int .i64 ((xs.length : Nat) : Int)), (17, .bool (decide (((k : Nat) : Int) < ((xs.length : Nat) : Int)))), (20, vxs), (21, .int .i64 ((k : Nat) : Int)), (22, .pointer (some ⟨sblk vxs, soff vxs + k * 4, none⟩)), (23, .agg (Enc.enc (xs[k]'hi1)).toArray), (49, .bool ((((((xs[k]'hi1).op) == op) && (((xs[k]'hi1).epoch) == epoch)) && (((xs[k]'hi1).key) == key)) && ((!s) || (decide (((xs[k]'hi1).val) < n)))))] (fun w' => w3 = w') ?_ ?_
  ·refine J_if (gd := 28) rfl rfl (fun hg1 => ?_) (fun hg1 => ?_)
   ·refine J_gd rfl rfl (R_fieldAddr0 fl56_1 rfl) rfl (J_gd rfl rfl (R_load sc3 rfl (h1.one 1 rfl)) rfl (J_gd rfl rfl (R_move rfl) rfl (J_gd rfl rfl (R_eql rfl rfl) rfl (J_st (R_pickT rfl rfl) rfl (J_st (R_move rfl) rfl ?_)))))
    refine J_if (gd := 34) rfl rfl (fun hg2 => ?_) (fun hg2 => ?_)
    ·refine J_gd rfl rfl (R_fieldAddr0 fl56_2 rfl) rfl (J_gd rfl rfl (R_load sc3 rfl (h1.one 2 rfl)) rfl (J_gd rfl rfl (R_move rfl) rfl (J_gd rfl rfl (R_eql rfl rfl) rfl (J_st (R_pickT rfl rfl) rfl (J_st (R_move rfl) rfl ?_)))))
     refine J_if (gd := 40) rfl rfl (fun hg3 => ?_) (fun hg3 => ?_)
     ·refine J_gd rfl rfl (R_move rfl) rfl (J_gd rfl rfl (R_not rfl) rfl (J_gd rfl rfl (R_move rfl) rfl ?_))
      refine J_if (gd := 43) rfl rfl (fun hg4 => ?_) (fun hg4 => ?_)
      ·refine J_gdno rfl rfl rfl rfl (J_gdno rfl rfl rfl rfl (J_gdno rfl rfl rfl rfl (J_gdno rfl rfl rfl rfl (J_gd rfl rfl (R_pickT rfl rfl) rfl (J_st (R_pickT rfl rfl) rfl (J_cutEnd ⟨rfl, rfl, rfl, rfl, rfl, rfl, rfl, rfl, rfl, rfl, rfl, rfl, rfl, rfl, rfl, rfl, rfl, rfl, congrArg (fun b => some (Value.bool b)) (show true = ((((((xs[k]'hi1).op) == op) && (((xs[k]'hi1).epoch) == epoch)) && (((xs[k]'hi1).key) == key)) && ((!s) || (decide (((xs[k]'hi1).val) < n)))) by first | (rw [hg1, hg2, hg3, hg4] <;> rfl) | (simp [hg1, hg2, hg3, hg4]; done) | (simp only [nat_nlt] <;> simp)), trivial⟩ rfl))))))
      ·refine J_gd rfl rfl (R_fieldAddr0 fl56_3 rfl) rfl (J_gd rfl rfl (R_load sc3 rfl (h1.one 3 rfl)) rfl (J_gd rfl rfl (R_move rfl) rfl (J_gd rfl rfl (R_lss rfl rfl) rfl (J_gd rfl rfl (R_pickF rfl rfl) rfl (J_st (R_pickT rfl rfl) rfl (J_cutEnd ⟨rfl, rfl, rfl, rfl, rfl, rfl, rfl, rfl, rfl, rfl, rfl, rfl, rfl, rfl, rfl, rfl, rfl, rfl, congrArg (fun b => some (Value.bool b)) (show (decide (((xs[k]'hi1).val) < n)) = ((((((xs[k]'hi1).op) == op) && (((xs[k]'hi1).epoch) == epoch)) && (((xs[k]'hi1).key) == key)) && ((!s) || (decide (((xs[k]'hi1).val) < n)))) by first | (rw [hg1, hg2, hg3, hg4] <;> rfl) | (simp [hg1, hg2, hg3, hg4]; done) | (simp only [nat_nlt] <;> simp)), trivial⟩ rfl))))))
     ·refine J_gdno rfl rfl rfl rfl (J_gdno rfl rfl rfl rfl (J_gdno rfl rfl rfl rfl (J_gdx rfl rfl rfl (J_gdx rfl rfl rfl (J_gdx rfl rfl rfl (J_gdx rfl rfl rfl (J_gdno rfl rfl rfl rfl (J_st (R_pickF rfl rfl) rfl (J_cutEnd ⟨rfl, rfl, rfl, rfl, rfl, rfl, rfl, rfl, rfl, rfl, rfl, rfl, rfl, rfl, rfl, rfl, rfl, rfl, congrArg (fun b => some (Value.bool b)) (show false = ((((((xs[k]'hi1).op) == op) && (((xs[k]'hi1).epoch) == epoch)) && (((xs[k]'hi1).key) == key)) && ((!s) || (decide (((xs[k]'hi1).val) < n)))) by first | (rw [hg1, hg2, hg3] <;> rfl) | (simp [hg1, hg2, hg3]; done) | (simp only [nat_nlt] <;> simp)), trivial⟩ rfl)))))))))
    ·refine J_gdno rfl rfl rfl rfl (J_gdno rfl rfl rfl rfl (J_gdno rfl rfl rfl rfl (J_gdno rfl rfl rfl rfl (J_st (R_pickF rfl rfl) rfl (J_st (R_move rfl) rfl (J_gdno rfl rfl rfl rfl (J_gdno rfl rfl rfl rfl (J_gdno rfl rfl rfl rfl (J_gdx rfl rfl rfl (J_gdx rfl rfl rfl (J_gdx rfl rfl rfl (J_gdx rfl rfl rfl (J_gdno rfl rfl rfl rfl (J_st (R_pickF rfl rfl) rfl (J_cutEnd ⟨rfl, rfl, rfl, rfl, rfl, rfl, rfl, rfl, rfl, rfl, rfl, rfl, rfl, rfl, rfl, rfl, rfl, rfl, congrArg (fun b => some (Value.bool b)) (show false = ((((((xs[k]'hi1).op) == op) && (((xs[k]'hi1).epoch) == epoch)) && (((xs[k]'hi1).key) == key)) && ((!s) || (decide (((xs[k]'hi1).val) < n)))) by first | (rw [hg1, hg2] <;> rfl) | (simp [hg1, hg2]; done) | (simp only [nat_nlt] <;> simp)), trivial⟩ rfl)))))))))))))))
   ·refine J_gdno rfl rfl rfl rfl (J_gdno rfl rfl rfl rfl (J_gdno rfl rfl rfl rfl (J_gdno rfl rfl rfl rfl (J_st (R_pickF rfl rfl) rfl (J_st (R_move rfl) rfl (J_gdno rfl rfl rfl rfl (J_gdno rfl rfl rfl rfl (J_gdno rfl rfl rfl rfl (J_gdno rfl rfl rfl rfl (J_st (R_pickF rfl rfl) rfl (J_st (R_move rfl) rfl (J_gdno rfl rfl rfl rfl (J_gdno rfl rfl rfl rfl (J_gdno rfl rfl rfl rfl (J_gdx rfl rfl rfl (J_gdx rfl rfl rfl (J_gdx rfl rfl rfl (J_gdx rfl rfl rfl (J_gdno rfl rfl rfl rfl (J_st (R_pickF rfl rfl) rfl (J_cutEnd ⟨rfl, rfl, rfl, rfl, rfl, rfl, rfl, rfl, rfl, rfl, rfl, rfl, rfl, rfl, rfl, rfl, rfl, rfl, congrArg (fun b => some (Value.bool b)) (show false = ((((((xs[k]'hi1).op) == op) && (((xs[k]'hi1).epoch) == epoch)) && (((xs[k]'hi1).key) == key)) && ((!s) || (decide (((xs[k]'hi1).val) < n)))) by first | (rw [hg1] <;> rfl) | (simp [hg1]; done) | (simp only [nat_nlt] <;> simp)), trivial⟩ rfl)))))))))))))))))))))
  rintro _ rfl
  refine J_done ?_
  refine S_cond rfl (fun hc2 => ?_) (fun hc2 => ?_)
  ·refine S_seq ?_
   refine S_reg [true, true, true] rfl rfl ?_
   refine J_st (R_fieldAddr0 fl56_3 rfl) rfl (J_st (R_load sc3 rfl (h1.one 3 rfl)) rfl (J_st (R_assign rfl) rfl (J_done ?_)))
   refine S_reg [true] rfl rfl ?_
   refine J_st (R_assign rfl) rfl (J_done ?_)
   refine S_nil (E_inB ?_)
   refine S_reg [true, true, true] rfl rfl ?_
   refine J_st (R_move rfl) rfl (J_st (R_add rfl rfl (add_one hc1n hxs.1)) rfl (J_st (R_assign rfl) rfl (J_done ?_)))
   refine S_nil (E_again (k + 1, (xs[k]'hi1).val, true) (by simp; omega) ⟨rfl, rfl, rfl, rfl, rfl, rfl, rfl, rfl, rfl, trivial⟩ ⟨E, (by omega), (by omega), leastGo_yes hI hc1n (by simpa [slot] using hc2)⟩)
  ·refine S_skip ?_
   refine S_nil (E_inB ?_)
   refine S_reg [true, true, true] rfl rfl ?_
   refine J_st (R_move rfl) rfl (J_st (R_add rfl rfl (add_one hc1n hxs.1)) rfl (J_st (R_assign rfl) rfl (J_done ?_)))
   refine S_nil (E_again (k + 1, n, s) (by simp; omega) ⟨rfl, rfl, rfl, rfl, rfl, rfl, rfl, rfl, rfl, trivial⟩ ⟨E, (by omega), (by omega), leastGo_no hI hc1n (by simpa [slot] using hc2)⟩)
 ·have hc1n : ¬ k < xs.length := by first | (have h := of_decide_eq_false hc1; omega) | (have h := hc1; simp at h; omega)
  refine S_exit (E_lp_exit (E_inB_exit ?_))
  refine S_seq ?_
  refine S_reg [true, true, true, true] rfl rfl ?_
  refine J_st (R_move rfl) rfl (J_st (R_move rfl) rfl (J_st (R_assign rfl) rfl (J_st (R_assign rfl) rfl (J_done ?_))))
  refine S_ret (E_doneN (l := [.tmp 8, .tmp 9]) (vs := [.int .i64 n, .bool s]) rfl ⟨.tmp rfl, .tmp rfl, trivial⟩ rfl E ?_)
  simp only [← hI, List.drop_of_length_le (show xs.length ≤ k by omega), leastGo]

set_option maxRecDepth 20000 in
theorem s_NoWorse (vxs : Value) (xs : List Cell) (vys : Value) (ys : List Cell) (w : World) (hxs : RdS w vxs xs) (hys : RdS w vys ys) : Ct Try.prog 30 [vxs, vys] w (fun v _ => v = .bool (ys.all (nwP xs))) := by
 refine ct_of Try.func30 rfl Try.ntmps30 rfl ?_
 refine S_sub [(0, vxs), (1, vys)] ⟨rfl, rfl, trivial⟩ ?_
 have E : Ext w w := Ext.refl w
 refine S_seq ?_
 refine S_reg [true] rfl rfl ?_
 refine J_st (R_assign rfl) rfl (J_done ?_)
 refine S_seq ?_
 refine S_seq ?_
 refine S_reg [true] rfl rfl ?_
 refine J_st (R_assign rfl) rfl (J_done ?_)
 refine S_block ?_
 refine S_loop (fun (k : Nat) => [(0, vxs), (1, vys), (4, .bool false), (5, .int .i64 ((k : Nat) : Int))]) (fun (k : Nat) w' => Ext w w' ∧ w.heap.size ≤ w'.heap.size ∧ k ≤ ys.length ∧ (ys.take k).all (nwP xs) = true) (fun (k : Nat) => ys.length - k) 0 ⟨rfl, rfl, rfl, rfl, trivial⟩ ⟨E, Nat.le_refl _, Nat.zero_le _, rfl⟩ ?_
 clear E
 rintro k w1 ⟨E, z1, hk, hI⟩
 refine S_seq ?_
 refine S_seq ?_
 refine S_reg [true, true, true, true] rfl rfl ?_
 refine J_st (R_move rfl) rfl (J_st (R_move rfl) rfl (J_st (R_len Try.underlying27 rfl (hys.ext E).len) rfl (J_st (R_lss rfl rfl) rfl (J_done ?_))))
 refine S_cond rfl (fun hc1 => ?_) (fun hc1 => ?_)
 ·have hc1n : k < ys.length := by first | (have h := of_decide_eq_true hc1; omega) | (have h := hc1; simp at h; omega)
  refine S_skip ?_
  refine S_seq ?_
  refine S_block ?_
  refine S_seq ?_
  refine S_regD mixed [(0, true), (1, true), (2, true), (3, true), (4, true), (5, true), (6, true), (7, true), (8, true), (9, true), (10, true), (11, true), (12, true), (13, true), (14, true), (15, true), (16, false), (17, true), (18, true), (19, true), (20, true), (21, true)] (by decide +kernel) rfl (fun w2 e1 => ?_)
  replace E := E.trans e1
  have z2 := e1.size
  refine J_st (R_move rfl) rfl (J_st (R_move rfl) rfl (J_st (R_move rfl) rfl ?_))
  have hi1 : k < ys.length := (by first | assumption | omega | (simp only [List.length_set]; first | assumption | omega) | (simp only [List.getElem_set_self, List.length_set]; first | assumption | omega) | (simp only [setW, setLk, List.length_set]; first | assumption | omega) | (simp; done))
  refine J_st (R_index (i := k) sl27 rfl rfl (hys.ext E) hi1) rfl (J_st (R_fieldAddr fl56_0 rfl) rfl (J_st (R_load sc3 rfl (((hys.ext E).get hi1).one 0 rfl)) rfl (J_st (R_move rfl) rfl (J_st (R_move rfl) rfl (J_st (R_index (i := k) sl27 rfl rfl (hys.ext E) hi1) rfl (J_st (R_fieldAddr fl56_1 rfl) rfl (J_st (R_load sc3 rfl (((hys.ext E).get hi1).one 1 rfl)) rfl (J_st (R_move rfl) rfl (J_st (R_move rfl) rfl (J_st (R_index (i := k) sl27 rfl rfl (hys.ext E) hi1) rfl (J_st (R_fieldAddr fl56_2 rfl) rfl (J_st (R_load sc3 rfl (((hys.ext E).get hi1).one 2 rfl)) rfl ?_))))))))))))
  refine J_call Try.call68 rfl (s_LeastOf vxs xs ((ys[k]'hi1).op) ((ys[k]'hi1).epoch) ((ys[k]'hi1).key) _ (hxs.ext E)) rfl (fun _ w3 e2 hv => ?_)
  subst hv
  replace E := E.trans e2
  have z3 := e2.size
  refine J_st (R_move rfl) rfl (J_st (R_extract rfl rfl) rfl (J_st (R_extract rfl rfl) rfl (J_st (R_assign rfl) rfl (J_st (R_assign rfl) rfl (J_done ?_)))))
  refine S_seq ?_
  refine S_reg [true, true, true, true, true, true, true, true, true, true, true] rfl rfl ?_
  refine J_st (R_move rfl) rfl (J_st (R_not rfl) rfl (J_st (R_move rfl) rfl ?_))
  refine J_cut 8 [(0, vxs), (1, vys), (4, .bool false), (5, .int .i64 ((k : Nat) : Int)), (6, .int .i64 ((leastM xs ((ys[k]'hi1).op) ((ys[k]'hi1).epoch) ((ys[k]'hi1).key)).1)), (7, .bool ((leastM xs ((ys[k]'hi1).op) ((ys[k]'hi1).epoch) ((ys[k]'hi1).key)).2)), (8, .int .i64 ((k : Nat) : Int)), (9, vys), (10, .int .i64 ((ys.length : Nat) : Int)), (11, .bool (decide (((k : Nat) : Int) < ((ys.length : Nat) : Int)))), (14, .tuple [.int .i64 ((leastM xs ((ys[k]'hi1).op) ((ys[k]'hi1).epoch) ((ys[k]'hi1).key)).1), .bool ((leastM xs ((ys[k]'hi1).op) ((ys[k]'hi1).epoch) ((ys[k]'hi1).key)).2)].toArray), (15, vxs), (16, vys), (17, .int .i64 ((k : Nat) : Int)), (18, .pointer (some ⟨sblk vys, soff vys + k * 4, none⟩)), (19, .pointer (some ⟨(sblk vys), soff vys + k * 4 + 0, none⟩)), (20, .int .i64 ((ys[k]'hi1).op)), (21, vys), (22, .int .i64 ((k : Nat) : Int)), (23, .pointer (some ⟨sblk vys, soff vys + k * 4, none⟩)), (24, .pointer (some ⟨(sblk vys), soff vys + k * 4 + 1, none⟩)), (25, .int .i64 ((ys[k]'hi1).epoch)), (26, vys), (27, .int .i64 ((k : Nat) : Int)), (28, .pointer (some ⟨sblk vys, soff vys + k * 4, none⟩)), (29, .pointer (some ⟨(sblk vys), soff vys + k * 4 + 2, none⟩)), (30, .int .i64 ((ys[k]'hi1).key)), (31, .tuple [.int .i64 ((leastM xs ((ys[k]'hi1).op) ((ys[k]'hi1).epoch) ((ys[k]'hi1).key)).1), .bool ((leastM xs ((ys[k]'hi1).op) ((ys[k]'hi1).epoch) ((ys[k]'hi1).key)).2)].toArray), (32, .int .i64 ((leastM xs ((ys[k]'hi1).op) ((ys[k]'hi1).epoch) ((ys[k]'hi1).key)).1)), (33, .bool ((leastM xs ((ys[k]'hi1).op) ((ys[k]'hi1).epoch) ((ys[k]'hi1).key)).2)), (44, .bool ((!((leastM xs ((ys[k]'hi1).op) ((ys[k]'hi1).epoch) ((ys[k]'hi1).key)).2)) || (decide (((ys[k]'hi1).val) < ((leastM xs ((ys[k]'hi1).op) ((ys[k]'hi1).epoch) ((ys[k]'hi1).key)).1)))))] (fun w' => w3 = w') ?_ ?_
  ·refine J_if (gd := 36) rfl rfl (fun hg1 => ?_) (fun hg1 => ?_)
   ·refine J_gdno rfl rfl rfl rfl (J_gdno rfl rfl rfl rfl (J_gdno rfl rfl rfl rfl (J_gdno rfl rfl rfl rfl (J_gdno rfl rfl rfl rfl (J_gdno rfl rfl rfl rfl (J_gdno rfl rfl rfl rfl (J_st (R_pickT rfl rfl) rfl (J_cutEnd ⟨rfl, rfl, rfl, rfl, rfl, rfl, rfl, rfl, rfl, rfl, rfl, rfl, rfl, rfl, rfl, rfl, rfl, rfl, rfl, rfl, rfl, rfl, rfl, rfl, rfl, rfl, rfl, rfl, rfl, rfl, congrArg (fun b => some (Value.bool b)) (show true = ((!((leastM xs ((ys[k]'hi1).op) ((ys[k]'hi1).epoch) ((ys[k]'hi1).key)).2)) || (decide (((ys[k]'hi1).val) < ((leastM xs ((ys[k]'hi1).op) ((ys[k]'hi1).epoch) ((ys[k]'hi1).key)).1)))) by first | (rw [hg1] <;> rfl) | (simp [hg1]; done) | (simp only [nat_nlt] <;> simp)), trivial⟩ rfl))))))))
   ·refine J_gd rfl rfl (R_move rfl) rfl (J_gd rfl rfl (R_move rfl) rfl (J_gd rfl rfl (R_move rfl) rfl (J_gd rfl rfl (R_index (i := k) sl27 rfl rfl (hys.ext E) hi1) rfl (J_gd rfl rfl (R_fieldAddr fl56_3 rfl) rfl (J_gd rfl rfl (R_load sc3 rfl (((hys.ext E).get hi1).one 3 rfl)) rfl (J_gd rfl rfl (R_gtr rfl rfl) rfl (J_st (R_pickF rfl rfl) rfl (J_cutEnd ⟨rfl, rfl, rfl, rfl, rfl, rfl, rfl, rfl, rfl, rfl, rfl, rfl, rfl, rfl, rfl, rfl, rfl, rfl, rfl, rfl, rfl, rfl, rfl, rfl, rfl, rfl, rfl, rfl, rfl, rfl, congrArg (fun b => some (Value.bool b)) (show (decide (((ys[k]'hi1).val) < ((leastM xs ((ys[k]'hi1).op) ((ys[k]'hi1).epoch) ((ys[k]'hi1).key)).1))) = ((!((leastM xs ((ys[k]'hi1).op) ((ys[k]'hi1).epoch) ((ys[k]'hi1).key)).2)) || (decide (((ys[k]'hi1).val) < ((leastM xs ((ys[k]'hi1).op) ((ys[k]'hi1).epoch) ((ys[k]'hi1).key)).1)))) by first | (rw [hg1] <;> rfl) | (simp [hg1]; done) | (simp only [nat_nlt] <;> simp)), trivial⟩ rfl))))))))
  rintro _ rfl
  refine J_done ?_
  refine S_cond rfl (fun hc2 => ?_) (fun hc2 => ?_)
  ·refine S_seq ?_
   refine S_reg [true] rfl rfl ?_
   refine J_st (R_assign rfl) rfl (J_done ?_)
   refine S_ret (E_inB_ret (E_lp_ret (E_inB_ret (E_done1 rfl rfl E ?_))))
   exact all_no hc1n (by show (!_) = _; rw [hc2]; rfl)
  ·refine S_skip ?_
   refine S_nil (E_inB ?_)
   refine S_reg [true, true, true] rfl rfl ?_
   refine J_st (R_move rfl) rfl (J_st (R_add rfl rfl (add_one hc1n hys.1)) rfl (J_st (R_assign rfl) rfl (J_done ?_)))
   refine S_nil (E_again (k + 1) (by omega) ⟨rfl, rfl, rfl, rfl, trivial⟩ ⟨E, (by omega), (by omega), all_step hI (by assumption) (by show (!_) = _; rw [hc2]; rfl)⟩)
 ·have hc1n : ¬ k < ys.length := by first | (have h := of_decide_eq_false hc1; omega) | (have h := hc1; simp at h; omega)
  refine S_exit (E_lp_exit (E_inB_exit ?_))
  refine S_seq ?_
  refine S_reg [true] rfl rfl ?_
  refine J_st (R_assign rfl) rfl (J_done ?_)
  refine S_ret (E_done1 rfl rfl E ?_)
  exact all_yes hI (by omega)

set_option maxRecDepth 20000 in
theorem c_NoWorse (vxs : Value) (xs : List Cell) (vys : Value) (ys : List Cell) (w : World) (hxs : RdS w vxs xs) (hys : RdS w vys ys) : Ct Try.prog 29 [vxs, vys] w (fun v _ => v = .bool (ys.all (nwP xs))) := by
 refine ct_of Try.func29 rfl Try.ntmps29 rfl ?_
 refine S_sub [(0, vxs), (1, vys)] ⟨rfl, rfl, trivial⟩ ?_
 have E : Ext w w := Ext.refl w
 refine S_seq ?_
 refine S_reg [true] rfl rfl ?_
 refine J_st (R_assign rfl) rfl (J_done ?_)
 refine S_seq ?_
 refine S_seq ?_
 refine S_reg [true, true, true] rfl rfl ?_
 refine J_st (R_move rfl) rfl (J_st (R_len Try.underlying27 rfl (hys.ext E).len) rfl (J_st (R_move rfl) rfl (J_done ?_)))
 refine S_block ?_
 refine S_loop (fun (k : Nat) => [(0, vxs), (4, .bool false), (9, vys), (10, .int .i64 ((ys.length : Nat) : Int)), (11, .int .i64 ((k : Nat) : Int))]) (fun (k : Nat) w' => Ext w w' ∧ w.heap.size ≤ w'.heap.size ∧ k ≤ ys.length ∧ (ys.take k).all (nwP xs) = true) (fun (k : Nat) => ys.length - k) 0 ⟨rfl, rfl, rfl, rfl, rfl, trivial⟩ ⟨E, Nat.le_refl _, Nat.zero_le _, rfl⟩ ?_
 clear E
 rintro k w1 ⟨E, z1, hk, hI⟩
 refine S_seq ?_
 refine S_reg [true] rfl rfl ?_
 refine J_st (R_lss rfl rfl) rfl (J_done ?_)
 refine S_seq ?_
 refine S_cond rfl (fun hc1 => ?_) (fun hc1 => ?_)
 ·have hc1n : k < ys.length := by first | (have h := of_decide_eq_true hc1; omega) | (have h := hc1; simp at h; omega)
  refine S_skip ?_
  refine S_seq ?_
  refine S_block ?_
  refine S_seq ?_
  refine S_reg [true, true, false, false] rfl rfl ?_
  have hi1 : k < ys.length := (by first | assumption | omega | (simp only [List.length_set]; first | assumption | omega) | (simp only [List.getElem_set_self, List.length_set]; first | assumption | omega) | (simp only [setW, setLk, List.length_set]; first | assumption | omega) | (simp; done))
  refine J_st (R_index (i := k) sl27 rfl rfl (hys.ext E) hi1) rfl (J_st (R_loadS st56 rfl ((hys.ext E).get hi1) rfl) rfl ?_)
  refine J_alloc st56 rfl (fun b1 w2 e1 s1 h1 => ?_)
  have g_b1 : w.heap.size ≤ b1 := by have := E.size; omega
  have y_b1 := h1.lt
  replace E := E.trans e1
  have z2 := e1.size
  refine J_storeS' (cs' := [.int .i64 ((ys[k]'hi1).op), .int .i64 ((ys[k]'hi1).epoch), .int .i64 ((ys[k]'hi1).key), .int .i64 ((ys[k]'hi1).val)]) st56 rfl rfl rfl rfl h1 (Nat.le_of_ble_eq_true rfl) rfl (fun w3 m1 h1' => ?_)
  replace h1 := h1'
  replace E := E.step m1 (fun g hg => by cases hg; omega)
  have z3 := m1.size
  refine J_done ?_
  refine S_seq ?_
  refine S_reg [true, true, true, true, true, true, true, false, true, true, true, true, true] rfl rfl ?_
  refine J_st (R_move rfl) rfl (J_st (R_fieldAddr0 fl56_0 rfl) rfl (J_st (R_load sc3 rfl (h1.one 0 rfl)) rfl (J_st (R_fieldAddr0 fl56_1 rfl) rfl (J_st (R_load sc3 rfl (h1.one 1 rfl)) rfl (J_st (R_fieldAddr0 fl56_2 rfl) rfl (J_st (R_load sc3 rfl (h1.one 2 rfl)) rfl ?_))))))
  refine J_call Try.call67 rfl (c_LeastOf vxs xs ((ys[k]'hi1).op) ((ys[k]'hi1).epoch) ((ys[k]'hi1).key) _ (hxs.ext E)) rfl (fun _ w4 e2 hv => ?_)
  subst hv
  replace E := E.trans e2; replace h1 := h1.ext e2
  have z4 := e2.size
  refine J_st (R_move rfl) rfl (J_st (R_extract rfl rfl) rfl (J_st (R_extract rfl rfl) rfl (J_st (R_assign rfl) rfl (J_st (R_assign rfl) rfl (J_done ?_)))))
  refine S_seq ?_
  refine S_reg [true, true, true, true, true, true, true, true] rfl rfl ?_
  refine J_st (R_move rfl) rfl (J_st (R_not rfl) rfl (J_st (R_move rfl) rfl ?_))
  refine J_cut 5 [(0, vxs), (4, .bool false), (6, .pointer (some ⟨b1, 0, none⟩)), (7, .int .i64 ((leastM xs ((ys[k]'hi1).op) ((ys[k]'hi1).epoch) ((ys[k]'hi1).key)).1)), (8, .bool ((leastM xs ((ys[k]'hi1).op) ((ys[k]'hi1).epoch) ((ys[k]'hi1).key)).2)), (9, vys), (10, .int .i64 ((ys.length : Nat) : Int)), (11, .int .i64 ((k : Nat) : Int)), (12, .bool (decide (((k : Nat) : Int) < ((ys.length : Nat) : Int)))), (13, .pointer (some ⟨sblk vys, soff vys + k * 4, none⟩)), (14, .agg (Enc.enc (ys[k]'hi1)).toArray), (15, .tuple [.int .i64 ((leastM xs ((ys[k]'hi1).op) ((ys[k]'hi1).epoch) ((ys[k]'hi1).key)).1), .bool ((leastM xs ((ys[k]'hi1).op) ((ys[k]'hi1).epoch) ((ys[k]'hi1).key)).2)].toArray), (16, vxs), (17, .pointer (some ⟨b1, 0, none⟩)), (18, .int .i64 ((ys[k]'hi1).op)), (19, .pointer (some ⟨b1, 1, none⟩)), (20, .int .i64 ((ys[k]'hi1).epoch)), (21, .pointer (some ⟨b1, 2, none⟩)), (22, .int .i64 ((ys[k]'hi1).key)), (23, .tuple [.int .i64 ((leastM xs ((ys[k]'hi1).op) ((ys[k]'hi1).epoch) ((ys[k]'hi1).key)).1), .bool ((leastM xs ((ys[k]'hi1).op) ((ys[k]'hi1).epoch) ((ys[k]'hi1).key)).2)].toArray), (24, .int .i64 ((leastM xs ((ys[k]'hi1).op) ((ys[k]'hi1).epoch) ((ys[k]'hi1).key)).1)), (25, .bool ((leastM xs ((ys[k]'hi1).op) ((ys[k]'hi1).epoch) ((ys[k]'hi1).key)).2)), (33, .bool ((!((leastM xs ((ys[k]'hi1).op) ((ys[k]'hi1).epoch) ((ys[k]'hi1).key)).2)) || (decide (((ys[k]'hi1).val) < ((leastM xs ((ys[k]'hi1).op) ((ys[k]'hi1).epoch) ((ys[k]'hi1).key)).1)))))] (fun w' => w4 = w') ?_ ?_
  ·refine J_if (gd := 28) rfl rfl (fun hg1 => ?_) (fun hg1 => ?_)
   ·refine J_gdno rfl rfl rfl rfl (J_gdno rfl rfl rfl rfl (J_gdno rfl rfl rfl rfl (J_gdno rfl rfl rfl rfl (J_st (R_pickT rfl rfl) rfl (J_cutEnd ⟨rfl, rfl, rfl, rfl, rfl, rfl, rfl, rfl, rfl, rfl, rfl, rfl, rfl, rfl, rfl, rfl, rfl, rfl, rfl, rfl, rfl, rfl, congrArg (fun b => some (Value.bool b)) (show true = ((!((leastM xs ((ys[k]'hi1).op) ((ys[k]'hi1).epoch) ((ys[k]'hi1).key)).2)) || (decide (((ys[k]'hi1).val) < ((leastM xs ((ys[k]'hi1).op) ((ys[k]'hi1).epoch) ((ys[k]'hi1).key)).1)))) by first | (rw [hg1] <;> rfl) | (simp [hg1]; done) | (simp only [nat_nlt] <;> simp)), trivial⟩ rfl)))))
   ·refine J_gd rfl rfl (R_move rfl) rfl (J_gd rfl rfl (R_fieldAddr0 fl56_3 rfl) rfl (J_gd rfl rfl (R_load sc3 rfl (h1.one 3 rfl)) rfl (J_gd rfl rfl (R_gtr rfl rfl) rfl (J_st (R_pickF rfl rfl) rfl (J_cutEnd ⟨rfl, rfl, rfl, rfl, rfl, rfl, rfl, rfl, rfl, rfl, rfl, rfl, rfl, rfl, rfl, rfl, rfl, rfl, rfl, rfl, rfl, rfl, congrArg (fun b => some (Value.bool b)) (show (decide (((ys[k]'hi1).val) < ((leastM xs ((ys[k]'hi1).op) ((ys[k]'hi1).epoch) ((ys[k]'hi1).key)).1))) = ((!((leastM xs ((ys[k]'hi1).op) ((ys[k]'hi1).epoch) ((ys[k]'hi1).key)).2)) || (decide (((ys[k]'hi1).val) < ((leastM xs ((ys[k]'hi1).op) ((ys[k]'hi1).epoch) ((ys[k]'hi1).key)).1)))) by first | (rw [hg1] <;> rfl) | (simp [hg1]; done) | (simp only [nat_nlt] <;> simp)), trivial⟩ rfl)))))
  rintro _ rfl
  refine J_done ?_
  refine S_cond rfl (fun hc2 => ?_) (fun hc2 => ?_)
  ·refine S_seq ?_
   refine S_reg [true] rfl rfl ?_
   refine J_st (R_assign rfl) rfl (J_done ?_)
   refine S_ret (E_inB_ret (E_lp_ret (E_inB_ret (E_done1 rfl rfl E ?_))))
   exact all_no hc1n (by show (!_) = _; rw [hc2]; rfl)
  ·refine S_skip ?_
   refine S_nil (E_inB ?_)
   refine S_reg [true, true] rfl rfl ?_
   refine J_st (R_add rfl rfl (add_one hc1n hys.1)) rfl (J_st (R_move rfl) rfl (J_done ?_))
   refine S_nil (E_again (k + 1) (by omega) ⟨rfl, rfl, rfl, rfl, rfl, trivial⟩ ⟨E, (by omega), (by omega), all_step hI (by assumption) (by show (!_) = _; rw [hc2]; rfl)⟩)
 ·have hc1n : ¬ k < ys.length := by first | (have h := of_decide_eq_false hc1; omega) | (have h := hc1; simp at h; omega)
  refine S_exit (E_lp_exit (E_inB_exit ?_))
  refine S_seq ?_
  refine S_reg [true] rfl rfl ?_
  refine J_st (R_assign rfl) rfl (J_done ?_)
  refine S_ret (E_done1 rfl rfl E ?_)
  exact all_yes hI (by omega)

set_option maxRecDepth 20000 in
theorem s_l01In (x : Int) (lo : Int) (hi : Int) (w : World)  : Ct Try.prog 53 [.int .i64 x, .int .i64 lo, .int .i64 hi] w (fun v _ => v = .bool (win x lo hi)) := by
 refine ct_of Try.func53 rfl Try.ntmps53 rfl ?_
 refine S_sub [(0, .int .i64 x), (1, .int .i64 lo), (2, .int .i64 hi)] ⟨rfl, rfl, rfl, trivial⟩ ?_
 have E : Ext w w := Ext.refl w
 refine S_seq ?_
 refine S_reg [true] rfl rfl ?_
 refine J_st (R_assign rfl) rfl (J_done ?_)
 refine S_seq ?_
 refine S_reg [true, true, true, true, true, true, true, true, true] rfl rfl ?_
 refine J_st (R_move rfl) rfl (J_st (R_move rfl) rfl (J_st (R_geq rfl rfl) rfl (J_st (R_move rfl) rfl ?_)))
 refine J_cut 4 [(0, .int .i64 x), (1, .int .i64 lo), (2, .int .i64 hi), (6, .bool false), (14, .bool ((decide (lo ≤ x)) && (decide (x ≤ hi))))] (fun w' => w = w') ?_ ?_
 ·refine J_if (gd := 10) rfl rfl (fun hg1 => ?_) (fun hg1 => ?_)
  ·refine J_gd rfl rfl (R_move rfl) rfl (J_gd rfl rfl (R_move rfl) rfl (J_gd rfl rfl (R_leq rfl rfl) rfl (J_st (R_pickT rfl rfl) rfl (J_cutEnd ⟨rfl, rfl, rfl, rfl, congrArg (fun b => some (Value.bool b)) (show (decide (x ≤ hi)) = ((decide (lo ≤ x)) && (decide (x ≤ hi))) by first | (rw [hg1] <;> rfl) | (simp [hg1]; done) | (simp only [nat_nlt] <;> simp)), trivial⟩ rfl))))
  ·refine J_gdno rfl rfl rfl rfl (J_gdno rfl rfl rfl rfl (J_gdno rfl rfl rfl rfl (J_st (R_pickF rfl rfl) rfl (J_cutEnd ⟨rfl, rfl, rfl, rfl, congrArg (fun b => some (Value.bool b)) (show false = ((decide (lo ≤ x)) && (decide (x ≤ hi))) by first | (rw [hg1] <;> rfl) | (simp [hg1]; done) | (simp only [nat_nlt] <;> simp)), trivial⟩ rfl))))
 rintro _ rfl
 refine J_st (R_assign rfl) rfl (J_done ?_)
 refine S_ret (E_done1 rfl rfl E ?_)
 rfl

set_option maxRecDepth 20000 in
theorem c_within (x : Int) (lo : Int) (hi : Int) (w : World)  : Ct Try.prog 64 [.int .i64 x, .int .i64 lo, .int .i64 hi] w (fun v _ => v = .bool (win x lo hi)) := by
 refine ct_of Try.func64 rfl Try.ntmps64 rfl ?_
 refine S_sub [(0, .int .i64 x), (1, .int .i64 lo), (2, .int .i64 hi)] ⟨rfl, rfl, rfl, trivial⟩ ?_
 have E : Ext w w := Ext.refl w
 refine S_seq ?_
 refine S_reg [true] rfl rfl ?_
 refine J_st (R_assign rfl) rfl (J_done ?_)
 refine S_seq ?_
 refine S_reg [true, true, true, true, true, true, true, true, true] rfl rfl ?_
 refine J_st (R_move rfl) rfl (J_st (R_move rfl) rfl (J_st (R_geq rfl rfl) rfl (J_st (R_move rfl) rfl ?_)))
 refine J_cut 4 [(0, .int .i64 x), (1, .int .i64 lo), (2, .int .i64 hi), (6, .bool false), (14, .bool ((decide (lo ≤ x)) && (decide (x ≤ hi))))] (fun w' => w = w') ?_ ?_
 ·refine J_if (gd := 10) rfl rfl (fun hg1 => ?_) (fun hg1 => ?_)
  ·refine J_gd rfl rfl (R_move rfl) rfl (J_gd rfl rfl (R_move rfl) rfl (J_gd rfl rfl (R_leq rfl rfl) rfl (J_st (R_pickT rfl rfl) rfl (J_cutEnd ⟨rfl, rfl, rfl, rfl, congrArg (fun b => some (Value.bool b)) (show (decide (x ≤ hi)) = ((decide (lo ≤ x)) && (decide (x ≤ hi))) by first | (rw [hg1] <;> rfl) | (simp [hg1]; done) | (simp only [nat_nlt] <;> simp)), trivial⟩ rfl))))
  ·refine J_gdno rfl rfl rfl rfl (J_gdno rfl rfl rfl rfl (J_gdno rfl rfl rfl rfl (J_st (R_pickF rfl rfl) rfl (J_cutEnd ⟨rfl, rfl, rfl, rfl, congrArg (fun b => some (Value.bool b)) (show false = ((decide (lo ≤ x)) && (decide (x ≤ hi))) by first | (rw [hg1] <;> rfl) | (simp [hg1]; done) | (simp only [nat_nlt] <;> simp)), trivial⟩ rfl))))
 rintro _ rfl
 refine J_st (R_assign rfl) rfl (J_done ?_)
 refine S_ret (E_done1 rfl rfl E ?_)
 rfl

set_option maxHeartbeats 4000000 in
set_option maxRecDepth 20000 in
theorem c_NodeOk (cx : List Value) (x : Node) (w : World) (hx : Dat.R w 0 w.heap.size cx x) : Ct Try.prog 73 [.agg cx.toArray] w (fun v _ => v = .bool (nodeOk x)) := by
 refine ct_of Try.func73 rfl Try.ntmps73 rfl ?_
 obtain ⟨o1, rfl, hd1⟩ := Node.op hx
 refine S_sub [(0, .agg [.int .i64 x.kind, .int .i64 x.a, .int .i64 x.b, o1].toArray)] ⟨rfl, trivial⟩ ?_
 have E : Ext w w := Ext.refl w
 refine S_seq ?_
 refine S_reg [false, true] rfl rfl ?_
 refine J_box rfl rfl (fun b1 w1 e1 s1 h1 => ?_)
 have g_b1 : w.heap.size ≤ b1 := by have := E.size; omega
 have y_b1 := h1.lt
 replace E := E.trans e1
 have z1 := e1.size
 refine J_st (R_assign rfl) rfl (J_done ?_)
 refine S_seq ?_
 refine S_seq ?_
 refine S_reg [true, true] rfl rfl ?_
 refine J_st (R_fieldAddr0 fl42_0 rfl) rfl (J_st (R_load sc3 rfl (h1.one 0 rfl)) rfl (J_done ?_))
 refine S_cutG (fun (_ : Unit) => [(1, .pointer (some ⟨b1, 0, none⟩)), (2, .bool false)]) (fun (_ : Unit) w' => Ext w w' ∧ w1.heap.size ≤ w'.heap.size ∧ Blk w' b1 ([.int .i64 x.kind, .int .i64 x.a, .int .i64 x.b, o1]) ∧ kindOk x = true) ?_ ?_
 ·refine S_block ?_
  refine S_seq ?_
  refine S_reg [true, true] rfl rfl ?_
  refine J_st (R_eql rfl rfl) rfl (J_st (R_assign rfl) rfl (J_done ?_))
  refine S_cond rfl (fun hc1 => ?_) (fun hc1 => ?_)
  ·refine S_seq ?_
   refine S_reg [true, true, false, true, true, true, true, true, true] rfl rfl ?_
   refine J_st (R_fieldAddr0 fl42_1 rfl) rfl (J_st (R_load sc3 rfl (h1.one 1 rfl)) rfl ?_)
   refine J_call Try.call64 rfl (c_within x.a 0 999 _ ) rfl (fun _ w2 e2 hv => ?_)
   subst hv
   replace E := E.trans e2; replace h1 := h1.ext e2
   have z3 := e2.size
   refine J_st (R_not rfl) rfl (J_st (R_move rfl) rfl ?_)
   refine J_cut 4 [(0, .agg [.int .i64 x.kind, .int .i64 x.a, .int .i64 x.b, o1].toArray), (1, .pointer (some ⟨b1, 0, none⟩)), (2, .bool false), (5, .pointer (some ⟨b1, 0, none⟩)), (6, .int .i64 x.kind), (7, .bool (x.kind == 2)), (8, .bool (x.kind == 2)), (17, .bool ((!(win x.a 0 999)) || (x.b != 0)))] (fun w' => w2 = w') ?_ ?_
   ·refine J_if (gd := 13) rfl rfl (fun hg1 => ?_) (fun hg1 => ?_)
    ·refine J_gdno rfl rfl rfl rfl (J_gdno rfl rfl rfl rfl (J_gdno rfl rfl rfl rfl (J_st (R_pickT rfl rfl) rfl (J_cutEnd ⟨rfl, rfl, rfl, rfl, rfl, rfl, rfl, congrArg (fun b => some (Value.bool b)) (show true = ((!(win x.a 0 999)) || (x.b != 0)) by first | (rw [hg1] <;> rfl) | (simp [hg1]; done) | (simp only [nat_nlt] <;> simp)), trivial⟩ rfl))))
    ·refine J_gd rfl rfl (R_fieldAddr0 fl42_2 rfl) rfl (J_gd rfl rfl (R_load sc3 rfl (h1.one 2 rfl)) rfl (J_gd rfl rfl (R_neq rfl rfl) rfl (J_st (R_pickF rfl rfl) rfl (J_cutEnd ⟨rfl, rfl, rfl, rfl, rfl, rfl, rfl, congrArg (fun b => some (Value.bool b)) (show (x.b != 0) = ((!(win x.a 0 999)) || (x.b != 0)) by first | (rw [hg1] <;> rfl) | (simp [hg1]; done) | (simp only [nat_nlt] <;> simp)), trivial⟩ rfl))))
   rintro _ rfl
   refine J_done ?_
   refine S_cond rfl (fun hc2 => ?_) (fun hc2 => ?_)
   ·refine S_seq ?_
    refine S_reg [true] rfl rfl ?_
    refine J_st (R_assign rfl) rfl (J_done ?_)
    refine S_ret (E_inB_ret (E_cut_ret (E_done1 rfl rfl E ?_)))
    exact node_k (by rw [node_2 (by assumption)]; exact kx (by assumption))
   ·refine S_skip ?_
    refine S_nil (E_inB ?_)
    refine S_nil (E_cutG () ⟨rfl, rfl, trivial⟩ ⟨E, (by omega), h1, (by rw [node_2 (by assumption)]; exact ky (by assumption))⟩)
  ·refine S_seq ?_
   refine S_reg [true, true] rfl rfl ?_
   refine J_st (R_eql rfl rfl) rfl (J_st (R_assign rfl) rfl (J_done ?_))
   refine S_cond rfl (fun hc3 => ?_) (fun hc3 => ?_)
   ·refine S_seq ?_
    refine S_reg [true, true, false, true, true, true, true, true, true, true, false, true, true] rfl rfl ?_
    refine J_st (R_fieldAddr0 fl42_1 rfl) rfl (J_st (R_load sc3 rfl (h1.one 1 rfl)) rfl ?_)
    refine J_call Try.call64 rfl (c_within x.a 1 10 _ ) rfl (fun _ w4 e3 hv => ?_)
    subst hv
    replace E := E.trans e3; replace h1 := h1.ext e3
    have z4 := e3.size
    refine J_st (R_not rfl) rfl (J_st (R_move rfl) rfl ?_)
    refine J_cut 8 [(0, .agg [.int .i64 x.kind, .int .i64 x.a, .int .i64 x.b, o1].toArray), (1, .pointer (some ⟨b1, 0, none⟩)), (2, .bool false), (5, .pointer (some ⟨b1, 0, none⟩)), (6, .int .i64 x.kind), (7, .bool (x.kind == 2)), (8, .bool (x.kind == 2)), (18, .bool (x.kind == 3)), (19, .bool (x.kind == 3)), (32, .bool ((!(win x.a 1 10)) || (!(win x.b 0 (IntKind.i64.wrap (x.a - 1))))))] (fun w' => Ext w w' ∧ w4.heap.size ≤ w'.heap.size ∧ Blk w' b1 ([.int .i64 x.kind, .int .i64 x.a, .int .i64 x.b, o1])) ?_ ?_
    ·refine J_if (gd := 24) rfl rfl (fun hg2 => ?_) (fun hg2 => ?_)
     ·refine J_gdno rfl rfl rfl rfl (J_gdno rfl rfl rfl rfl (J_gdno rfl rfl rfl rfl (J_gdno rfl rfl rfl rfl (J_gdno rfl rfl rfl rfl ?_))))
      refine J_ungno rfl rfl rfl rfl ?_
      refine J_gdno rfl rfl rfl rfl (J_st (R_pickT rfl rfl) rfl (J_cutEnd ⟨rfl, rfl, rfl, rfl, rfl, rfl, rfl, rfl, rfl, congrArg (fun b => some (Value.bool b)) (show true = ((!(win x.a 1 10)) || (!(win x.b 0 (IntKind.i64.wrap (x.a - 1))))) by first | (rw [hg2] <;> rfl) | (simp [hg2]; done) | (simp only [nat_nlt] <;> simp)), trivial⟩ ⟨E, (by omega), h1⟩))
     ·refine J_gd rfl rfl (R_fieldAddr0 fl42_2 rfl) rfl (J_gd rfl rfl (R_load sc3 rfl (h1.one 2 rfl)) rfl (J_gd rfl rfl (R_fieldAddr0 fl42_1 rfl) rfl (J_gd rfl rfl (R_load sc3 rfl (h1.one 1 rfl)) rfl (J_gd rfl rfl (R_sub rfl rfl rfl) rfl ?_))))
      refine J_ung rfl rfl ?_
      refine J_call Try.call64 rfl (c_within x.b 0 (IntKind.i64.wrap (x.a - 1)) _ ) rfl (fun _ w6 e4 hv => ?_)
      subst hv
      replace E := E.trans e4; replace h1 := h1.ext e4
      have z5 := e4.size
      refine J_gd rfl rfl (R_not rfl) rfl (J_st (R_pickF rfl rfl) rfl (J_cutEnd ⟨rfl, rfl, rfl, rfl, rfl, rfl, rfl, rfl, rfl, congrArg (fun b => some (Value.bool b)) (show (!(win x.b 0 (IntKind.i64.wrap (x.a - 1)))) = ((!(win x.a 1 10)) || (!(win x.b 0 (IntKind.i64.wrap (x.a - 1))))) by first | (rw [hg2] <;> rfl) | (simp [hg2]; done) | (simp only [nat_nlt] <;> simp)), trivial⟩ ⟨E, (by omega), h1⟩))
    clear E h1
    rintro w5 ⟨E, z6, h1⟩
    refine J_done ?_
    refine S_cond rfl (fun hc4 => ?_) (fun hc4 => ?_)
    ·refine S_seq ?_
     refine S_reg [true] rfl rfl ?_
     refine J_st (R_assign rfl) rfl (J_done ?_)
     refine S_ret (E_inB_ret (E_cut_ret (E_done1 rfl rfl E ?_)))
     exact node_k (by rw [node_3 (by assumption)]; exact kx (by assumption))
    ·refine S_skip ?_
     refine S_nil (E_inB ?_)
     refine S_nil (E_cutG () ⟨rfl, rfl, trivial⟩ ⟨E, (by omega), h1, (by rw [node_3 (by assumption)]; exact ky (by assumption))⟩)
   ·refine S_seq ?_
    refine S_reg [true, true] rfl rfl ?_
    refine J_st (R_eql rfl rfl) rfl (J_st (R_assign rfl) rfl (J_done ?_))
    refine S_cond rfl (fun hc5 => ?_) (fun hc5 => ?_)
    ·refine S_seq ?_
     refine S_reg [true, true, false, true, true, true, true, true, true] rfl rfl ?_
     refine J_st (R_fieldAddr0 fl42_1 rfl) rfl (J_st (R_load sc3 rfl (h1.one 1 rfl)) rfl ?_)
     refine J_call Try.call64 rfl (c_within x.a 0 99 _ ) rfl (fun _ w7 e5 hv => ?_)
     subst hv
     replace E := E.trans e5; replace h1 := h1.ext e5
     have z7 := e5.size
     refine J_st (R_not rfl) rfl (J_st (R_move rfl) rfl ?_)
     refine J_cut 4 [(0, .agg [.int .i64 x.kind, .int .i64 x.a, .int .i64 x.b, o1].toArray), (1, .pointer (some ⟨b1, 0, none⟩)), (2, .bool false), (5, .pointer (some ⟨b1, 0, none⟩)), (6, .int .i64 x.kind), (7, .bool (x.kind == 2)), (8, .bool (x.kind == 2)), (18, .bool (x.kind == 3)), (19, .bool (x.kind == 3)), (33, .bool (x.kind == 4)), (34, .bool (x.kind == 4)), (43, .bool ((!(win x.a 0 99)) || (x.b != 0)))] (fun w' => w7 = w') ?_ ?_
     ·refine J_if (gd := 39) rfl rfl (fun hg3 => ?_) (fun hg3 => ?_)
      ·refine J_gdno rfl rfl rfl rfl (J_gdno rfl rfl rfl rfl (J_gdno rfl rfl rfl rfl (J_st (R_pickT rfl rfl) rfl (J_cutEnd ⟨rfl, rfl, rfl, rfl, rfl, rfl, rfl, rfl, rfl, rfl, rfl, congrArg (fun b => some (Value.bool b)) (show true = ((!(win x.a 0 99)) || (x.b != 0)) by first | (rw [hg3] <;> rfl) | (simp [hg3]; done) | (simp only [nat_nlt] <;> simp)), trivial⟩ rfl))))
      ·refine J_gd rfl rfl (R_fieldAddr0 fl42_2 rfl) rfl (J_gd rfl rfl (R_load sc3 rfl (h1.one 2 rfl)) rfl (J_gd rfl rfl (R_neq rfl rfl) rfl (J_st (R_pickF rfl rfl) rfl (J_cutEnd ⟨rfl, rfl, rfl, rfl, rfl, rfl, rfl, rfl, rfl, rfl, rfl, congrArg (fun b => some (Value.bool b)) (show (x.b != 0) = ((!(win x.a 0 99)) || (x.b != 0)) by first | (rw [hg3] <;> rfl) | (simp [hg3]; done) | (simp only [nat_nlt] <;> simp)), trivial⟩ rfl))))
     rintro _ rfl
     refine J_done ?_
     refine S_cond rfl (fun hc6 => ?_) (fun hc6 => ?_)
     ·refine S_seq ?_
      refine S_reg [true] rfl rfl ?_
      refine J_st (R_assign rfl) rfl (J_done ?_)
      refine S_ret (E_inB_ret (E_cut_ret (E_done1 rfl rfl E ?_)))
      exact node_k (by rw [node_4 (by assumption)]; exact kx (by assumption))
     ·refine S_skip ?_
      refine S_nil (E_inB ?_)
      refine S_nil (E_cutG () ⟨rfl, rfl, trivial⟩ ⟨E, (by omega), h1, (by rw [node_4 (by assumption)]; exact ky (by assumption))⟩)
    ·refine S_seq ?_
     refine S_seq ?_
     refine S_reg [true, true] rfl rfl ?_
     refine J_st (R_eql rfl rfl) rfl (J_st (R_assign rfl) rfl (J_done ?_))
     refine S_cond rfl (fun hc7 => ?_) (fun hc7 => ?_)
     ·refine S_skip ?_
      refine S_condTe rfl hc7 ?_
      refine S_seq ?_
      refine S_reg [true, true, true, true, true, true, true, true] rfl rfl ?_
      refine J_st (R_fieldAddr0 fl42_1 rfl) rfl (J_st (R_load sc3 rfl (h1.one 1 rfl)) rfl (J_st (R_neq rfl rfl) rfl (J_st (R_move rfl) rfl ?_)))
      refine J_cut 4 [(0, .agg [.int .i64 x.kind, .int .i64 x.a, .int .i64 x.b, o1].toArray), (1, .pointer (some ⟨b1, 0, none⟩)), (2, .bool false), (5, .pointer (some ⟨b1, 0, none⟩)), (6, .int .i64 x.kind), (7, .bool (x.kind == 2)), (8, .bool (x.kind == 2)), (18, .bool (x.kind == 3)), (19, .bool (x.kind == 3)), (33, .bool (x.kind == 4)), (34, .bool (x.kind == 4)), (44, .bool (x.kind == 1)), (45, .bool (x.kind == 1)), (57, .bool ((x.a != 0) || (x.b != 0)))] (fun w' => w1 = w') ?_ ?_
      ·refine J_if (gd := 53) rfl rfl (fun hg4 => ?_) (fun hg4 => ?_)
       ·refine J_gdno rfl rfl rfl rfl (J_gdno rfl rfl rfl rfl (J_gdno rfl rfl rfl rfl (J_st (R_pickT rfl rfl) rfl (J_cutEnd ⟨rfl, rfl, rfl, rfl, rfl, rfl, rfl, rfl, rfl, rfl, rfl, rfl, rfl, congrArg (fun b => some (Value.bool b)) (show true = ((x.a != 0) || (x.b != 0)) by first | (rw [hg4] <;> rfl) | (simp [hg4]; done) | (simp only [nat_nlt] <;> simp)), trivial⟩ rfl))))
       ·refine J_gd rfl rfl (R_fieldAddr0 fl42_2 rfl) rfl (J_gd rfl rfl (R_load sc3 rfl (h1.one 2 rfl)) rfl (J_gd rfl rfl (R_neq rfl rfl) rfl (J_st (R_pickF rfl rfl) rfl (J_cutEnd ⟨rfl, rfl, rfl, rfl, rfl, rfl, rfl, rfl, rfl, rfl, rfl, rfl, rfl, congrArg (fun b => some (Value.bool b)) (show (x.b != 0) = ((x.a != 0) || (x.b != 0)) by first | (rw [hg4] <;> rfl) | (simp [hg4]; done) | (simp only [nat_nlt] <;> simp)), trivial⟩ rfl))))
      rintro _ rfl
      refine J_done ?_
      refine S_cond rfl (fun hc8 => ?_) (fun hc8 => ?_)
      ·refine S_seq ?_
       refine S_reg [true] rfl rfl ?_
       refine J_st (R_assign rfl) rfl (J_done ?_)
       refine S_ret (E_inB_ret (E_cut_ret (E_done1 rfl rfl E ?_)))
       exact node_k (by rw [node_0 (by assumption) (by assumption) (by assumption)]; exact kx0 (by assumption))
      ·refine S_skip ?_
       refine S_nil (E_inB ?_)
       refine S_nil (E_cutG () ⟨rfl, rfl, trivial⟩ ⟨E, (by omega), h1, (by rw [node_0 (by assumption) (by assumption) (by assumption)]; exact ky0 (by assumption) (win_kind (by simp at *; omega)))⟩)
     ·refine S_seq ?_
      refine S_reg [true, true] rfl rfl ?_
      refine J_st (R_eql rfl rfl) rfl (J_st (R_assign rfl) rfl (J_done ?_))
      refine S_cond rfl (fun hc9 => ?_) (fun hc9 => ?_)
      ·refine S_skip ?_
       refine S_condTe rfl hc9 ?_
       refine S_seq ?_
       refine S_reg [true, true, true, true, true, true, true, true] rfl rfl ?_
       refine J_st (R_fieldAddr0 fl42_1 rfl) rfl (J_st (R_load sc3 rfl (h1.one 1 rfl)) rfl (J_st (R_neq rfl rfl) rfl (J_st (R_move rfl) rfl ?_)))
       refine J_cut 4 [(0, .agg [.int .i64 x.kind, .int .i64 x.a, .int .i64 x.b, o1].toArray), (1, .pointer (some ⟨b1, 0, none⟩)), (2, .bool false), (5, .pointer (some ⟨b1, 0, none⟩)), (6, .int .i64 x.kind), (7, .bool (x.kind == 2)), (8, .bool (x.kind == 2)), (18, .bool (x.kind == 3)), (19, .bool (x.kind == 3)), (33, .bool (x.kind == 4)), (34, .bool (x.kind == 4)), (44, .bool (x.kind == 5)), (45, .bool (x.kind == 1)), (46, .bool (x.kind == 5)), (57, .bool ((x.a != 0) || (x.b != 0)))] (fun w' => w1 = w') ?_ ?_
       ·refine J_if (gd := 53) rfl rfl (fun hg5 => ?_) (fun hg5 => ?_)
        ·refine J_gdno rfl rfl rfl rfl (J_gdno rfl rfl rfl rfl (J_gdno rfl rfl rfl rfl (J_st (R_pickT rfl rfl) rfl (J_cutEnd ⟨rfl, rfl, rfl, rfl, rfl, rfl, rfl, rfl, rfl, rfl, rfl, rfl, rfl, rfl, congrArg (fun b => some (Value.bool b)) (show true = ((x.a != 0) || (x.b != 0)) by first | (rw [hg5] <;> rfl) | (simp [hg5]; done) | (simp only [nat_nlt] <;> simp)), trivial⟩ rfl))))
        ·refine J_gd rfl rfl (R_fieldAddr0 fl42_2 rfl) rfl (J_gd rfl rfl (R_load sc3 rfl (h1.one 2 rfl)) rfl (J_gd rfl rfl (R_neq rfl rfl) rfl (J_st (R_pickF rfl rfl) rfl (J_cutEnd ⟨rfl, rfl, rfl, rfl, rfl, rfl, rfl, rfl, rfl, rfl, rfl, rfl, rfl, rfl, congrArg (fun b => some (Value.bool b)) (show (x.b != 0) = ((x.a != 0) || (x.b != 0)) by first | (rw [hg5] <;> rfl) | (simp [hg5]; done) | (simp only [nat_nlt] <;> simp)), trivial⟩ rfl))))
       rintro _ rfl
       refine J_done ?_
       refine S_cond rfl (fun hc10 => ?_) (fun hc10 => ?_)
       ·refine S_seq ?_
        refine S_reg [true] rfl rfl ?_
        refine J_st (R_assign rfl) rfl (J_done ?_)
        refine S_ret (E_inB_ret (E_cut_ret (E_done1 rfl rfl E ?_)))
        exact node_k (by rw [node_0 (by assumption) (by assumption) (by assumption)]; exact kx0 (by assumption))
       ·refine S_skip ?_
        refine S_nil (E_inB ?_)
        refine S_nil (E_cutG () ⟨rfl, rfl, trivial⟩ ⟨E, (by omega), h1, (by rw [node_0 (by assumption) (by assumption) (by assumption)]; exact ky0 (by assumption) (win_kind (by simp at *; omega)))⟩)
      ·refine S_seq ?_
       refine S_reg [true, true] rfl rfl ?_
       refine J_st (R_eql rfl rfl) rfl (J_st (R_assign rfl) rfl (J_done ?_))
       refine S_cond rfl (fun hc11 => ?_) (fun hc11 => ?_)
       ·refine S_skip ?_
        refine S_condTe rfl hc11 ?_
        refine S_seq ?_
        refine S_reg [true, true, true, true, true, true, true, true] rfl rfl ?_
        refine J_st (R_fieldAddr0 fl42_1 rfl) rfl (J_st (R_load sc3 rfl (h1.one 1 rfl)) rfl (J_st (R_neq rfl rfl) rfl (J_st (R_move rfl) rfl ?_)))
        refine J_cut 4 [(0, .agg [.int .i64 x.kind, .int .i64 x.a, .int .i64 x.b, o1].toArray), (1, .pointer (some ⟨b1, 0, none⟩)), (2, .bool false), (5, .pointer (some ⟨b1, 0, none⟩)), (6, .int .i64 x.kind), (7, .bool (x.kind == 2)), (8, .bool (x.kind == 2)), (18, .bool (x.kind == 3)), (19, .bool (x.kind == 3)), (33, .bool (x.kind == 4)), (34, .bool (x.kind == 4)), (44, .bool (x.kind == 6)), (45, .bool (x.kind == 1)), (46, .bool (x.kind == 5)), (47, .bool (x.kind == 6)), (57, .bool ((x.a != 0) || (x.b != 0)))] (fun w' => w1 = w') ?_ ?_
        ·refine J_if (gd := 53) rfl rfl (fun hg6 => ?_) (fun hg6 => ?_)
         ·refine J_gdno rfl rfl rfl rfl (J_gdno rfl rfl rfl rfl (J_gdno rfl rfl rfl rfl (J_st (R_pickT rfl rfl) rfl (J_cutEnd ⟨rfl, rfl, rfl, rfl, rfl, rfl, rfl, rfl, rfl, rfl, rfl, rfl, rfl, rfl, rfl, congrArg (fun b => some (Value.bool b)) (show true = ((x.a != 0) || (x.b != 0)) by first | (rw [hg6] <;> rfl) | (simp [hg6]; done) | (simp only [nat_nlt] <;> simp)), trivial⟩ rfl))))
         ·refine J_gd rfl rfl (R_fieldAddr0 fl42_2 rfl) rfl (J_gd rfl rfl (R_load sc3 rfl (h1.one 2 rfl)) rfl (J_gd rfl rfl (R_neq rfl rfl) rfl (J_st (R_pickF rfl rfl) rfl (J_cutEnd ⟨rfl, rfl, rfl, rfl, rfl, rfl, rfl, rfl, rfl, rfl, rfl, rfl, rfl, rfl, rfl, congrArg (fun b => some (Value.bool b)) (show (x.b != 0) = ((x.a != 0) || (x.b != 0)) by first | (rw [hg6] <;> rfl) | (simp [hg6]; done) | (simp only [nat_nlt] <;> simp)), trivial⟩ rfl))))
        rintro _ rfl
        refine J_done ?_
        refine S_cond rfl (fun hc12 => ?_) (fun hc12 => ?_)
        ·refine S_seq ?_
         refine S_reg [true] rfl rfl ?_
         refine J_st (R_assign rfl) rfl (J_done ?_)
         refine S_ret (E_inB_ret (E_cut_ret (E_done1 rfl rfl E ?_)))
         exact node_k (by rw [node_0 (by assumption) (by assumption) (by assumption)]; exact kx0 (by assumption))
        ·refine S_skip ?_
         refine S_nil (E_inB ?_)
         refine S_nil (E_cutG () ⟨rfl, rfl, trivial⟩ ⟨E, (by omega), h1, (by rw [node_0 (by assumption) (by assumption) (by assumption)]; exact ky0 (by assumption) (win_kind (by simp at *; omega)))⟩)
       ·refine S_seq ?_
        refine S_reg [true, true] rfl rfl ?_
        refine J_st (R_eql rfl rfl) rfl (J_st (R_assign rfl) rfl (J_done ?_))
        refine S_cond rfl (fun hc13 => ?_) (fun hc13 => ?_)
        ·refine S_skip ?_
         refine S_condTe rfl hc13 ?_
         refine S_seq ?_
         refine S_reg [true, true, true, true, true, true, true, true] rfl rfl ?_
         refine J_st (R_fieldAddr0 fl42_1 rfl) rfl (J_st (R_load sc3 rfl (h1.one 1 rfl)) rfl (J_st (R_neq rfl rfl) rfl (J_st (R_move rfl) rfl ?_)))
         refine J_cut 4 [(0, .agg [.int .i64 x.kind, .int .i64 x.a, .int .i64 x.b, o1].toArray), (1, .pointer (some ⟨b1, 0, none⟩)), (2, .bool false), (5, .pointer (some ⟨b1, 0, none⟩)), (6, .int .i64 x.kind), (7, .bool (x.kind == 2)), (8, .bool (x.kind == 2)), (18, .bool (x.kind == 3)), (19, .bool (x.kind == 3)), (33, .bool (x.kind == 4)), (34, .bool (x.kind == 4)), (44, .bool (x.kind == 7)), (45, .bool (x.kind == 1)), (46, .bool (x.kind == 5)), (47, .bool (x.kind == 6)), (48, .bool (x.kind == 7)), (57, .bool ((x.a != 0) || (x.b != 0)))] (fun w' => w1 = w') ?_ ?_
         ·refine J_if (gd := 53) rfl rfl (fun hg7 => ?_) (fun hg7 => ?_)
          ·refine J_gdno rfl rfl rfl rfl (J_gdno rfl rfl rfl rfl (J_gdno rfl rfl rfl rfl (J_st (R_pickT rfl rfl) rfl (J_cutEnd ⟨rfl, rfl, rfl, rfl, rfl, rfl, rfl, rfl, rfl, rfl, rfl, rfl, rfl, rfl, rfl, rfl, congrArg (fun b => some (Value.bool b)) (show true = ((x.a != 0) || (x.b != 0)) by first | (rw [hg7] <;> rfl) | (simp [hg7]; done) | (simp only [nat_nlt] <;> simp)), trivial⟩ rfl))))
          ·refine J_gd rfl rfl (R_fieldAddr0 fl42_2 rfl) rfl (J_gd rfl rfl (R_load sc3 rfl (h1.one 2 rfl)) rfl (J_gd rfl rfl (R_neq rfl rfl) rfl (J_st (R_pickF rfl rfl) rfl (J_cutEnd ⟨rfl, rfl, rfl, rfl, rfl, rfl, rfl, rfl, rfl, rfl, rfl, rfl, rfl, rfl, rfl, rfl, congrArg (fun b => some (Value.bool b)) (show (x.b != 0) = ((x.a != 0) || (x.b != 0)) by first | (rw [hg7] <;> rfl) | (simp [hg7]; done) | (simp only [nat_nlt] <;> simp)), trivial⟩ rfl))))
         rintro _ rfl
         refine J_done ?_
         refine S_cond rfl (fun hc14 => ?_) (fun hc14 => ?_)
         ·refine S_seq ?_
          refine S_reg [true] rfl rfl ?_
          refine J_st (R_assign rfl) rfl (J_done ?_)
          refine S_ret (E_inB_ret (E_cut_ret (E_done1 rfl rfl E ?_)))
          exact node_k (by rw [node_0 (by assumption) (by assumption) (by assumption)]; exact kx0 (by assumption))
         ·refine S_skip ?_
          refine S_nil (E_inB ?_)
          refine S_nil (E_cutG () ⟨rfl, rfl, trivial⟩ ⟨E, (by omega), h1, (by rw [node_0 (by assumption) (by assumption) (by assumption)]; exact ky0 (by assumption) (win_kind (by simp at *; omega)))⟩)
        ·refine S_reg [true, true] rfl rfl ?_
         refine J_st (R_eql rfl rfl) rfl (J_st (R_assign rfl) rfl (J_done ?_))
         refine S_cond rfl (fun hc15 => ?_) (fun hc15 => ?_)
         ·refine S_seq ?_
          refine S_reg [true, true, true, true, true, true, true, true] rfl rfl ?_
          refine J_st (R_fieldAddr0 fl42_1 rfl) rfl (J_st (R_load sc3 rfl (h1.one 1 rfl)) rfl (J_st (R_neq rfl rfl) rfl (J_st (R_move rfl) rfl ?_)))
          refine J_cut 4 [(0, .agg [.int .i64 x.kind, .int .i64 x.a, .int .i64 x.b, o1].toArray), (1, .pointer (some ⟨b1, 0, none⟩)), (2, .bool false), (5, .pointer (some ⟨b1, 0, none⟩)), (6, .int .i64 x.kind), (7, .bool (x.kind == 2)), (8, .bool (x.kind == 2)), (18, .bool (x.kind == 3)), (19, .bool (x.kind == 3)), (33, .bool (x.kind == 4)), (34, .bool (x.kind == 4)), (44, .bool (x.kind == 8)), (45, .bool (x.kind == 1)), (46, .bool (x.kind == 5)), (47, .bool (x.kind == 6)), (48, .bool (x.kind == 7)), (49, .bool (x.kind == 8)), (57, .bool ((x.a != 0) || (x.b != 0)))] (fun w' => w1 = w') ?_ ?_
          ·refine J_if (gd := 53) rfl rfl (fun hg8 => ?_) (fun hg8 => ?_)
           ·refine J_gdno rfl rfl rfl rfl (J_gdno rfl rfl rfl rfl (J_gdno rfl rfl rfl rfl (J_st (R_pickT rfl rfl) rfl (J_cutEnd ⟨rfl, rfl, rfl, rfl, rfl, rfl, rfl, rfl, rfl, rfl, rfl, rfl, rfl, rfl, rfl, rfl, rfl, congrArg (fun b => some (Value.bool b)) (show true = ((x.a != 0) || (x.b != 0)) by first | (rw [hg8] <;> rfl) | (simp [hg8]; done) | (simp only [nat_nlt] <;> simp)), trivial⟩ rfl))))
           ·refine J_gd rfl rfl (R_fieldAddr0 fl42_2 rfl) rfl (J_gd rfl rfl (R_load sc3 rfl (h1.one 2 rfl)) rfl (J_gd rfl rfl (R_neq rfl rfl) rfl (J_st (R_pickF rfl rfl) rfl (J_cutEnd ⟨rfl, rfl, rfl, rfl, rfl, rfl, rfl, rfl, rfl, rfl, rfl, rfl, rfl, rfl, rfl, rfl, rfl, congrArg (fun b => some (Value.bool b)) (show (x.b != 0) = ((x.a != 0) || (x.b != 0)) by first | (rw [hg8] <;> rfl) | (simp [hg8]; done) | (simp only [nat_nlt] <;> simp)), trivial⟩ rfl))))
          rintro _ rfl
          refine J_done ?_
          refine S_cond rfl (fun hc16 => ?_) (fun hc16 => ?_)
          ·refine S_seq ?_
           refine S_reg [true] rfl rfl ?_
           refine J_st (R_assign rfl) rfl (J_done ?_)
           refine S_ret (E_inB_ret (E_cut_ret (E_done1 rfl rfl E ?_)))
           exact node_k (by rw [node_0 (by assumption) (by assumption) (by assumption)]; exact kx0 (by assumption))
          ·refine S_skip ?_
           refine S_nil (E_inB ?_)
           refine S_nil (E_cutG () ⟨rfl, rfl, trivial⟩ ⟨E, (by omega), h1, (by rw [node_0 (by assumption) (by assumption) (by assumption)]; exact ky0 (by assumption) (win_kind (by simp at *; omega)))⟩)
         ·refine S_seq ?_
          refine S_reg [true] rfl rfl ?_
          refine J_st (R_assign rfl) rfl (J_done ?_)
          refine S_ret (E_inB_ret (E_cut_ret (E_done1 rfl rfl E ?_)))
          exact node_k (by rw [node_0 (by assumption) (by assumption) (by assumption), win_not (by simp at *; omega)]; rfl)
 ·clear E h1
  rintro _ w14 ⟨E, z2, h1, hkk⟩
  refine S_seq ?_
  refine S_seq ?_
  refine S_regD mixed [(0, true), (1, true), (2, true), (3, true), (4, true), (5, true), (6, true), (7, true), (8, true), (9, true), (10, true), (11, true), (12, true), (13, true), (14, true), (15, true), (16, true), (17, true), (18, true), (19, true), (20, true), (21, true), (22, true), (23, true), (24, true), (25, true), (26, true), (27, true), (28, true), (29, true), (30, true), (31, true)] (by decide +kernel) rfl (fun w15 e6 => ?_)
  replace E := E.trans e6; replace h1 := h1.ext e6
  have z8 := e6.size
  refine J_st (R_fieldAddr0 fl42_3 rfl) rfl (J_st (R_load sc40 rfl (h1.one 3 rfl)) rfl (J_st (R_len Try.underlying40 rfl (hd1.ext E).len) rfl (J_st (R_gtr rfl rfl) rfl (J_st (R_move rfl) rfl ?_))))
  refine J_cut 27 [(1, .pointer (some ⟨b1, 0, none⟩)), (2, .bool false), (89, .bool (((decide (2 < ((x.outs.length : Nat) : Int))) || ((x.kind == 8) && (decide (0 < ((x.outs.length : Nat) : Int))))) || ((((x.outs.length : Nat) : Int) == 2) && ((List.getD x.outs 0 default) == (List.getD x.outs 1 default)))))] (fun w' => w15 = w') ?_ ?_
  ·refine J_if (gd := 62) rfl rfl (fun hg9 => ?_) (fun hg9 => ?_)
   ·have hg9n : x.outs.length > 2 := by first | (have h := of_decide_eq_true hg9; omega) | (have h := hg9; simp at h; omega)
    refine J_gdno rfl rfl rfl rfl (J_gdno rfl rfl rfl rfl (J_gdno rfl rfl rfl rfl (J_gdno rfl rfl rfl rfl (J_gdx rfl rfl rfl (J_gdx rfl rfl rfl (J_gdx rfl rfl rfl (J_gdx rfl rfl rfl (J_gdno rfl rfl rfl rfl (J_st (R_pickT rfl rfl) rfl (J_st (R_move rfl) rfl (J_gdno rfl rfl rfl rfl (J_gdno rfl rfl rfl rfl (J_gdno rfl rfl rfl rfl (J_gdno rfl rfl rfl rfl (J_gdno rfl rfl rfl rfl (J_gdx rfl rfl rfl (J_gdx rfl rfl rfl (J_gdx rfl rfl rfl (J_gdx rfl rfl rfl (J_gdx rfl rfl rfl (J_gdx rfl rfl rfl (J_gdx rfl rfl rfl (J_gdx rfl rfl rfl (J_gdx rfl rfl rfl (J_gdno rfl rfl rfl rfl (J_st (R_pickT rfl rfl) rfl (J_cutEnd ⟨rfl, rfl, congrArg (fun b => some (Value.bool b)) (show true = (((decide (2 < ((x.outs.length : Nat) : Int))) || ((x.kind == 8) && (decide (0 < ((x.outs.length : Nat) : Int))))) || ((((x.outs.length : Nat) : Int) == 2) && ((List.getD x.outs 0 default) == (List.getD x.outs 1 default)))) by first | (rw [hg9] <;> rfl) | (simp [hg9]; done) | (simp only [nat_nlt] <;> simp)), trivial⟩ rfl)))))))))))))))))))))))))))
   ·have hg9n : ¬ x.outs.length > 2 := by first | (have h := of_decide_eq_false hg9; omega) | (have h := hg9; simp at h; omega)
    refine J_gd rfl rfl (R_fieldAddr0 fl42_0 rfl) rfl (J_gd rfl rfl (R_load sc3 rfl (h1.one 0 rfl)) rfl (J_gd rfl rfl (R_eql rfl rfl) rfl (J_gd rfl rfl (R_move rfl) rfl ?_)))
    refine J_if (gd := 66) rfl rfl (fun hg10 => ?_) (fun hg10 => ?_)
    ·refine J_gd rfl rfl (R_fieldAddr0 fl42_3 rfl) rfl (J_gd rfl rfl (R_load sc40 rfl (h1.one 3 rfl)) rfl (J_gd rfl rfl (R_len Try.underlying40 rfl (hd1.ext E).len) rfl (J_gd rfl rfl (R_gtr rfl rfl) rfl (J_gd rfl rfl (R_pickT rfl rfl) rfl (J_st (R_pickF rfl rfl) rfl (J_st (R_move rfl) rfl ?_))))))
     refine J_if (gd := 73) rfl rfl (fun hg11 => ?_) (fun hg11 => ?_)
     ·have hg11n : x.outs.length > 0 := by first | (have h := of_decide_eq_true hg11; omega) | (have h := hg11; simp at h; omega)
      refine J_gdno rfl rfl rfl rfl (J_gdno rfl rfl rfl rfl (J_gdno rfl rfl rfl rfl (J_gdno rfl rfl rfl rfl (J_gdno rfl rfl rfl rfl (J_gdx rfl rfl rfl (J_gdx rfl rfl rfl (J_gdx rfl rfl rfl (J_gdx rfl rfl rfl (J_gdx rfl rfl rfl (J_gdx rfl rfl rfl (J_gdx rfl rfl rfl (J_gdx rfl rfl rfl (J_gdx rfl rfl rfl (J_gdno rfl rfl rfl rfl (J_st (R_pickT rfl rfl) rfl (J_cutEnd ⟨rfl, rfl, congrArg (fun b => some (Value.bool b)) (show true = (((decide (2 < ((x.outs.length : Nat) : Int))) || ((x.kind == 8) && (decide (0 < ((x.outs.length : Nat) : Int))))) || ((((x.outs.length : Nat) : Int) == 2) && ((List.getD x.outs 0 default) == (List.getD x.outs 1 default)))) by first | (rw [hg9, hg10, hg11] <;> rfl) | (simp [hg9, hg10, hg11]; done) | (simp only [nat_nlt] <;> simp)), trivial⟩ rfl))))))))))))))))
     ·have hg11n : ¬ x.outs.length > 0 := by first | (have h := of_decide_eq_false hg11; omega) | (have h := hg11; simp at h; omega)
      refine J_gd rfl rfl (R_fieldAddr0 fl42_3 rfl) rfl (J_gd rfl rfl (R_load sc40 rfl (h1.one 3 rfl)) rfl (J_gd rfl rfl (R_len Try.underlying40 rfl (hd1.ext E).len) rfl (J_gd rfl rfl (R_eql rfl rfl) rfl (J_gd rfl rfl (R_move rfl) rfl ?_))))
      refine J_if (gd := 78) rfl rfl (fun hg12 => ?_) (fun hg12 => ?_)
      ·have hg12n : x.outs.length = 2 := by first | (have h := of_decide_eq_true hg12; omega) | (have h := hg12; simp at h; omega)
       refine J_gd rfl rfl (R_fieldAddr0 fl42_3 rfl) rfl (J_gd rfl rfl (R_load sc40 rfl (h1.one 3 rfl)) rfl (J_gd rfl rfl (R_index (i := 0) sl40 rfl rfl (hd1.rd.ext E) (by first | assumption | omega | (simp only [List.length_set]; first | assumption | omega) | (simp only [List.getElem_set_self, List.length_set]; first | assumption | omega) | (simp only [setW, setLk, List.length_set]; first | assumption | omega) | (simp; done))) rfl (J_gd rfl rfl (R_load sc3 rfl ((RdS.getD (hd1.rd.ext E) (i := 0) (by first | assumption | omega | (simp only [List.length_set]; first | assumption | omega) | (simp only [List.getElem_set_self, List.length_set]; first | assumption | omega) | (simp only [setW, setLk, List.length_set]; first | assumption | omega) | (simp; done))).one 0 rfl)) rfl (J_gd rfl rfl (R_fieldAddr0 fl42_3 rfl) rfl (J_gd rfl rfl (R_load sc40 rfl (h1.one 3 rfl)) rfl (J_gd rfl rfl (R_index (i := 1) sl40 rfl rfl (hd1.rd.ext E) (by first | assumption | omega | (simp only [List.length_set]; first | assumption | omega) | (simp only [List.getElem_set_self, List.length_set]; first | assumption | omega) | (simp only [setW, setLk, List.length_set]; first | assumption | omega) | (simp; done))) rfl (J_gd rfl rfl (R_load sc3 rfl ((RdS.getD (hd1.rd.ext E) (i := 1) (by first | assumption | omega | (simp only [List.length_set]; first | assumption | omega) | (simp only [List.getElem_set_self, List.length_set]; first | assumption | omega) | (simp only [setW, setLk, List.length_set]; first | assumption | omega) | (simp; done))).one 0 rfl)) rfl (J_gd rfl rfl (R_eql rfl rfl) rfl (J_gd rfl rfl (R_pickT rfl rfl) rfl (J_st (R_pickF rfl rfl) rfl (J_cutEnd ⟨rfl, rfl, congrArg (fun b => some (Value.bool b)) (show ((List.getD x.outs 0 default) == (List.getD x.outs 1 default)) = (((decide (2 < ((x.outs.length : Nat) : Int))) || ((x.kind == 8) && (decide (0 < ((x.outs.length : Nat) : Int))))) || ((((x.outs.length : Nat) : Int) == 2) && ((List.getD x.outs 0 default) == (List.getD x.outs 1 default)))) by first | (rw [hg9, hg10, hg11, hg12] <;> rfl) | (simp [hg9, hg10, hg11, hg12]; done) | (simp only [nat_nlt] <;> simp)), trivial⟩ rfl)))))))))))
      ·have hg12n : ¬ x.outs.length = 2 := by first | (have h := of_decide_eq_false hg12; omega) | (have h := hg12; simp at h; omega)
       refine J_gdno rfl rfl rfl rfl (J_gdno rfl rfl rfl rfl (J_gdno rfl rfl rfl rfl (J_gdno rfl rfl rfl rfl (J_gdno rfl rfl rfl rfl (J_gdno rfl rfl rfl rfl (J_gdno rfl rfl rfl rfl (J_gdno rfl rfl rfl rfl (J_gdno rfl rfl rfl rfl (J_gd rfl rfl (R_pickF rfl rfl) rfl (J_st (R_pickF rfl rfl) rfl (J_cutEnd ⟨rfl, rfl, congrArg (fun b => some (Value.bool b)) (show false = (((decide (2 < ((x.outs.length : Nat) : Int))) || ((x.kind == 8) && (decide (0 < ((x.outs.length : Nat) : Int))))) || ((((x.outs.length : Nat) : Int) == 2) && ((List.getD x.outs 0 default) == (List.getD x.outs 1 default)))) by first | (rw [hg9, hg10, hg11, hg12] <;> rfl) | (simp [hg9, hg10, hg11, hg12]; done) | (simp only [nat_nlt] <;> simp)), trivial⟩ rfl)))))))))))
    ·refine J_gdno rfl rfl rfl rfl (J_gdno rfl rfl rfl rfl (J_gdno rfl rfl rfl rfl (J_gdno rfl rfl rfl rfl (J_gd rfl rfl (R_pickF rfl rfl) rfl (J_st (R_pickF rfl rfl) rfl (J_st (R_move rfl) rfl (J_gd rfl rfl (R_fieldAddr0 fl42_3 rfl) rfl (J_gd rfl rfl (R_load sc40 rfl (h1.one 3 rfl)) rfl (J_gd rfl rfl (R_len Try.underlying40 rfl (hd1.ext E).len) rfl (J_gd rfl rfl (R_eql rfl rfl) rfl (J_gd rfl rfl (R_move rfl) rfl ?_)))))))))))
     refine J_if (gd := 78) rfl rfl (fun hg13 => ?_) (fun hg13 => ?_)
     ·have hg13n : x.outs.length = 2 := by first | (have h := of_decide_eq_true hg13; omega) | (have h := hg13; simp at h; omega)
      refine J_gd rfl rfl (R_fieldAddr0 fl42_3 rfl) rfl (J_gd rfl rfl (R_load sc40 rfl (h1.one 3 rfl)) rfl (J_gd rfl rfl (R_index (i := 0) sl40 rfl rfl (hd1.rd.ext E) (by first | assumption | omega | (simp only [List.length_set]; first | assumption | omega) | (simp only [List.getElem_set_self, List.length_set]; first | assumption | omega) | (simp only [setW, setLk, List.length_set]; first | assumption | omega) | (simp; done))) rfl (J_gd rfl rfl (R_load sc3 rfl ((RdS.getD (hd1.rd.ext E) (i := 0) (by first | assumption | omega | (simp only [List.length_set]; first | assumption | omega) | (simp only [List.getElem_set_self, List.length_set]; first | assumption | omega) | (simp only [setW, setLk, List.length_set]; first | assumption | omega) | (simp; done))).one 0 rfl)) rfl (J_gd rfl rfl (R_fieldAddr0 fl42_3 rfl) rfl (J_gd rfl rfl (R_load sc40 rfl (h1.one 3 rfl)) rfl (J_gd rfl rfl (R_index (i := 1) sl40 rfl rfl (hd1.rd.ext E) (by first | assumption | omega | (simp only [List.length_set]; first | assumption | omega) | (simp only [List.getElem_set_self, List.length_set]; first | assumption | omega) | (simp only [setW, setLk, List.length_set]; first | assumption | omega) | (simp; done))) rfl (J_gd rfl rfl (R_load sc3 rfl ((RdS.getD (hd1.rd.ext E) (i := 1) (by first | assumption | omega | (simp only [List.length_set]; first | assumption | omega) | (simp only [List.getElem_set_self, List.length_set]; first | assumption | omega) | (simp only [setW, setLk, List.length_set]; first | assumption | omega) | (simp; done))).one 0 rfl)) rfl (J_gd rfl rfl (R_eql rfl rfl) rfl (J_gd rfl rfl (R_pickT rfl rfl) rfl (J_st (R_pickF rfl rfl) rfl (J_cutEnd ⟨rfl, rfl, congrArg (fun b => some (Value.bool b)) (show ((List.getD x.outs 0 default) == (List.getD x.outs 1 default)) = (((decide (2 < ((x.outs.length : Nat) : Int))) || ((x.kind == 8) && (decide (0 < ((x.outs.length : Nat) : Int))))) || ((((x.outs.length : Nat) : Int) == 2) && ((List.getD x.outs 0 default) == (List.getD x.outs 1 default)))) by first | (rw [hg9, hg10, hg13] <;> rfl) | (simp [hg9, hg10, hg13]; done) | (simp only [nat_nlt] <;> simp)), trivial⟩ rfl)))))))))))
     ·have hg13n : ¬ x.outs.length = 2 := by first | (have h := of_decide_eq_false hg13; omega) | (have h := hg13; simp at h; omega)
      refine J_gdno rfl rfl rfl rfl (J_gdno rfl rfl rfl rfl (J_gdno rfl rfl rfl rfl (J_gdno rfl rfl rfl rfl (J_gdno rfl rfl rfl rfl (J_gdno rfl rfl rfl rfl (J_gdno rfl rfl rfl rfl (J_gdno rfl rfl rfl rfl (J_gdno rfl rfl rfl rfl (J_gd rfl rfl (R_pickF rfl rfl) rfl (J_st (R_pickF rfl rfl) rfl (J_cutEnd ⟨rfl, rfl, congrArg (fun b => some (Value.bool b)) (show false = (((decide (2 < ((x.outs.length : Nat) : Int))) || ((x.kind == 8) && (decide (0 < ((x.outs.length : Nat) : Int))))) || ((((x.outs.length : Nat) : Int) == 2) && ((List.getD x.outs 0 default) == (List.getD x.outs 1 default)))) by first | (rw [hg9, hg10, hg13] <;> rfl) | (simp [hg9, hg10, hg13]; done) | (simp only [nat_nlt] <;> simp)), trivial⟩ rfl)))))))))))
  rintro _ rfl
  refine J_done ?_
  refine S_cond rfl (fun hc17 => ?_) (fun hc17 => ?_)
  ·refine S_seq ?_
   refine S_reg [true] rfl rfl ?_
   refine J_st (R_assign rfl) rfl (J_done ?_)
   refine S_ret (E_done1 rfl rfl E ?_)
   exact node_t (by assumption)
  ·refine S_skip ?_
   refine S_seq ?_
   refine S_seq ?_
   refine S_reg [true, true, true, true] rfl rfl ?_
   refine J_st (R_fieldAddr0 fl42_3 rfl) rfl (J_st (R_load sc40 rfl (h1.one 3 rfl)) rfl (J_st (R_len Try.underlying40 rfl (hd1.ext E).len) rfl (J_st (R_move rfl) rfl (J_done ?_))))
   refine S_block ?_
   refine S_loop (fun (k : Nat) => [(2, .bool false), (91, o1), (92, .int .i64 ((x.outs.length : Nat) : Int)), (93, .int .i64 ((k : Nat) : Int))]) (fun (k : Nat) w' => Ext w w' ∧ w15.heap.size ≤ w'.heap.size ∧ Blk w' b1 ([.int .i64 x.kind, .int .i64 x.a, .int .i64 x.b, o1]) ∧ k ≤ x.outs.length ∧ (x.outs.take k).all (win · 0 7) = true) (fun (k : Nat) => x.outs.length - k) 0 ⟨rfl, rfl, rfl, rfl, trivial⟩ ⟨E, Nat.le_refl _, h1, Nat.zero_le _, rfl⟩ ?_
   clear E h1
   rintro k w17 ⟨E, z9, h1, hk, hI⟩
   refine S_seq ?_
   refine S_reg [true] rfl rfl ?_
   refine J_st (R_lss rfl rfl) rfl (J_done ?_)
   refine S_seq ?_
   refine S_cond rfl (fun hc18 => ?_) (fun hc18 => ?_)
   ·have hc18n : k < x.outs.length := by first | (have h := of_decide_eq_true hc18; omega) | (have h := hc18; simp at h; omega)
    refine S_skip ?_
    refine S_seq ?_
    refine S_block ?_
    refine S_seq ?_
    refine S_reg [true, true, true] rfl rfl ?_
    have hi1 : k < x.outs.length := (by first | assumption | omega | (simp only [List.length_set]; first | assumption | omega) | (simp only [List.getElem_set_self, List.length_set]; first | assumption | omega) | (simp only [setW, setLk, List.length_set]; first | assumption | omega) | (simp; done))
    refine J_st (R_index (i := k) sl40 rfl rfl (hd1.rd.ext E) hi1) rfl (J_st (R_load sc3 rfl (((hd1.rd.ext E).get hi1).one 0 rfl)) rfl (J_st (R_assign rfl) rfl (J_done ?_)))
    refine S_seq ?_
    refine S_reg [true, false, true] rfl rfl ?_
    refine J_st (R_move rfl) rfl ?_
    refine J_call Try.call64 rfl (c_within (x.outs[k]'hi1) 0 7 _ ) rfl (fun _ w18 e7 hv => ?_)
    subst hv
    replace E := E.trans e7; replace h1 := h1.ext e7
    have z10 := e7.size
    refine J_st (R_not rfl) rfl (J_done ?_)
    refine S_cond rfl (fun hc19 => ?_) (fun hc19 => ?_)
    ·refine S_seq ?_
     refine S_reg [true] rfl rfl ?_
     refine J_st (R_assign rfl) rfl (J_done ?_)
     refine S_ret (E_inB_ret (E_lp_ret (E_inB_ret (E_done1 rfl rfl E ?_))))
     exact node_l (by assumption)
    ·refine S_skip ?_
     refine S_nil (E_inB ?_)
     refine S_reg [true, true] rfl rfl ?_
     refine J_st (R_add rfl rfl (add_one hc18n (hd1.ext E).1.1)) rfl (J_st (R_move rfl) rfl (J_done ?_))
     refine S_nil (E_again (k + 1) (by omega) ⟨rfl, rfl, rfl, rfl, trivial⟩ ⟨E, (by omega), h1, (by omega), all_step hI (by assumption) (by simpa using (show (!(win x.outs[k] 0 7)) = false by assumption))⟩)
   ·have hc18n : ¬ k < x.outs.length := by first | (have h := of_decide_eq_false hc18; omega) | (have h := hc18; simp at h; omega)
    refine S_exit (E_lp_exit (E_inB_exit ?_))
    refine S_seq ?_
    refine S_reg [true] rfl rfl ?_
    refine J_st (R_assign rfl) rfl (J_done ?_)
    refine S_ret (E_done1 rfl rfl E ?_)
    exact node_y hkk (by assumption) hI (by omega)

set_option maxHeartbeats 4000000 in
set_option maxRecDepth 20000 in
theorem s_NodeOk (cx : List Value) (x : Node) (w : World) (hx : Dat.R w 0 w.heap.size cx x) : Ct Try.prog 69 [.agg cx.toArray] w (fun v _ => v = .bool (nodeOk x)) := by
 refine ct_of Try.func69 rfl Try.ntmps69 rfl ?_
 obtain ⟨o1, rfl, hd1⟩ := Node.op hx
 refine S_sub [(0, .agg [.int .i64 x.kind, .int .i64 x.a, .int .i64 x.b, o1].toArray)] ⟨rfl, trivial⟩ ?_
 have E : Ext w w := Ext.refl w
 refine S_seq ?_
 refine S_reg [false, true] rfl rfl ?_
 refine J_box rfl rfl (fun b1 w1 e1 s1 h1 => ?_)
 have g_b1 : w.heap.size ≤ b1 := by have := E.size; omega
 have y_b1 := h1.lt
 replace E := E.trans e1
 have z1 := e1.size
 refine J_st (R_assign rfl) rfl (J_done ?_)
 refine S_seq ?_
 refine S_reg [true, true, true, true] rfl rfl ?_
 refine J_st (R_fieldAddr0 fl42_1 rfl) rfl (J_st (R_load sc3 rfl (h1.one 1 rfl)) rfl (J_st (R_eql rfl rfl) rfl (J_st (R_assign rfl) rfl (J_done ?_))))
 refine S_seq ?_
 refine S_reg [true, true, true, true] rfl rfl ?_
 refine J_st (R_fieldAddr0 fl42_2 rfl) rfl (J_st (R_load sc3 rfl (h1.one 2 rfl)) rfl (J_st (R_eql rfl rfl) rfl (J_st (R_assign rfl) rfl (J_done ?_))))
 refine S_seq ?_
 refine S_seq ?_
 refine S_reg [true, true] rfl rfl ?_
 refine J_st (R_fieldAddr0 fl42_0 rfl) rfl (J_st (R_load sc3 rfl (h1.one 0 rfl)) rfl (J_done ?_))
 refine S_cutG (fun (xq : Bool × Bool) => let ⟨p0, q0⟩ := xq; [(1, .pointer (some ⟨b1, 0, none⟩)), (2, .bool false), (3, .bool p0), (4, .bool q0)]) (fun (xq : Bool × Bool) w' => let ⟨p0, q0⟩ := xq; Ext w w' ∧ w1.heap.size ≤ w'.heap.size ∧ Blk w' b1 ([.int .i64 x.kind, .int .i64 x.a, .int .i64 x.b, o1]) ∧ kindOk x = (win x.kind 1 8 && p0 && q0)) ?_ ?_
 ·refine S_block ?_
  refine S_seq ?_
  refine S_reg [true, true] rfl rfl ?_
  refine J_st (R_eql rfl rfl) rfl (J_st (R_assign rfl) rfl (J_done ?_))
  refine S_cond rfl (fun hc1 => ?_) (fun hc1 => ?_)
  ·refine S_reg [true, true, false, true] rfl rfl ?_
   refine J_st (R_fieldAddr0 fl42_1 rfl) rfl (J_st (R_load sc3 rfl (h1.one 1 rfl)) rfl ?_)
   refine J_call Try.call53 rfl (s_l01In x.a 0 999 _ ) rfl (fun _ w2 e2 hv => ?_)
   subst hv
   replace E := E.trans e2; replace h1 := h1.ext e2
   have z3 := e2.size
   refine J_st (R_assign rfl) rfl (J_done ?_)
   refine S_nil (E_inB ?_)
   refine S_nil (E_cutG (win x.a 0 999, x.b == 0) ⟨rfl, rfl, rfl, rfl, trivial⟩ ⟨E, (by omega), h1, (by rw [node_2 (by assumption), win_kind (n := x.kind) (by have := eq_of_beq (show (x.kind == 2) = true by assumption); omega), Bool.true_and])⟩)
  ·refine S_seq ?_
   refine S_reg [true, true] rfl rfl ?_
   refine J_st (R_eql rfl rfl) rfl (J_st (R_assign rfl) rfl (J_done ?_))
   refine S_cond rfl (fun hc2 => ?_) (fun hc2 => ?_)
   ·refine S_seq ?_
    refine S_reg [true, true, false, true] rfl rfl ?_
    refine J_st (R_fieldAddr0 fl42_1 rfl) rfl (J_st (R_load sc3 rfl (h1.one 1 rfl)) rfl ?_)
    refine J_call Try.call53 rfl (s_l01In x.a 1 10 _ ) rfl (fun _ w3 e3 hv => ?_)
    subst hv
    replace E := E.trans e3; replace h1 := h1.ext e3
    have z4 := e3.size
    refine J_st (R_assign rfl) rfl (J_done ?_)
    refine S_reg [true, true, true, true, true, false, true] rfl rfl ?_
    refine J_st (R_fieldAddr0 fl42_2 rfl) rfl (J_st (R_load sc3 rfl (h1.one 2 rfl)) rfl (J_st (R_fieldAddr0 fl42_1 rfl) rfl (J_st (R_load sc3 rfl (h1.one 1 rfl)) rfl (J_st (R_sub rfl rfl rfl) rfl ?_))))
    refine J_call Try.call53 rfl (s_l01In x.b 0 (IntKind.i64.wrap (x.a - 1)) _ ) rfl (fun _ w4 e4 hv => ?_)
    subst hv
    replace E := E.trans e4; replace h1 := h1.ext e4
    have z5 := e4.size
    refine J_st (R_assign rfl) rfl (J_done ?_)
    refine S_nil (E_inB ?_)
    refine S_nil (E_cutG (win x.a 1 10, win x.b 0 (IntKind.i64.wrap (x.a - 1))) ⟨rfl, rfl, rfl, rfl, trivial⟩ ⟨E, (by omega), h1, (by rw [node_3 (by assumption), win_kind (n := x.kind) (by have := eq_of_beq (show (x.kind == 3) = true by assumption); omega), Bool.true_and])⟩)
   ·refine S_seq ?_
    refine S_reg [true, true] rfl rfl ?_
    refine J_st (R_eql rfl rfl) rfl (J_st (R_assign rfl) rfl (J_done ?_))
    refine S_cond rfl (fun hc3 => ?_) (fun hc3 => ?_)
    ·refine S_reg [true, true, false, true] rfl rfl ?_
     refine J_st (R_fieldAddr0 fl42_1 rfl) rfl (J_st (R_load sc3 rfl (h1.one 1 rfl)) rfl ?_)
     refine J_call Try.call53 rfl (s_l01In x.a 0 99 _ ) rfl (fun _ w5 e5 hv => ?_)
     subst hv
     replace E := E.trans e5; replace h1 := h1.ext e5
     have z6 := e5.size
     refine J_st (R_assign rfl) rfl (J_done ?_)
     refine S_nil (E_inB ?_)
     refine S_nil (E_cutG (win x.a 0 99, x.b == 0) ⟨rfl, rfl, rfl, rfl, trivial⟩ ⟨E, (by omega), h1, (by rw [node_4 (by assumption), win_kind (n := x.kind) (by have := eq_of_beq (show (x.kind == 4) = true by assumption); omega), Bool.true_and])⟩)
    ·refine S_skip ?_
     refine S_nil (E_inB ?_)
     refine S_nil (E_cutG (x.a == 0, x.b == 0) ⟨rfl, rfl, rfl, rfl, trivial⟩ ⟨E, (by omega), h1, (node_0 (by assumption) (by assumption) (by assumption))⟩)
 ·clear E h1
  rintro ⟨p0, q0⟩ w6 ⟨E, z2, h1, hpq⟩
  refine S_sub [(1, .pointer (some ⟨b1, 0, none⟩)), (2, .bool false), (3, .bool p0), (4, .bool q0)] ⟨rfl, rfl, rfl, rfl, trivial⟩ ?_
  refine S_seq ?_
  refine S_seq ?_
  refine S_reg [true, true, false, true, true, true, true, true, true, true, true, true, true, true, true, true, true, true, true, true, true, true, true, true, true, true, true, true, true] rfl rfl ?_
  refine J_st (R_fieldAddr0 fl42_0 rfl) rfl (J_st (R_load sc3 rfl (h1.one 0 rfl)) rfl ?_)
  refine J_call Try.call53 rfl (s_l01In x.kind 1 8 _ ) rfl (fun _ w7 e6 hv => ?_)
  subst hv
  replace E := E.trans e6; replace h1 := h1.ext e6
  have z7 := e6.size
  refine J_st (R_not rfl) rfl (J_st (R_move rfl) rfl ?_)
  refine J_cut 24 [(1, .pointer (some ⟨b1, 0, none⟩)), (2, .bool false), (3, .bool p0), (4, .bool q0), (63, .bool (((((!(win x.kind 1 8)) || (!p0)) || (!q0)) || (decide (2 < ((x.outs.length : Nat) : Int)))) || ((x.kind == 8) && (decide (0 < ((x.outs.length : Nat) : Int))))))] (fun w' => w7 = w') ?_ ?_
  ·refine J_if (gd := 39) rfl rfl (fun hg1 => ?_) (fun hg1 => ?_)
   ·refine J_gdno rfl rfl rfl rfl (J_gdno rfl rfl rfl rfl (J_st (R_pickT rfl rfl) rfl (J_st (R_move rfl) rfl (J_gdno rfl rfl rfl rfl (J_gdno rfl rfl rfl rfl (J_st (R_pickT rfl rfl) rfl (J_st (R_move rfl) rfl (J_gdno rfl rfl rfl rfl (J_gdno rfl rfl rfl rfl (J_gdno rfl rfl rfl rfl (J_gdno rfl rfl rfl rfl (J_st (R_pickT rfl rfl) rfl (J_st (R_move rfl) rfl (J_gdno rfl rfl rfl rfl (J_gdno rfl rfl rfl rfl (J_gdno rfl rfl rfl rfl (J_gdno rfl rfl rfl rfl (J_gdx rfl rfl rfl (J_gdx rfl rfl rfl (J_gdx rfl rfl rfl (J_gdx rfl rfl rfl (J_gdno rfl rfl rfl rfl (J_st (R_pickT rfl rfl) rfl (J_cutEnd ⟨rfl, rfl, rfl, rfl, congrArg (fun b => some (Value.bool b)) (show true = (((((!(win x.kind 1 8)) || (!p0)) || (!q0)) || (decide (2 < ((x.outs.length : Nat) : Int)))) || ((x.kind == 8) && (decide (0 < ((x.outs.length : Nat) : Int))))) by first | (rw [hg1] <;> rfl) | (simp [hg1]; done) | (simp only [nat_nlt] <;> simp)), trivial⟩ rfl))))))))))))))))))))))))
   ·refine J_gd rfl rfl (R_move rfl) rfl (J_gd rfl rfl (R_not rfl) rfl (J_st (R_pickF rfl rfl) rfl (J_st (R_move rfl) rfl ?_)))
    refine J_if (gd := 43) rfl rfl (fun hg2 => ?_) (fun hg2 => ?_)
    ·refine J_gdno rfl rfl rfl rfl (J_gdno rfl rfl rfl rfl (J_st (R_pickT rfl rfl) rfl (J_st (R_move rfl) rfl (J_gdno rfl rfl rfl rfl (J_gdno rfl rfl rfl rfl (J_gdno rfl rfl rfl rfl (J_gdno rfl rfl rfl rfl (J_st (R_pickT rfl rfl) rfl (J_st (R_move rfl) rfl (J_gdno rfl rfl rfl rfl (J_gdno rfl rfl rfl rfl (J_gdno rfl rfl rfl rfl (J_gdno rfl rfl rfl rfl (J_gdx rfl rfl rfl (J_gdx rfl rfl rfl (J_gdx rfl rfl rfl (J_gdx rfl rfl rfl (J_gdno rfl rfl rfl rfl (J_st (R_pickT rfl rfl) rfl (J_cutEnd ⟨rfl, rfl, rfl, rfl, congrArg (fun b => some (Value.bool b)) (show true = (((((!(win x.kind 1 8)) || (!p0)) || (!q0)) || (decide (2 < ((x.outs.length : Nat) : Int)))) || ((x.kind == 8) && (decide (0 < ((x.outs.length : Nat) : Int))))) by first | (rw [hg1, hg2] <;> rfl) | (simp [hg1, hg2]; done) | (simp only [nat_nlt] <;> simp)), trivial⟩ rfl))))))))))))))))))))
    ·refine J_gd rfl rfl (R_move rfl) rfl (J_gd rfl rfl (R_not rfl) rfl (J_st (R_pickF rfl rfl) rfl (J_st (R_move rfl) rfl ?_)))
     refine J_if (gd := 47) rfl rfl (fun hg3 => ?_) (fun hg3 => ?_)
     ·refine J_gdno rfl rfl rfl rfl (J_gdno rfl rfl rfl rfl (J_gdno rfl rfl rfl rfl (J_gdno rfl rfl rfl rfl (J_st (R_pickT rfl rfl) rfl (J_st (R_move rfl) rfl (J_gdno rfl rfl rfl rfl (J_gdno rfl rfl rfl rfl (J_gdno rfl rfl rfl rfl (J_gdno rfl rfl rfl rfl (J_gdx rfl rfl rfl (J_gdx rfl rfl rfl (J_gdx rfl rfl rfl (J_gdx rfl rfl rfl (J_gdno rfl rfl rfl rfl (J_st (R_pickT rfl rfl) rfl (J_cutEnd ⟨rfl, rfl, rfl, rfl, congrArg (fun b => some (Value.bool b)) (show true = (((((!(win x.kind 1 8)) || (!p0)) || (!q0)) || (decide (2 < ((x.outs.length : Nat) : Int)))) || ((x.kind == 8) && (decide (0 < ((x.outs.length : Nat) : Int))))) by first | (rw [hg1, hg2, hg3] <;> rfl) | (simp [hg1, hg2, hg3]; done) | (simp only [nat_nlt] <;> simp)), trivial⟩ rfl))))))))))))))))
     ·refine J_gd rfl rfl (R_fieldAddr0 fl42_3 rfl) rfl (J_gd rfl rfl (R_load sc40 rfl (h1.one 3 rfl)) rfl (J_gd rfl rfl (R_len Try.underlying40 rfl (hd1.ext E).len) rfl (J_gd rfl rfl (R_gtr rfl rfl) rfl (J_st (R_pickF rfl rfl) rfl (J_st (R_move rfl) rfl ?_)))))
      refine J_if (gd := 53) rfl rfl (fun hg4 => ?_) (fun hg4 => ?_)
      ·have hg4n : x.outs.length > 2 := by first | (have h := of_decide_eq_true hg4; omega) | (have h := hg4; simp at h; omega)
       refine J_gdno rfl rfl rfl rfl (J_gdno rfl rfl rfl rfl (J_gdno rfl rfl rfl rfl (J_gdno rfl rfl rfl rfl (J_gdx rfl rfl rfl (J_gdx rfl rfl rfl (J_gdx rfl rfl rfl (J_gdx rfl rfl rfl (J_gdno rfl rfl rfl rfl (J_st (R_pickT rfl rfl) rfl (J_cutEnd ⟨rfl, rfl, rfl, rfl, congrArg (fun b => some (Value.bool b)) (show true = (((((!(win x.kind 1 8)) || (!p0)) || (!q0)) || (decide (2 < ((x.outs.length : Nat) : Int)))) || ((x.kind == 8) && (decide (0 < ((x.outs.length : Nat) : Int))))) by first | (rw [hg1, hg2, hg3, hg4] <;> rfl) | (simp [hg1, hg2, hg3, hg4]; done) | (simp only [nat_nlt] <;> simp)), trivial⟩ rfl))))))))))
      ·have hg4n : ¬ x.outs.length > 2 := by first | (have h := of_decide_eq_false hg4; omega) | (have h := hg4; simp at h; omega)
       refine J_gd rfl rfl (R_fieldAddr0 fl42_0 rfl) rfl (J_gd rfl rfl (R_load sc3 rfl (h1.one 0 rfl)) rfl (J_gd rfl rfl (R_eql rfl rfl) rfl (J_gd rfl rfl (R_move rfl) rfl ?_)))
       refine J_if (gd := 57) rfl rfl (fun hg5 => ?_) (fun hg5 => ?_)
       ·refine J_gd rfl rfl (R_fieldAddr0 fl42_3 rfl) rfl (J_gd rfl rfl (R_load sc40 rfl (h1.one 3 rfl)) rfl (J_gd rfl rfl (R_len Try.underlying40 rfl (hd1.ext E).len) rfl (J_gd rfl rfl (R_gtr rfl rfl) rfl (J_gd rfl rfl (R_pickT rfl rfl) rfl (J_st (R_pickF rfl rfl) rfl (J_cutEnd ⟨rfl, rfl, rfl, rfl, congrArg (fun b => some (Value.bool b)) (show (decide (0 < ((x.outs.length : Nat) : Int))) = (((((!(win x.kind 1 8)) || (!p0)) || (!q0)) || (decide (2 < ((x.outs.length : Nat) : Int)))) || ((x.kind == 8) && (decide (0 < ((x.outs.length : Nat) : Int))))) by first | (rw [hg1, hg2, hg3, hg4, hg5] <;> rfl) | (simp [hg1, hg2, hg3, hg4, hg5]; done) | (simp only [nat_nlt] <;> simp)), trivial⟩ rfl))))))
       ·refine J_gdno rfl rfl rfl rfl (J_gdno rfl rfl rfl rfl (J_gdno rfl rfl rfl rfl (J_gdno rfl rfl rfl rfl (J_gd rfl rfl (R_pickF rfl rfl) rfl (J_st (R_pickF rfl rfl) rfl (J_cutEnd ⟨rfl, rfl, rfl, rfl, congrArg (fun b => some (Value.bool b)) (show false = (((((!(win x.kind 1 8)) || (!p0)) || (!q0)) || (decide (2 < ((x.outs.length : Nat) : Int)))) || ((x.kind == 8) && (decide (0 < ((x.outs.length : Nat) : Int))))) by first | (rw [hg1, hg2, hg3, hg4, hg5] <;> rfl) | (simp [hg1, hg2, hg3, hg4, hg5]; done) | (simp only [nat_nlt] <;> simp)), trivial⟩ rfl))))))
  rintro _ rfl
  refine J_done ?_
  refine S_cond rfl (fun hc4 => ?_) (fun hc4 => ?_)
  ·refine S_seq ?_
   refine S_reg [true] rfl rfl ?_
   refine J_st (R_assign rfl) rfl (J_done ?_)
   refine S_ret (E_done1 rfl rfl E ?_)
   exact node_s hpq (by assumption)
  ·refine S_skip ?_
   refine S_seq ?_
   refine S_seq ?_
   refine S_reg [true] rfl rfl ?_
   refine J_st (R_assign rfl) rfl (J_done ?_)
   refine S_block ?_
   refine S_loop (fun (k : Nat) => [(1, .pointer (some ⟨b1, 0, none⟩)), (2, .bool false), (5, .int .i64 ((k : Nat) : Int))]) (fun (k : Nat) w' => Ext w w' ∧ w7.heap.size ≤ w'.heap.size ∧ Blk w' b1 ([.int .i64 x.kind, .int .i64 x.a, .int .i64 x.b, o1]) ∧ k ≤ x.outs.length ∧ (x.outs.take k).all (win · 0 7) = true ∧ (1 < k → ((List.getD x.outs 0 default) == (List.getD x.outs 1 default)) = false)) (fun (k : Nat) => x.outs.length - k) 0 ⟨rfl, rfl, rfl, trivial⟩ ⟨E, Nat.le_refl _, h1, Nat.zero_le _, rfl, (by omega)⟩ ?_
   clear E h1
   rintro k w9 ⟨E, z8, h1, hk, hI, hJ⟩
   refine S_seq ?_
   refine S_seq ?_
   refine S_reg [true, true, true, true, true] rfl rfl ?_
   refine J_st (R_move rfl) rfl (J_st (R_fieldAddr0 fl42_3 rfl) rfl (J_st (R_load sc40 rfl (h1.one 3 rfl)) rfl (J_st (R_len Try.underlying40 rfl (hd1.ext E).len) rfl (J_st (R_lss rfl rfl) rfl (J_done ?_)))))
   refine S_cond rfl (fun hc5 => ?_) (fun hc5 => ?_)
   ·have hc5n : k < x.outs.length := by first | (have h := of_decide_eq_true hc5; omega) | (have h := hc5; simp at h; omega)
    refine S_skip ?_
    refine S_seq ?_
    refine S_block ?_
    refine S_seq ?_
    refine S_regD mixed [(0, true), (1, true), (2, true), (3, true), (4, true), (5, false), (6, true), (7, true), (8, true), (9, true), (10, true), (11, true), (12, true), (13, true), (14, true), (15, true), (16, true), (17, true), (18, true), (19, true), (20, true), (21, true)] (by decide +kernel) rfl (fun w10 e7 => ?_)
    replace E := E.trans e7; replace h1 := h1.ext e7
    have z9 := e7.size
    refine J_st (R_fieldAddr0 fl42_3 rfl) rfl (J_st (R_load sc40 rfl (h1.one 3 rfl)) rfl (J_st (R_move rfl) rfl ?_))
    have hi1 : k < x.outs.length := (by first | assumption | omega | (simp only [List.length_set]; first | assumption | omega) | (simp only [List.getElem_set_self, List.length_set]; first | assumption | omega) | (simp only [setW, setLk, List.length_set]; first | assumption | omega) | (simp; done))
    refine J_st (R_index (i := k) sl40 rfl rfl (hd1.rd.ext E) hi1) rfl (J_st (R_load sc3 rfl (((hd1.rd.ext E).get hi1).one 0 rfl)) rfl ?_)
    refine J_call Try.call53 rfl (s_l01In (x.outs[k]'hi1) 0 7 _ ) rfl (fun _ w11 e8 hv => ?_)
    subst hv
    replace E := E.trans e8; replace h1 := h1.ext e8
    have z10 := e8.size
    refine J_st (R_not rfl) rfl (J_st (R_move rfl) rfl ?_)
    refine J_cut 14 [(1, .pointer (some ⟨b1, 0, none⟩)), (2, .bool false), (5, .int .i64 ((k : Nat) : Int)), (64, .int .i64 ((k : Nat) : Int)), (65, .pointer (some ⟨b1, 3, none⟩)), (66, o1), (67, .int .i64 ((x.outs.length : Nat) : Int)), (68, .bool (decide (((k : Nat) : Int) < ((x.outs.length : Nat) : Int)))), (92, .bool ((!(win (x.outs[k]'hi1) 0 7)) || ((decide (0 < ((k : Nat) : Int))) && ((List.getD x.outs 0 default) == (List.getD x.outs 1 default)))))] (fun w' => w11 = w') ?_ ?_
    ·refine J_if (gd := 78) rfl rfl (fun hg6 => ?_) (fun hg6 => ?_)
     ·refine J_gdno rfl rfl rfl rfl (J_gdno rfl rfl rfl rfl (J_gdno rfl rfl rfl rfl (J_gdx rfl rfl rfl (J_gdx rfl rfl rfl (J_gdx rfl rfl rfl (J_gdx rfl rfl rfl (J_gdx rfl rfl rfl (J_gdx rfl rfl rfl (J_gdx rfl rfl rfl (J_gdx rfl rfl rfl (J_gdx rfl rfl rfl (J_gdno rfl rfl rfl rfl (J_st (R_pickT rfl rfl) rfl (J_cutEnd ⟨rfl, rfl, rfl, rfl, rfl, rfl, rfl, rfl, congrArg (fun b => some (Value.bool b)) (show true = ((!(win (x.outs[k]'hi1) 0 7)) || ((decide (0 < ((k : Nat) : Int))) && ((List.getD x.outs 0 default) == (List.getD x.outs 1 default)))) by first | (rw [hg6] <;> rfl) | (simp [hg6]; done) | (simp only [nat_nlt] <;> simp)), trivial⟩ rfl))))))))))))))
     ·refine J_gd rfl rfl (R_move rfl) rfl (J_gd rfl rfl (R_gtr rfl rfl) rfl (J_gd rfl rfl (R_move rfl) rfl ?_))
      refine J_if (gd := 81) rfl rfl (fun hg7 => ?_) (fun hg7 => ?_)
      ·have hg7n : k > 0 := by first | (have h := of_decide_eq_true hg7; omega) | (have h := hg7; simp at h; omega)
       refine J_gd rfl rfl (R_fieldAddr0 fl42_3 rfl) rfl (J_gd rfl rfl (R_load sc40 rfl (h1.one 3 rfl)) rfl (J_gd rfl rfl (R_index (i := 0) sl40 rfl rfl (hd1.rd.ext E) (by first | assumption | omega | (simp only [List.length_set]; first | assumption | omega) | (simp only [List.getElem_set_self, List.length_set]; first | assumption | omega) | (simp only [setW, setLk, List.length_set]; first | assumption | omega) | (simp; done))) rfl (J_gd rfl rfl (R_load sc3 rfl ((RdS.getD (hd1.rd.ext E) (i := 0) (by first | assumption | omega | (simp only [List.length_set]; first | assumption | omega) | (simp only [List.getElem_set_self, List.length_set]; first | assumption | omega) | (simp only [setW, setLk, List.length_set]; first | assumption | omega) | (simp; done))).one 0 rfl)) rfl (J_gd rfl rfl (R_fieldAddr0 fl42_3 rfl) rfl (J_gd rfl rfl (R_load sc40 rfl (h1.one 3 rfl)) rfl (J_gd rfl rfl (R_index (i := 1) sl40 rfl rfl (hd1.rd.ext E) (by first | assumption | omega | (simp only [List.length_set]; first | assumption | omega) | (simp only [List.getElem_set_self, List.length_set]; first | assumption | omega) | (simp only [setW, setLk, List.length_set]; first | assumption | omega) | (simp; done))) rfl (J_gd rfl rfl (R_load sc3 rfl ((RdS.getD (hd1.rd.ext E) (i := 1) (by first | assumption | omega | (simp only [List.length_set]; first | assumption | omega) | (simp only [List.getElem_set_self, List.length_set]; first | assumption | omega) | (simp only [setW, setLk, List.length_set]; first | assumption | omega) | (simp; done))).one 0 rfl)) rfl (J_gd rfl rfl (R_eql rfl rfl) rfl (J_gd rfl rfl (R_pickT rfl rfl) rfl (J_st (R_pickF rfl rfl) rfl (J_cutEnd ⟨rfl, rfl, rfl, rfl, rfl, rfl, rfl, rfl, congrArg (fun b => some (Value.bool b)) (show ((List.getD x.outs 0 default) == (List.getD x.outs 1 default)) = ((!(win (x.outs[k]'hi1) 0 7)) || ((decide (0 < ((k : Nat) : Int))) && ((List.getD x.outs 0 default) == (List.getD x.outs 1 default)))) by first | (rw [hg6, hg7] <;> rfl) | (simp [hg6, hg7]; done) | (simp only [nat_nlt] <;> simp)), trivial⟩ rfl)))))))))))
      ·have hg7n : ¬ k > 0 := by first | (have h := of_decide_eq_false hg7; omega) | (have h := hg7; simp at h; omega)
       refine J_gdno rfl rfl rfl rfl (J_gdno rfl rfl rfl rfl (J_gdno rfl rfl rfl rfl (J_gdno rfl rfl rfl rfl (J_gdno rfl rfl rfl rfl (J_gdno rfl rfl rfl rfl (J_gdno rfl rfl rfl rfl (J_gdno rfl rfl rfl rfl (J_gdno rfl rfl rfl rfl (J_gd rfl rfl (R_pickF rfl rfl) rfl (J_st (R_pickF rfl rfl) rfl (J_cutEnd ⟨rfl, rfl, rfl, rfl, rfl, rfl, rfl, rfl, congrArg (fun b => some (Value.bool b)) (show false = ((!(win (x.outs[k]'hi1) 0 7)) || ((decide (0 < ((k : Nat) : Int))) && ((List.getD x.outs 0 default) == (List.getD x.outs 1 default)))) by first | (rw [hg6, hg7] <;> rfl) | (simp [hg6, hg7]; done) | (simp only [nat_nlt] <;> simp)), trivial⟩ rfl)))))))))))
    rintro _ rfl
    refine J_done ?_
    refine S_cond rfl (fun hc6 => ?_) (fun hc6 => ?_)
    ·refine S_seq ?_
     refine S_reg [true] rfl rfl ?_
     refine J_st (R_assign rfl) rfl (J_done ?_)
     refine S_ret (E_inB_ret (E_lp_ret (E_inB_ret (E_done1 rfl rfl E ?_))))
     exact node_d (by assumption) (node_p (p := p0) (q := q0) (by assumption) hpq).2
    ·refine S_skip ?_
     refine S_nil (E_inB ?_)
     refine S_reg [true, true, true] rfl rfl ?_
     refine J_st (R_move rfl) rfl (J_st (R_add rfl rfl (add_one hc5n (hd1.ext E).1.1)) rfl (J_st (R_assign rfl) rfl (J_done ?_)))
     refine S_nil (E_again (k + 1) (by omega) ⟨rfl, rfl, rfl, trivial⟩ ⟨E, (by omega), h1, (by omega), all_step hI (by assumption) (nodeL (by assumption)), nodeJ (by assumption)⟩)
   ·have hc5n : ¬ k < x.outs.length := by first | (have h := of_decide_eq_false hc5; omega) | (have h := hc5; simp at h; omega)
    refine S_exit (E_lp_exit (E_inB_exit ?_))
    refine S_seq ?_
    refine S_reg [true] rfl rfl ?_
    refine J_st (R_assign rfl) rfl (J_done ?_)
    refine S_ret (E_done1 rfl rfl E ?_)
    exact node_z (p := p0) (q := q0) (by assumption) hpq hI hJ (by omega)

set_option maxHeartbeats 4000000 in
set_option maxRecDepth 20000 in
theorem c_GraphOk (cg : List Value) (g : Graph) (w : World) (hg : Dat.R w 0 w.heap.size cg g) : Ct Try.prog 41 [.agg cg.toArray] w (fun v _ => v = .bool (graphOk g)) := by
 refine ct_of Try.func41 rfl Try.ntmps41 rfl ?_
 obtain ⟨o1, rfl, hd1⟩ := Graph.op hg
 refine S_sub [(0, .agg [o1, .int .i64 g.workers, .int .i64 g.cap].toArray)] ⟨rfl, trivial⟩ ?_
 have E : Ext w w := Ext.refl w
 refine S_seq ?_
 refine S_reg [false, true] rfl rfl ?_
 refine J_box rfl rfl (fun b1 w1 e1 s1 h1 => ?_)
 have g_b1 : w.heap.size ≤ b1 := by have := E.size; omega
 have y_b1 := h1.lt
 replace E := E.trans e1
 have z1 := e1.size
 refine J_st (R_assign rfl) rfl (J_done ?_)
 refine S_seq ?_
 refine S_seq ?_
 refine S_reg [true, true, true, false, true, true, true, true, false, true, true, true, true, true, false, true, true] rfl rfl ?_
 refine J_st (R_fieldAddr0 fl26_0 rfl) rfl (J_st (R_load sc24 rfl (h1.one 0 rfl)) rfl (J_st (R_len Try.underlying24 rfl (hd1.ext E).len) rfl ?_))
 refine J_call Try.call64 rfl (c_within ((g.nodes.length : Nat) : Int) 1 8 _ ) rfl (fun _ w2 e2 hv => ?_)
 subst hv
 replace E := E.trans e2; replace h1 := h1.ext e2
 have z2 := e2.size
 refine J_st (R_not rfl) rfl (J_st (R_move rfl) rfl ?_)
 refine J_cut 11 [(0, .agg [o1, .int .i64 g.workers, .int .i64 g.cap].toArray), (1, .pointer (some ⟨b1, 0, none⟩)), (2, .bool false), (24, .bool (((!(win ((g.nodes.length : Nat) : Int) 1 8)) || (!(win g.workers 1 4))) || (!(win g.cap 1 4))))] (fun w' => Ext w w' ∧ w2.heap.size ≤ w'.heap.size ∧ Blk w' b1 ([o1, .int .i64 g.workers, .int .i64 g.cap])) ?_ ?_
 ·refine J_if (gd := 13) rfl rfl (fun hg1 => ?_) (fun hg1 => ?_)
  ·refine J_gdno rfl rfl rfl rfl (J_gdno rfl rfl rfl rfl ?_)
   refine J_ungno rfl rfl rfl rfl ?_
   refine J_gdno rfl rfl rfl rfl (J_st (R_pickT rfl rfl) rfl (J_st (R_move rfl) rfl (J_gdno rfl rfl rfl rfl (J_gdno rfl rfl rfl rfl ?_))))
   refine J_ungno rfl rfl rfl rfl ?_
   refine J_gdno rfl rfl rfl rfl (J_st (R_pickT rfl rfl) rfl (J_cutEnd ⟨rfl, rfl, rfl, congrArg (fun b => some (Value.bool b)) (show true = (((!(win ((g.nodes.length : Nat) : Int) 1 8)) || (!(win g.workers 1 4))) || (!(win g.cap 1 4))) by first | (rw [hg1] <;> rfl) | (simp [hg1]; done) | (simp only [nat_nlt] <;> simp)), trivial⟩ ⟨E, (by omega), h1⟩))
  ·refine J_gd rfl rfl (R_fieldAddr0 fl26_1 rfl) rfl (J_gd rfl rfl (R_load sc3 rfl (h1.one 1 rfl)) rfl ?_)
   refine J_ung rfl rfl ?_
   refine J_call Try.call64 rfl (c_within g.workers 1 4 _ ) rfl (fun _ w4 e3 hv => ?_)
   subst hv
   replace E := E.trans e3; replace h1 := h1.ext e3
   have z3 := e3.size
   refine J_gd rfl rfl (R_not rfl) rfl (J_st (R_pickF rfl rfl) rfl (J_st (R_move rfl) rfl ?_))
   refine J_if (gd := 19) rfl rfl (fun hg2 => ?_) (fun hg2 => ?_)
   ·refine J_gdno rfl rfl rfl rfl (J_gdno rfl rfl rfl rfl ?_)
    refine J_ungno rfl rfl rfl rfl ?_
    refine J_gdno rfl rfl rfl rfl (J_st (R_pickT rfl rfl) rfl (J_cutEnd ⟨rfl, rfl, rfl, congrArg (fun b => some (Value.bool b)) (show true = (((!(win ((g.nodes.length : Nat) : Int) 1 8)) || (!(win g.workers 1 4))) || (!(win g.cap 1 4))) by first | (rw [hg1, hg2] <;> rfl) | (simp [hg1, hg2]; done) | (simp only [nat_nlt] <;> simp)), trivial⟩ ⟨E, (by omega), h1⟩))
   ·refine J_gd rfl rfl (R_fieldAddr0 fl26_2 rfl) rfl (J_gd rfl rfl (R_load sc3 rfl (h1.one 2 rfl)) rfl ?_)
    refine J_ung rfl rfl ?_
    refine J_call Try.call64 rfl (c_within g.cap 1 4 _ ) rfl (fun _ w5 e4 hv => ?_)
    subst hv
    replace E := E.trans e4; replace h1 := h1.ext e4
    have z4 := e4.size
    refine J_gd rfl rfl (R_not rfl) rfl (J_st (R_pickF rfl rfl) rfl (J_cutEnd ⟨rfl, rfl, rfl, congrArg (fun b => some (Value.bool b)) (show (!(win g.cap 1 4)) = (((!(win ((g.nodes.length : Nat) : Int) 1 8)) || (!(win g.workers 1 4))) || (!(win g.cap 1 4))) by first | (rw [hg1, hg2] <;> rfl) | (simp [hg1, hg2]; done) | (simp only [nat_nlt] <;> simp)), trivial⟩ ⟨E, (by omega), h1⟩))
 clear E h1
 rintro w3 ⟨E, z5, h1⟩
 refine J_done ?_
 refine S_cond rfl (fun hc1 => ?_) (fun hc1 => ?_)
 ·refine S_seq ?_
  refine S_reg [true] rfl rfl ?_
  refine J_st (R_assign rfl) rfl (J_done ?_)
  refine S_ret (E_done1 rfl rfl E ?_)
  exact graph_h (by assumption)
 ·refine S_skip ?_
  refine S_seq ?_
  refine S_seq ?_
  refine S_reg [true, true, true, true] rfl rfl ?_
  refine J_st (R_fieldAddr0 fl26_0 rfl) rfl (J_st (R_load sc24 rfl (h1.one 0 rfl)) rfl (J_st (R_len Try.underlying24 rfl (hd1.ext E).len) rfl (J_st (R_move rfl) rfl (J_done ?_))))
  refine S_block ?_
  refine S_loop (fun (i : Nat) => [(1, .pointer (some ⟨b1, 0, none⟩)), (2, .bool false), (26, o1), (27, .int .i64 ((g.nodes.length : Nat) : Int)), (28, .int .i64 ((i : Nat) : Int))]) (fun (i : Nat) w' => Ext w w' ∧ w3.heap.size ≤ w'.heap.size ∧ Blk w' b1 ([o1, .int .i64 g.workers, .int .i64 g.cap]) ∧ i ≤ g.nodes.length ∧ (∀ j, j < i → nodeAtOk g j (List.getD g.nodes j default) = true)) (fun (i : Nat) => g.nodes.length - i) 0 ⟨rfl, rfl, rfl, rfl, rfl, trivial⟩ ⟨E, Nat.le_refl _, h1, Nat.zero_le _, (fun j hj => by omega)⟩ ?_
  clear E h1
  rintro i w6 ⟨E, z6, h1, hle, hp⟩
  refine S_seq ?_
  refine S_reg [true] rfl rfl ?_
  refine J_st (R_lss rfl rfl) rfl (J_done ?_)
  refine S_seq ?_
  refine S_cond rfl (fun hc2 => ?_) (fun hc2 => ?_)
  ·have hc2n : i < g.nodes.length := by first | (have h := of_decide_eq_true hc2; omega) | (have h := hc2; simp at h; omega)
   refine S_skip ?_
   refine S_seq ?_
   refine S_block ?_
   refine S_seq ?_
   refine S_reg [true, true, true, false, true, false] rfl rfl ?_
   refine J_st (R_move rfl) rfl ?_
   have hi1 : i < g.nodes.length := (by first | assumption | omega | (simp only [List.length_set]; first | assumption | omega) | (simp only [List.getElem_set_self, List.length_set]; first | assumption | omega) | (simp only [setW, setLk, List.length_set]; first | assumption | omega) | (simp; done))
   obtain ⟨_, hr1, ha1⟩ := RdD.get hd1 hi1
   obtain ⟨o2, rfl, hd2⟩ := Node.op hr1
   replace ha1 : At w (sblk o1) (soff o1 + i * 4) [.int .i64 ((g.nodes[i]'hi1).kind), .int .i64 ((g.nodes[i]'hi1).a), .int .i64 ((g.nodes[i]'hi1).b), o2] := ha1
   refine J_st (R_index (i := i) sl24 rfl rfl (hd1.ext E).1 hi1) rfl (J_st (R_loadS st42 rfl (ha1.ext E) rfl) rfl ?_)
   refine J_alloc st42 rfl (fun b2 w7 e5 s2 h2 => ?_)
   have g_b2 : w.heap.size ≤ b2 := by have := E.size; omega
   have y_b2 := h2.lt
   replace E := E.trans e5; replace h1 := h1.ext e5
   have z7 := e5.size
   refine J_st (R_assign rfl) rfl ?_
   refine J_storeS' (cs' := [.int .i64 ((g.nodes[i]'hi1).kind), .int .i64 ((g.nodes[i]'hi1).a), .int .i64 ((g.nodes[i]'hi1).b), o2]) st42 rfl rfl rfl (all_cons rfl (all_cons rfl (all_cons rfl (all_cons (RdD.one (hd2.ext E)) rfl)))) h2 (Nat.le_of_ble_eq_true rfl) rfl (fun w8 m1 h2' => ?_)
   replace h2 := h2'
   replace E := E.step m1 (fun g hg => by cases hg; omega); replace h1 := h1.mod m1 (fun g hg => by cases hg; omega)
   have z8 := m1.size
   refine J_done ?_
   refine S_seq ?_
   refine S_seq ?_
   refine S_reg [true, false, true, true, true, true, true, true, true, true, true] rfl rfl ?_
   refine J_st (R_loadS st42 rfl h2.at rfl) rfl ?_
   refine J_call Try.call73 rfl (c_NodeOk [.int .i64 ((g.nodes[i]'hi1).kind), .int .i64 ((g.nodes[i]'hi1).a), .int .i64 ((g.nodes[i]'hi1).b), o2] (g.nodes[i]'hi1) _ (Node.mkR (g.nodes[i]'hi1) (RdD.any (hd2.ext E)))) rfl (fun _ w9 e6 hv => ?_)
   subst hv
   replace E := E.trans e6; replace h1 := h1.ext e6; replace h2 := h2.ext e6
   have z9 := e6.size
   refine J_st (R_not rfl) rfl (J_st (R_move rfl) rfl ?_)
   refine J_cut 7 [(1, .pointer (some ⟨b1, 0, none⟩)), (2, .bool false), (3, .int .i64 ((i : Nat) : Int)), (4, .pointer (some ⟨b2, 0, none⟩)), (26, o1), (27, .int .i64 ((g.nodes.length : Nat) : Int)), (28, .int .i64 ((i : Nat) : Int)), (29, .bool (decide (((i : Nat) : Int) < ((g.nodes.length : Nat) : Int)))), (30, .int .i64 ((i : Nat) : Int)), (31, .pointer (some ⟨sblk o1, soff o1 + i * 4, none⟩)), (32, .agg [.int .i64 ((g.nodes[i]'hi1).kind), .int .i64 ((g.nodes[i]'hi1).a), .int .i64 ((g.nodes[i]'hi1).b), o2].toArray), (43, .bool ((!(nodeOk (g.nodes[i]'hi1))) || (!((((g.nodes[i]'hi1).kind) == 1) == (((i : Nat) : Int) == 0)))))] (fun w' => w9 = w') ?_ ?_
   ·refine J_if (gd := 36) rfl rfl (fun hg3 => ?_) (fun hg3 => ?_)
    ·refine J_gdno rfl rfl rfl rfl (J_gdno rfl rfl rfl rfl (J_gdno rfl rfl rfl rfl (J_gdno rfl rfl rfl rfl (J_gdno rfl rfl rfl rfl (J_gdno rfl rfl rfl rfl (J_st (R_pickT rfl rfl) rfl (J_cutEnd ⟨rfl, rfl, rfl, rfl, rfl, rfl, rfl, rfl, rfl, rfl, rfl, congrArg (fun b => some (Value.bool b)) (show true = ((!(nodeOk (g.nodes[i]'hi1))) || (!((((g.nodes[i]'hi1).kind) == 1) == (((i : Nat) : Int) == 0)))) by first | (rw [hg3] <;> rfl) | (simp [hg3]; done) | (simp only [nat_nlt] <;> simp)), trivial⟩ rfl)))))))
    ·refine J_gd rfl rfl (R_fieldAddr0 fl42_0 rfl) rfl (J_gd rfl rfl (R_load sc3 rfl (h2.one 0 rfl)) rfl (J_gd rfl rfl (R_eql rfl rfl) rfl (J_gd rfl rfl (R_move rfl) rfl (J_gd rfl rfl (R_eql rfl rfl) rfl (J_gd rfl rfl (R_neqB (Try.underlying4) rfl rfl) rfl (J_st (R_pickF rfl rfl) rfl (J_cutEnd ⟨rfl, rfl, rfl, rfl, rfl, rfl, rfl, rfl, rfl, rfl, rfl, congrArg (fun b => some (Value.bool b)) (show (!((((g.nodes[i]'hi1).kind) == 1) == (((i : Nat) : Int) == 0))) = ((!(nodeOk (g.nodes[i]'hi1))) || (!((((g.nodes[i]'hi1).kind) == 1) == (((i : Nat) : Int) == 0)))) by first | (rw [hg3] <;> rfl) | (simp [hg3]; done) | (simp only [nat_nlt] <;> simp)), trivial⟩ rfl)))))))
   rintro _ rfl
   refine J_done ?_
   refine S_cond rfl (fun hc3 => ?_) (fun hc3 => ?_)
   ·refine S_seq ?_
    refine S_reg [true] rfl rfl ?_
    refine J_st (R_assign rfl) rfl (J_done ?_)
    refine S_ret (E_inB_ret (E_lp_ret (E_inB_ret (E_done1 rfl rfl E ?_))))
    exact graph_a (by assumption)
   ·refine S_skip ?_
    refine S_seq ?_
    refine S_reg [true, true, true, true] rfl rfl ?_
    refine J_st (R_fieldAddr0 fl42_3 rfl) rfl (J_st (R_load sc40 rfl (h2.one 3 rfl)) rfl (J_st (R_len Try.underlying40 rfl (hd2.ext E).len) rfl (J_st (R_move rfl) rfl (J_done ?_))))
    refine S_block ?_
    refine S_loop (fun (k : Nat) => [(1, .pointer (some ⟨b1, 0, none⟩)), (2, .bool false), (3, .int .i64 ((i : Nat) : Int)), (4, .pointer (some ⟨b2, 0, none⟩)), (26, o1), (27, .int .i64 ((g.nodes.length : Nat) : Int)), (28, .int .i64 ((i : Nat) : Int)), (45, o2), (46, .int .i64 ((((g.nodes[i]'hi1).outs).length : Nat) : Int)), (47, .int .i64 ((k : Nat) : Int))]) (fun (k : Nat) w' => Ext w w' ∧ w9.heap.size ≤ w'.heap.size ∧ Blk w' b1 ([o1, .int .i64 g.workers, .int .i64 g.cap]) ∧ Blk w' b2 [.int .i64 ((g.nodes[i]'hi1).kind), .int .i64 ((g.nodes[i]'hi1).a), .int .i64 ((g.nodes[i]'hi1).b), o2] ∧ k ≤ (g.nodes[i]'hi1).outs.length ∧ ((g.nodes[i]'hi1).outs.take k).all (fun to => !edgeBad g i (g.nodes[i]'hi1) to) = true) (fun (k : Nat) => (g.nodes[i]'hi1).outs.length - k) 0 ⟨rfl, rfl, rfl, rfl, rfl, rfl, rfl, rfl, rfl, rfl, trivial⟩ ⟨E, Nat.le_refl _, h1, h2, Nat.zero_le _, rfl⟩ ?_
    clear E h1 h2
    rintro k w11 ⟨E, z10, h1, h2, hk, hI⟩
    refine S_seq ?_
    refine S_reg [true] rfl rfl ?_
    refine J_st (R_lss rfl rfl) rfl (J_done ?_)
    refine S_seq ?_
    refine S_cond rfl (fun hc4 => ?_) (fun hc4 => ?_)
    ·have hc4n : k < ((g.nodes[i]'hi1).outs).length := by first | (have h := of_decide_eq_true hc4; omega) | (have h := hc4; simp at h; omega)
     refine S_skip ?_
     refine S_seq ?_
     refine S_block ?_
     refine S_seq ?_
     refine S_reg [true, true, true] rfl rfl ?_
     have hi2 : k < ((g.nodes[i]'hi1).outs).length := (by first | assumption | omega | (simp only [List.length_set]; first | assumption | omega) | (simp only [List.getElem_set_self, List.length_set]; first | assumption | omega) | (simp only [setW, setLk, List.length_set]; first | assumption | omega) | (simp; done))
     refine J_st (R_index (i := k) sl40 rfl rfl (hd2.rd.ext E) hi2) rfl (J_st (R_load sc3 rfl (((hd2.rd.ext E).get hi2).one 0 rfl)) rfl (J_st (R_assign rfl) rfl (J_done ?_)))
     refine S_seq ?_
     refine S_seq ?_
     refine S_reg [true, true, true, true, true] rfl rfl ?_
     refine J_st (R_move rfl) rfl (J_st (R_fieldAddr0 fl26_0 rfl) rfl (J_st (R_load sc24 rfl (h1.one 0 rfl)) rfl (J_st (R_len Try.underlying24 rfl (hd1.ext E).len) rfl (J_st (R_geq rfl rfl) rfl (J_done ?_)))))
     refine S_cond rfl (fun hc5 => ?_) (fun hc5 => ?_)
     ·refine S_seq ?_
      refine S_reg [true] rfl rfl ?_
      refine J_st (R_assign rfl) rfl (J_done ?_)
      refine S_ret (E_inB_ret (E_lp_ret (E_inB_ret (E_inB_ret (E_lp_ret (E_inB_ret (E_done1 rfl rfl E ?_)))))))
      exact graph_e (edge_a (by assumption))
     ·have hto := graph_to (h1 := hi1) (h2 := hi2) (by assumption)
      have htl := Int.not_le.1 (of_decide_eq_false hc5)
      refine S_skip ?_
      refine S_seq ?_
      refine S_reg [true, true, true, true, true, true, true] rfl rfl ?_
      refine J_st (R_fieldAddr0 fl26_0 rfl) rfl (J_st (R_load sc24 rfl (h1.one 0 rfl)) rfl (J_st (R_move rfl) rfl ?_))
      have hi3 : (Int.toNat (((g.nodes[i]'hi1).outs)[k]'hi2)) < g.nodes.length := (by first | assumption | omega | (simp only [List.length_set]; first | assumption | omega) | (simp only [List.getElem_set_self, List.length_set]; first | assumption | omega) | (simp only [setW, setLk, List.length_set]; first | assumption | omega) | (simp; done))
      obtain ⟨_, hr2, ha2⟩ := RdD.get hd1 hi3
      obtain ⟨o3, rfl, hd3⟩ := Node.op hr2
      replace ha2 : At w (sblk o1) (soff o1 + (Int.toNat (((g.nodes[i]'hi1).outs)[k]'hi2)) * 4) [.int .i64 ((g.nodes[(Int.toNat (((g.nodes[i]'hi1).outs)[k]'hi2))]'hi3).kind), .int .i64 ((g.nodes[(Int.toNat (((g.nodes[i]'hi1).outs)[k]'hi2))]'hi3).a), .int .i64 ((g.nodes[(Int.toNat (((g.nodes[i]'hi1).outs)[k]'hi2))]'hi3).b), o3] := ha2
      refine J_st (R_indexZ (i := (Int.toNat (((g.nodes[i]'hi1).outs)[k]'hi2))) sl24 rfl rfl (hd1.ext E).1 (by omega) hi3) rfl (J_st (R_fieldAddr fl42_0 rfl) rfl (J_st (R_load sc3 rfl ((ha2.ext E).one 0 rfl)) rfl (J_st (R_assign rfl) rfl (J_done ?_))))
      refine S_seq ?_
      refine S_reg [true, true, true, true, true, true, true, true, true, true, true, true, true, true, true, true, true, true, true, true, true, true, true, true, true, true] rfl rfl ?_
      refine J_st (R_fieldAddr0 fl42_0 rfl) rfl (J_st (R_load sc3 rfl (h2.one 0 rfl)) rfl (J_st (R_eql rfl rfl) rfl (J_st (R_move rfl) rfl ?_)))
      refine J_cut 22 [(1, .pointer (some ⟨b1, 0, none⟩)), (2, .bool false), (3, .int .i64 ((i : Nat) : Int)), (4, .pointer (some ⟨b2, 0, none⟩)), (6, .int .i64 (((g.nodes[i]'hi1).outs)[k]'hi2)), (7, .int .i64 ((g.nodes[(Int.toNat (((g.nodes[i]'hi1).outs)[k]'hi2))]'hi3).kind)), (26, o1), (27, .int .i64 ((g.nodes.length : Nat) : Int)), (28, .int .i64 ((i : Nat) : Int)), (45, o2), (46, .int .i64 ((((g.nodes[i]'hi1).outs).length : Nat) : Int)), (47, .int .i64 ((k : Nat) : Int)), (48, .bool (decide (((k : Nat) : Int) < ((((g.nodes[i]'hi1).outs).length : Nat) : Int)))), (49, .pointer (some ⟨sblk o2, soff o2 + k * 1, none⟩)), (50, .int .i64 (((g.nodes[i]'hi1).outs)[k]'hi2)), (51, .int .i64 (((g.nodes[i]'hi1).outs)[k]'hi2)), (52, .pointer (some ⟨b1, 0, none⟩)), (53, o1), (54, .int .i64 ((g.nodes.length : Nat) : Int)), (55, .bool (decide (((g.nodes.length : Nat) : Int) ≤ (((g.nodes[i]'hi1).outs)[k]'hi2)))), (56, .pointer (some ⟨b1, 0, none⟩)), (57, o1), (58, .int .i64 (((g.nodes[i]'hi1).outs)[k]'hi2)), (59, .pointer (some ⟨sblk o1, soff o1 + (Int.toNat (((g.nodes[i]'hi1).outs)[k]'hi2)) * 4, none⟩)), (60, .pointer (some ⟨(sblk o1), soff o1 + (Int.toNat (((g.nodes[i]'hi1).outs)[k]'hi2)) * 4 + 0, none⟩)), (61, .int .i64 ((g.nodes[(Int.toNat (((g.nodes[i]'hi1).outs)[k]'hi2))]'hi3).kind)), (87, .bool (((((g.nodes[i]'hi1).kind) == 7) && ((decide (((i : Nat) : Int) < (((g.nodes[i]'hi1).outs)[k]'hi2))) || ((((g.nodes[(Int.toNat (((g.nodes[i]'hi1).outs)[k]'hi2))]'hi3).kind) != 5) && (((g.nodes[(Int.toNat (((g.nodes[i]'hi1).outs)[k]'hi2))]'hi3).kind) != 6)))) || ((((g.nodes[i]'hi1).kind) != 7) && (decide ((((g.nodes[i]'hi1).outs)[k]'hi2) ≤ ((i : Nat) : Int))))))] (fun w' => w11 = w') ?_ ?_
      ·refine J_if (gd := 65) rfl rfl (fun hg4 => ?_) (fun hg4 => ?_)
       ·refine J_gd rfl rfl (R_move rfl) rfl (J_gd rfl rfl (R_move rfl) rfl (J_gd rfl rfl (R_gtr rfl rfl) rfl (J_gd rfl rfl (R_move rfl) rfl ?_)))
        refine J_if (gd := 69) rfl rfl (fun hg5 => ?_) (fun hg5 => ?_)
        ·refine J_gdno rfl rfl rfl rfl (J_gdno rfl rfl rfl rfl (J_gdno rfl rfl rfl rfl (J_gdx rfl rfl rfl (J_gdx rfl rfl rfl (J_gdno rfl rfl rfl rfl (J_gd rfl rfl (R_pickT rfl rfl) rfl (J_st (R_pickT rfl rfl) rfl (J_st (R_move rfl) rfl (J_gdno rfl rfl rfl rfl (J_gdno rfl rfl rfl rfl (J_gdno rfl rfl rfl rfl (J_gdno rfl rfl rfl rfl (J_gdx rfl rfl rfl (J_gdx rfl rfl rfl (J_gdx rfl rfl rfl (J_gdno rfl rfl rfl rfl (J_st (R_pickT rfl rfl) rfl (J_cutEnd ⟨rfl, rfl, rfl, rfl, rfl, rfl, rfl, rfl, rfl, rfl, rfl, rfl, rfl, rfl, rfl, rfl, rfl, rfl, rfl, rfl, rfl, rfl, rfl, rfl, rfl, rfl, congrArg (fun b => some (Value.bool b)) (show true = (((((g.nodes[i]'hi1).kind) == 7) && ((decide (((i : Nat) : Int) < (((g.nodes[i]'hi1).outs)[k]'hi2))) || ((((g.nodes[(Int.toNat (((g.nodes[i]'hi1).outs)[k]'hi2))]'hi3).kind) != 5) && (((g.nodes[(Int.toNat (((g.nodes[i]'hi1).outs)[k]'hi2))]'hi3).kind) != 6)))) || ((((g.nodes[i]'hi1).kind) != 7) && (decide ((((g.nodes[i]'hi1).outs)[k]'hi2) ≤ ((i : Nat) : Int))))) by first | (rw [hg4, hg5] <;> rfl) | (simp [hg4, hg5]; done) | (simp only [nat_nlt] <;> simp)), trivial⟩ rfl))))))))))))))))))
        ·refine J_gd rfl rfl (R_move rfl) rfl (J_gd rfl rfl (R_neq rfl rfl) rfl (J_gd rfl rfl (R_move rfl) rfl ?_))
         refine J_if (gd := 72) rfl rfl (fun hg6 => ?_) (fun hg6 => ?_)
         ·refine J_gd rfl rfl (R_move rfl) rfl (J_gd rfl rfl (R_neq rfl rfl) rfl (J_gd rfl rfl (R_pickT rfl rfl) rfl (J_gd rfl rfl (R_pickF rfl rfl) rfl (J_st (R_pickT rfl rfl) rfl (J_st (R_move rfl) rfl ?_)))))
          refine J_if (gd := 78) rfl rfl (fun hg7 => ?_) (fun hg7 => ?_)
          ·refine J_gdno rfl rfl rfl rfl (J_gdno rfl rfl rfl rfl (J_gdno rfl rfl rfl rfl (J_gdno rfl rfl rfl rfl (J_gdx rfl rfl rfl (J_gdx rfl rfl rfl (J_gdx rfl rfl rfl (J_gdno rfl rfl rfl rfl (J_st (R_pickT rfl rfl) rfl (J_cutEnd ⟨rfl, rfl, rfl, rfl, rfl, rfl, rfl, rfl, rfl, rfl, rfl, rfl, rfl, rfl, rfl, rfl, rfl, rfl, rfl, rfl, rfl, rfl, rfl, rfl, rfl, rfl, congrArg (fun b => some (Value.bool b)) (show true = (((((g.nodes[i]'hi1).kind) == 7) && ((decide (((i : Nat) : Int) < (((g.nodes[i]'hi1).outs)[k]'hi2))) || ((((g.nodes[(Int.toNat (((g.nodes[i]'hi1).outs)[k]'hi2))]'hi3).kind) != 5) && (((g.nodes[(Int.toNat (((g.nodes[i]'hi1).outs)[k]'hi2))]'hi3).kind) != 6)))) || ((((g.nodes[i]'hi1).kind) != 7) && (decide ((((g.nodes[i]'hi1).outs)[k]'hi2) ≤ ((i : Nat) : Int))))) by first | (rw [hg4, hg5, hg6, hg7] <;> rfl) | (simp [hg4, hg5, hg6, hg7]; done) | (simp only [nat_nlt] <;> simp)), trivial⟩ rfl)))))))))
          ·refine J_gd rfl rfl (R_fieldAddr0 fl42_0 rfl) rfl (J_gd rfl rfl (R_load sc3 rfl (h2.one 0 rfl)) rfl (J_gd rfl rfl (R_neq rfl rfl) rfl (J_gd rfl rfl (R_move rfl) rfl ?_)))
           refine J_if (gd := 82) rfl rfl (fun hg8 => ?_) (fun hg8 => ?_)
           ·refine J_gd rfl rfl (R_move rfl) rfl (J_gd rfl rfl (R_move rfl) rfl (J_gd rfl rfl (R_leq rfl rfl) rfl (J_gd rfl rfl (R_pickT rfl rfl) rfl (J_st (R_pickF rfl rfl) rfl (J_cutEnd ⟨rfl, rfl, rfl, rfl, rfl, rfl, rfl, rfl, rfl, rfl, rfl, rfl, rfl, rfl, rfl, rfl, rfl, rfl, rfl, rfl, rfl, rfl, rfl, rfl, rfl, rfl, congrArg (fun b => some (Value.bool b)) (show (decide ((((g.nodes[i]'hi1).outs)[k]'hi2) ≤ ((i : Nat) : Int))) = (((((g.nodes[i]'hi1).kind) == 7) && ((decide (((i : Nat) : Int) < (((g.nodes[i]'hi1).outs)[k]'hi2))) || ((((g.nodes[(Int.toNat (((g.nodes[i]'hi1).outs)[k]'hi2))]'hi3).kind) != 5) && (((g.nodes[(Int.toNat (((g.nodes[i]'hi1).outs)[k]'hi2))]'hi3).kind) != 6)))) || ((((g.nodes[i]'hi1).kind) != 7) && (decide ((((g.nodes[i]'hi1).outs)[k]'hi2) ≤ ((i : Nat) : Int))))) by first | (rw [hg4, hg5, hg6, hg7, hg8] <;> rfl) | (simp [hg4, hg5, hg6, hg7, hg8]; done) | (simp only [nat_nlt] <;> simp)), trivial⟩ rfl)))))
           ·refine J_gdno rfl rfl rfl rfl (J_gdno rfl rfl rfl rfl (J_gdno rfl rfl rfl rfl (J_gd rfl rfl (R_pickF rfl rfl) rfl (J_st (R_pickF rfl rfl) rfl (J_cutEnd ⟨rfl, rfl, rfl, rfl, rfl, rfl, rfl, rfl, rfl, rfl, rfl, rfl, rfl, rfl, rfl, rfl, rfl, rfl, rfl, rfl, rfl, rfl, rfl, rfl, rfl, rfl, congrArg (fun b => some (Value.bool b)) (show false = (((((g.nodes[i]'hi1).kind) == 7) && ((decide (((i : Nat) : Int) < (((g.nodes[i]'hi1).outs)[k]'hi2))) || ((((g.nodes[(Int.toNat (((g.nodes[i]'hi1).outs)[k]'hi2))]'hi3).kind) != 5) && (((g.nodes[(Int.toNat (((g.nodes[i]'hi1).outs)[k]'hi2))]'hi3).kind) != 6)))) || ((((g.nodes[i]'hi1).kind) != 7) && (decide ((((g.nodes[i]'hi1).outs)[k]'hi2) ≤ ((i : Nat) : Int))))) by first | (rw [hg4, hg5, hg6, hg7, hg8] <;> rfl) | (simp [hg4, hg5, hg6, hg7, hg8]; done) | (simp only [nat_nlt] <;> simp)), trivial⟩ rfl)))))
         ·refine J_gdno rfl rfl rfl rfl (J_gdno rfl rfl rfl rfl (J_gd rfl rfl (R_pickF rfl rfl) rfl (J_gd rfl rfl (R_pickF rfl rfl) rfl (J_st (R_pickT rfl rfl) rfl (J_st (R_move rfl) rfl (J_gd rfl rfl (R_fieldAddr0 fl42_0 rfl) rfl (J_gd rfl rfl (R_load sc3 rfl (h2.one 0 rfl)) rfl (J_gd rfl rfl (R_neq rfl rfl) rfl (J_gd rfl rfl (R_move rfl) rfl ?_)))))))))
          refine J_if (gd := 82) rfl rfl (fun hg9 => ?_) (fun hg9 => ?_)
          ·refine J_gd rfl rfl (R_move rfl) rfl (J_gd rfl rfl (R_move rfl) rfl (J_gd rfl rfl (R_leq rfl rfl) rfl (J_gd rfl rfl (R_pickT rfl rfl) rfl (J_st (R_pickF rfl rfl) rfl (J_cutEnd ⟨rfl, rfl, rfl, rfl, rfl, rfl, rfl, rfl, rfl, rfl, rfl, rfl, rfl, rfl, rfl, rfl, rfl, rfl, rfl, rfl, rfl, rfl, rfl, rfl, rfl, rfl, congrArg (fun b => some (Value.bool b)) (show (decide ((((g.nodes[i]'hi1).outs)[k]'hi2) ≤ ((i : Nat) : Int))) = (((((g.nodes[i]'hi1).kind) == 7) && ((decide (((i : Nat) : Int) < (((g.nodes[i]'hi1).outs)[k]'hi2))) || ((((g.nodes[(Int.toNat (((g.nodes[i]'hi1).outs)[k]'hi2))]'hi3).kind) != 5) && (((g.nodes[(Int.toNat (((g.nodes[i]'hi1).outs)[k]'hi2))]'hi3).kind) != 6)))) || ((((g.nodes[i]'hi1).kind) != 7) && (decide ((((g.nodes[i]'hi1).outs)[k]'hi2) ≤ ((i : Nat) : Int))))) by first | (rw [hg4, hg5, hg6, hg9] <;> rfl) | (simp [hg4, hg5, hg6, hg9]; done) | (simp only [nat_nlt] <;> simp)), trivial⟩ rfl)))))
          ·refine J_gdno rfl rfl rfl rfl (J_gdno rfl rfl rfl rfl (J_gdno rfl rfl rfl rfl (J_gd rfl rfl (R_pickF rfl rfl) rfl (J_st (R_pickF rfl rfl) rfl (J_cutEnd ⟨rfl, rfl, rfl, rfl, rfl, rfl, rfl, rfl, rfl, rfl, rfl, rfl, rfl, rfl, rfl, rfl, rfl, rfl, rfl, rfl, rfl, rfl, rfl, rfl, rfl, rfl, congrArg (fun b => some (Value.bool b)) (show false = (((((g.nodes[i]'hi1).kind) == 7) && ((decide (((i : Nat) : Int) < (((g.nodes[i]'hi1).outs)[k]'hi2))) || ((((g.nodes[(Int.toNat (((g.nodes[i]'hi1).outs)[k]'hi2))]'hi3).kind) != 5) && (((g.nodes[(Int.toNat (((g.nodes[i]'hi1).outs)[k]'hi2))]'hi3).kind) != 6)))) || ((((g.nodes[i]'hi1).kind) != 7) && (decide ((((g.nodes[i]'hi1).outs)[k]'hi2) ≤ ((i : Nat) : Int))))) by first | (rw [hg4, hg5, hg6, hg9] <;> rfl) | (simp [hg4, hg5, hg6, hg9]; done) | (simp only [nat_nlt] <;> simp)), trivial⟩ rfl)))))
       ·refine J_gdno rfl rfl rfl rfl (J_gdno rfl rfl rfl rfl (J_gdno rfl rfl rfl rfl (J_gdno rfl rfl rfl rfl (J_gdx rfl rfl rfl (J_gdx rfl rfl rfl (J_gdx rfl rfl rfl (J_gdx rfl rfl rfl (J_gdx rfl rfl rfl (J_gdx rfl rfl rfl (J_gdno rfl rfl rfl rfl (J_st (R_pickF rfl rfl) rfl (J_st (R_move rfl) rfl (J_gd rfl rfl (R_fieldAddr0 fl42_0 rfl) rfl (J_gd rfl rfl (R_load sc3 rfl (h2.one 0 rfl)) rfl (J_gd rfl rfl (R_neq rfl rfl) rfl (J_gd rfl rfl (R_move rfl) rfl ?_))))))))))))))))
        refine J_if (gd := 82) rfl rfl (fun hg10 => ?_) (fun hg10 => ?_)
        ·refine J_gd rfl rfl (R_move rfl) rfl (J_gd rfl rfl (R_move rfl) rfl (J_gd rfl rfl (R_leq rfl rfl) rfl (J_gd rfl rfl (R_pickT rfl rfl) rfl (J_st (R_pickF rfl rfl) rfl (J_cutEnd ⟨rfl, rfl, rfl, rfl, rfl, rfl, rfl, rfl, rfl, rfl, rfl, rfl, rfl, rfl, rfl, rfl, rfl, rfl, rfl, rfl, rfl, rfl, rfl, rfl, rfl, rfl, congrArg (fun b => some (Value.bool b)) (show (decide ((((g.nodes[i]'hi1).outs)[k]'hi2) ≤ ((i : Nat) : Int))) = (((((g.nodes[i]'hi1).kind) == 7) && ((decide (((i : Nat) : Int) < (((g.nodes[i]'hi1).outs)[k]'hi2))) || ((((g.nodes[(Int.toNat (((g.nodes[i]'hi1).outs)[k]'hi2))]'hi3).kind) != 5) && (((g.nodes[(Int.toNat (((g.nodes[i]'hi1).outs)[k]'hi2))]'hi3).kind) != 6)))) || ((((g.nodes[i]'hi1).kind) != 7) && (decide ((((g.nodes[i]'hi1).outs)[k]'hi2) ≤ ((i : Nat) : Int))))) by first | (rw [hg4, hg10] <;> rfl) | (simp [hg4, hg10]; done) | (simp only [nat_nlt] <;> simp)), trivial⟩ rfl)))))
        ·refine J_gdno rfl rfl rfl rfl (J_gdno rfl rfl rfl rfl (J_gdno rfl rfl rfl rfl (J_gd rfl rfl (R_pickF rfl rfl) rfl (J_st (R_pickF rfl rfl) rfl (J_cutEnd ⟨rfl, rfl, rfl, rfl, rfl, rfl, rfl, rfl, rfl, rfl, rfl, rfl, rfl, rfl, rfl, rfl, rfl, rfl, rfl, rfl, rfl, rfl, rfl, rfl, rfl, rfl, congrArg (fun b => some (Value.bool b)) (show false = (((((g.nodes[i]'hi1).kind) == 7) && ((decide (((i : Nat) : Int) < (((g.nodes[i]'hi1).outs)[k]'hi2))) || ((((g.nodes[(Int.toNat (((g.nodes[i]'hi1).outs)[k]'hi2))]'hi3).kind) != 5) && (((g.nodes[(Int.toNat (((g.nodes[i]'hi1).outs)[k]'hi2))]'hi3).kind) != 6)))) || ((((g.nodes[i]'hi1).kind) != 7) && (decide ((((g.nodes[i]'hi1).outs)[k]'hi2) ≤ ((i : Nat) : Int))))) by first | (rw [hg4, hg10] <;> rfl) | (simp [hg4, hg10]; done) | (simp only [nat_nlt] <;> simp)), trivial⟩ rfl)))))
      rintro _ rfl
      refine J_done ?_
      refine S_cond rfl (fun hc6 => ?_) (fun hc6 => ?_)
      ·refine S_seq ?_
       refine S_reg [true] rfl rfl ?_
       refine J_st (R_assign rfl) rfl (J_done ?_)
       refine S_ret (E_inB_ret (E_lp_ret (E_inB_ret (E_inB_ret (E_lp_ret (E_inB_ret (E_done1 rfl rfl E ?_)))))))
       exact graph_e (edge_b (congrArg Node.kind (getD_at _)).symm (by assumption))
      ·refine S_skip ?_
       refine S_nil (E_inB ?_)
       refine S_reg [true, true] rfl rfl ?_
       refine J_st (R_add rfl rfl (add_one hc4n (hd2.ext E).1.1)) rfl (J_st (R_move rfl) rfl (J_done ?_))
       refine S_nil (E_again (k + 1) (by omega) ⟨rfl, rfl, rfl, rfl, rfl, rfl, rfl, rfl, rfl, rfl, trivial⟩ ⟨E, (by omega), h1, h2, (by omega), all_step hI (by assumption) (edge_n (congrArg Node.kind (getD_at _)).symm (by assumption) (by assumption))⟩)
    ·have hc4n : ¬ k < ((g.nodes[i]'hi1).outs).length := by first | (have h := of_decide_eq_false hc4; omega) | (have h := hc4; simp at h; omega)
     refine S_exit (E_lp_exit (E_inB_exit ?_))
     refine S_nil (E_inB ?_)
     refine S_reg [true, true] rfl rfl ?_
     refine J_st (R_add rfl rfl (add_one hc2n (hd1.ext E).1.1)) rfl (J_st (R_move rfl) rfl (J_done ?_))
     refine S_nil (E_again (i + 1) (by omega) ⟨rfl, rfl, rfl, rfl, rfl, trivial⟩ ⟨E, (by omega), h1, (by omega), graph_s (h1 := hi1) (by assumption) hI (by omega) hp⟩)
  ·have hc2n : ¬ i < g.nodes.length := by first | (have h := of_decide_eq_false hc2; omega) | (have h := hc2; simp at h; omega)
   refine S_exit (E_lp_exit (E_inB_exit ?_))
   refine S_seq ?_
   refine S_reg [true] rfl rfl ?_
   refine J_st (R_assign rfl) rfl (J_done ?_)
   refine S_ret (E_done1 rfl rfl E ?_)
   exact graph_y (by assumption) hp (by omega)

set_option maxHeartbeats 4000000 in
set_option maxRecDepth 20000 in
theorem s_GraphOk (cg : List Value) (g : Graph) (w : World) (hg : Dat.R w 0 w.heap.size cg g) : Ct Try.prog 33 [.agg cg.toArray] w (fun v _ => v = .bool (graphOk g)) := by
 refine ct_of Try.func33 rfl Try.ntmps33 rfl ?_
 obtain ⟨o1, rfl, hd1⟩ := Graph.op hg
 refine S_sub [(0, .agg [o1, .int .i64 g.workers, .int .i64 g.cap].toArray)] ⟨rfl, trivial⟩ ?_
 have E : Ext w w := Ext.refl w
 refine S_seq ?_
 refine S_reg [false, true] rfl rfl ?_
 refine J_box rfl rfl (fun b1 w1 e1 s1 h1 => ?_)
 have g_b1 : w.heap.size ≤ b1 := by have := E.size; omega
 have y_b1 := h1.lt
 replace E := E.trans e1
 have z1 := e1.size
 refine J_st (R_assign rfl) rfl (J_done ?_)
 refine S_seq ?_
 refine S_seq ?_
 refine S_reg [true, true, true, false, true, true, true, true, false, true, true, true, true, true, false, true, true] rfl rfl ?_
 refine J_st (R_fieldAddr0 fl26_0 rfl) rfl (J_st (R_load sc24 rfl (h1.one 0 rfl)) rfl (J_st (R_len Try.underlying24 rfl (hd1.ext E).len) rfl ?_))
 refine J_call Try.call53 rfl (s_l01In ((g.nodes.length : Nat) : Int) 1 8 _ ) rfl (fun _ w2 e2 hv => ?_)
 subst hv
 replace E := E.trans e2; replace h1 := h1.ext e2
 have z2 := e2.size
 refine J_st (R_not rfl) rfl (J_st (R_move rfl) rfl ?_)
 refine J_cut 11 [(0, .agg [o1, .int .i64 g.workers, .int .i64 g.cap].toArray), (1, .pointer (some ⟨b1, 0, none⟩)), (2, .bool false), (24, .bool (((!(win ((g.nodes.length : Nat) : Int) 1 8)) || (!(win g.workers 1 4))) || (!(win g.cap 1 4))))] (fun w' => Ext w w' ∧ w2.heap.size ≤ w'.heap.size ∧ Blk w' b1 ([o1, .int .i64 g.workers, .int .i64 g.cap])) ?_ ?_
 ·refine J_if (gd := 13) rfl rfl (fun hg1 => ?_) (fun hg1 => ?_)
  ·refine J_gdno rfl rfl rfl rfl (J_gdno rfl rfl rfl rfl ?_)
   refine J_ungno rfl rfl rfl rfl ?_
   refine J_gdno rfl rfl rfl rfl (J_st (R_pickT rfl rfl) rfl (J_st (R_move rfl) rfl (J_gdno rfl rfl rfl rfl (J_gdno rfl rfl rfl rfl ?_))))
   refine J_ungno rfl rfl rfl rfl ?_
   refine J_gdno rfl rfl rfl rfl (J_st (R_pickT rfl rfl) rfl (J_cutEnd ⟨rfl, rfl, rfl, congrArg (fun b => some (Value.bool b)) (show true = (((!(win ((g.nodes.length : Nat) : Int) 1 8)) || (!(win g.workers 1 4))) || (!(win g.cap 1 4))) by first | (rw [hg1] <;> rfl) | (simp [hg1]; done) | (simp only [nat_nlt] <;> simp)), trivial⟩ ⟨E, (by omega), h1⟩))
  ·refine J_gd rfl rfl (R_fieldAddr0 fl26_1 rfl) rfl (J_gd rfl rfl (R_load sc3 rfl (h1.one 1 rfl)) rfl ?_)
   refine J_ung rfl rfl ?_
   refine J_call Try.call53 rfl (s_l01In g.workers 1 4 _ ) rfl (fun _ w4 e3 hv => ?_)
   subst hv
   replace E := E.trans e3; replace h1 := h1.ext e3
   have z3 := e3.size
   refine J_gd rfl rfl (R_not rfl) rfl (J_st (R_pickF rfl rfl) rfl (J_st (R_move rfl) rfl ?_))
   refine J_if (gd := 19) rfl rfl (fun hg2 => ?_) (fun hg2 => ?_)
   ·refine J_gdno rfl rfl rfl rfl (J_gdno rfl rfl rfl rfl ?_)
    refine J_ungno rfl rfl rfl rfl ?_
    refine J_gdno rfl rfl rfl rfl (J_st (R_pickT rfl rfl) rfl (J_cutEnd ⟨rfl, rfl, rfl, congrArg (fun b => some (Value.bool b)) (show true = (((!(win ((g.nodes.length : Nat) : Int) 1 8)) || (!(win g.workers 1 4))) || (!(win g.cap 1 4))) by first | (rw [hg1, hg2] <;> rfl) | (simp [hg1, hg2]; done) | (simp only [nat_nlt] <;> simp)), trivial⟩ ⟨E, (by omega), h1⟩))
   ·refine J_gd rfl rfl (R_fieldAddr0 fl26_2 rfl) rfl (J_gd rfl rfl (R_load sc3 rfl (h1.one 2 rfl)) rfl ?_)
    refine J_ung rfl rfl ?_
    refine J_call Try.call53 rfl (s_l01In g.cap 1 4 _ ) rfl (fun _ w5 e4 hv => ?_)
    subst hv
    replace E := E.trans e4; replace h1 := h1.ext e4
    have z4 := e4.size
    refine J_gd rfl rfl (R_not rfl) rfl (J_st (R_pickF rfl rfl) rfl (J_cutEnd ⟨rfl, rfl, rfl, congrArg (fun b => some (Value.bool b)) (show (!(win g.cap 1 4)) = (((!(win ((g.nodes.length : Nat) : Int) 1 8)) || (!(win g.workers 1 4))) || (!(win g.cap 1 4))) by first | (rw [hg1, hg2] <;> rfl) | (simp [hg1, hg2]; done) | (simp only [nat_nlt] <;> simp)), trivial⟩ ⟨E, (by omega), h1⟩))
 clear E h1
 rintro w3 ⟨E, z5, h1⟩
 refine J_done ?_
 refine S_cond rfl (fun hc1 => ?_) (fun hc1 => ?_)
 ·refine S_seq ?_
  refine S_reg [true] rfl rfl ?_
  refine J_st (R_assign rfl) rfl (J_done ?_)
  refine S_ret (E_done1 rfl rfl E ?_)
  exact graph_h (by assumption)
 ·refine S_skip ?_
  refine S_seq ?_
  refine S_seq ?_
  refine S_reg [true] rfl rfl ?_
  refine J_st (R_assign rfl) rfl (J_done ?_)
  refine S_block ?_
  refine S_loop (fun (i : Nat) => [(1, .pointer (some ⟨b1, 0, none⟩)), (2, .bool false), (3, .int .i64 ((i : Nat) : Int))]) (fun (i : Nat) w' => Ext w w' ∧ w3.heap.size ≤ w'.heap.size ∧ Blk w' b1 ([o1, .int .i64 g.workers, .int .i64 g.cap]) ∧ i ≤ g.nodes.length ∧ (∀ j, j < i → nodeAtOk g j (List.getD g.nodes j default) = true)) (fun (i : Nat) => g.nodes.length - i) 0 ⟨rfl, rfl, rfl, trivial⟩ ⟨E, Nat.le_refl _, h1, Nat.zero_le _, (fun j hj => by omega)⟩ ?_
  clear E h1
  rintro i w6 ⟨E, z6, h1, hle, hp⟩
  refine S_seq ?_
  refine S_seq ?_
  refine S_reg [true, true, true, true, true] rfl rfl ?_
  refine J_st (R_move rfl) rfl (J_st (R_fieldAddr0 fl26_0 rfl) rfl (J_st (R_load sc24 rfl (h1.one 0 rfl)) rfl (J_st (R_len Try.underlying24 rfl (hd1.ext E).len) rfl (J_st (R_lss rfl rfl) rfl (J_done ?_)))))
  refine S_cond rfl (fun hc2 => ?_) (fun hc2 => ?_)
  ·have hc2n : i < g.nodes.length := by first | (have h := of_decide_eq_true hc2; omega) | (have h := hc2; simp at h; omega)
   refine S_skip ?_
   refine S_seq ?_
   refine S_block ?_
   refine S_seq ?_
   refine S_reg [true, true, true, true, true, false, false] rfl rfl ?_
   refine J_st (R_fieldAddr0 fl26_0 rfl) rfl (J_st (R_load sc24 rfl (h1.one 0 rfl)) rfl (J_st (R_move rfl) rfl ?_))
   have hi1 : i < g.nodes.length := (by first | assumption | omega | (simp only [List.length_set]; first | assumption | omega) | (simp only [List.getElem_set_self, List.length_set]; first | assumption | omega) | (simp only [setW, setLk, List.length_set]; first | assumption | omega) | (simp; done))
   obtain ⟨_, hr1, ha1⟩ := RdD.get hd1 hi1
   obtain ⟨o2, rfl, hd2⟩ := Node.op hr1
   replace ha1 : At w (sblk o1) (soff o1 + i * 4) [.int .i64 ((g.nodes[i]'hi1).kind), .int .i64 ((g.nodes[i]'hi1).a), .int .i64 ((g.nodes[i]'hi1).b), o2] := ha1
   refine J_st (R_index (i := i) sl24 rfl rfl (hd1.ext E).1 hi1) rfl (J_st (R_loadS st42 rfl (ha1.ext E) rfl) rfl ?_)
   refine J_alloc st42 rfl (fun b2 w7 e5 s2 h2 => ?_)
   have g_b2 : w.heap.size ≤ b2 := by have := E.size; omega
   have y_b2 := h2.lt
   replace E := E.trans e5; replace h1 := h1.ext e5
   have z7 := e5.size
   refine J_storeS' (cs' := [.int .i64 ((g.nodes[i]'hi1).kind), .int .i64 ((g.nodes[i]'hi1).a), .int .i64 ((g.nodes[i]'hi1).b), o2]) st42 rfl rfl rfl (all_cons rfl (all_cons rfl (all_cons rfl (all_cons (RdD.one (hd2.ext E)) rfl)))) h2 (Nat.le_of_ble_eq_true rfl) rfl (fun w8 m1 h2' => ?_)
   replace h2 := h2'
   replace E := E.step m1 (fun g hg => by cases hg; omega); replace h1 := h1.mod m1 (fun g hg => by cases hg; omega)
   have z8 := m1.size
   refine J_done ?_
   refine S_seq ?_
   refine S_seq ?_
   refine S_reg [true, false, true, true, true, true, true, true, true, true, true] rfl rfl ?_
   refine J_st (R_loadS st42 rfl h2.at rfl) rfl ?_
   refine J_call Try.call69 rfl (s_NodeOk [.int .i64 ((g.nodes[i]'hi1).kind), .int .i64 ((g.nodes[i]'hi1).a), .int .i64 ((g.nodes[i]'hi1).b), o2] (g.nodes[i]'hi1) _ (Node.mkR (g.nodes[i]'hi1) (RdD.any (hd2.ext E)))) rfl (fun _ w9 e6 hv => ?_)
   subst hv
   replace E := E.trans e6; replace h1 := h1.ext e6; replace h2 := h2.ext e6
   have z9 := e6.size
   refine J_st (R_not rfl) rfl (J_st (R_move rfl) rfl ?_)
   refine J_cut 7 [(1, .pointer (some ⟨b1, 0, none⟩)), (2, .bool false), (3, .int .i64 ((i : Nat) : Int)), (4, .pointer (some ⟨b2, 0, none⟩)), (25, .int .i64 ((i : Nat) : Int)), (26, .pointer (some ⟨b1, 0, none⟩)), (27, o1), (28, .int .i64 ((g.nodes.length : Nat) : Int)), (29, .bool (decide (((i : Nat) : Int) < ((g.nodes.length : Nat) : Int)))), (32, .pointer (some ⟨b1, 0, none⟩)), (33, o1), (34, .int .i64 ((i : Nat) : Int)), (35, .pointer (some ⟨sblk o1, soff o1 + i * 4, none⟩)), (36, .agg [.int .i64 ((g.nodes[i]'hi1).kind), .int .i64 ((g.nodes[i]'hi1).a), .int .i64 ((g.nodes[i]'hi1).b), o2].toArray), (47, .bool ((!(nodeOk (g.nodes[i]'hi1))) || (!((((g.nodes[i]'hi1).kind) == 1) == (((i : Nat) : Int) == 0)))))] (fun w' => w9 = w') ?_ ?_
   ·refine J_if (gd := 40) rfl rfl (fun hg3 => ?_) (fun hg3 => ?_)
    ·refine J_gdno rfl rfl rfl rfl (J_gdno rfl rfl rfl rfl (J_gdno rfl rfl rfl rfl (J_gdno rfl rfl rfl rfl (J_gdno rfl rfl rfl rfl (J_gdno rfl rfl rfl rfl (J_st (R_pickT rfl rfl) rfl (J_cutEnd ⟨rfl, rfl, rfl, rfl, rfl, rfl, rfl, rfl, rfl, rfl, rfl, rfl, rfl, rfl, congrArg (fun b => some (Value.bool b)) (show true = ((!(nodeOk (g.nodes[i]'hi1))) || (!((((g.nodes[i]'hi1).kind) == 1) == (((i : Nat) : Int) == 0)))) by first | (rw [hg3] <;> rfl) | (simp [hg3]; done) | (simp only [nat_nlt] <;> simp)), trivial⟩ rfl)))))))
    ·refine J_gd rfl rfl (R_fieldAddr0 fl42_0 rfl) rfl (J_gd rfl rfl (R_load sc3 rfl (h2.one 0 rfl)) rfl (J_gd rfl rfl (R_eql rfl rfl) rfl (J_gd rfl rfl (R_move rfl) rfl (J_gd rfl rfl (R_eql rfl rfl) rfl (J_gd rfl rfl (R_neqB (Try.underlying4) rfl rfl) rfl (J_st (R_pickF rfl rfl) rfl (J_cutEnd ⟨rfl, rfl, rfl, rfl, rfl, rfl, rfl, rfl, rfl, rfl, rfl, rfl, rfl, rfl, congrArg (fun b => some (Value.bool b)) (show (!((((g.nodes[i]'hi1).kind) == 1) == (((i : Nat) : Int) == 0))) = ((!(nodeOk (g.nodes[i]'hi1))) || (!((((g.nodes[i]'hi1).kind) == 1) == (((i : Nat) : Int) == 0)))) by first | (rw [hg3] <;> rfl) | (simp [hg3]; done) | (simp only [nat_nlt] <;> simp)), trivial⟩ rfl)))))))
   rintro _ rfl
   refine J_done ?_
   refine S_cond rfl (fun hc3 => ?_) (fun hc3 => ?_)
   ·refine S_seq ?_
    refine S_reg [true] rfl rfl ?_
    refine J_st (R_assign rfl) rfl (J_done ?_)
    refine S_ret (E_inB_ret (E_lp_ret (E_inB_ret (E_done1 rfl rfl E ?_))))
    exact graph_a (by assumption)
   ·refine S_skip ?_
    refine S_seq ?_
    refine S_reg [true] rfl rfl ?_
    refine J_st (R_assign rfl) rfl (J_done ?_)
    refine S_block ?_
    refine S_loop (fun (k : Nat) => [(1, .pointer (some ⟨b1, 0, none⟩)), (2, .bool false), (3, .int .i64 ((i : Nat) : Int)), (4, .pointer (some ⟨b2, 0, none⟩)), (5, .int .i64 ((k : Nat) : Int))]) (fun (k : Nat) w' => Ext w w' ∧ w9.heap.size ≤ w'.heap.size ∧ Blk w' b1 ([o1, .int .i64 g.workers, .int .i64 g.cap]) ∧ Blk w' b2 [.int .i64 ((g.nodes[i]'hi1).kind), .int .i64 ((g.nodes[i]'hi1).a), .int .i64 ((g.nodes[i]'hi1).b), o2] ∧ k ≤ (g.nodes[i]'hi1).outs.length ∧ ((g.nodes[i]'hi1).outs.take k).all (fun to => !edgeBad g i (g.nodes[i]'hi1) to) = true) (fun (k : Nat) => (g.nodes[i]'hi1).outs.length - k) 0 ⟨rfl, rfl, rfl, rfl, rfl, trivial⟩ ⟨E, Nat.le_refl _, h1, h2, Nat.zero_le _, rfl⟩ ?_
    clear E h1 h2
    rintro k w11 ⟨E, z10, h1, h2, hk, hI⟩
    refine S_seq ?_
    refine S_seq ?_
    refine S_reg [true, true, true, true, true] rfl rfl ?_
    refine J_st (R_move rfl) rfl (J_st (R_fieldAddr0 fl42_3 rfl) rfl (J_st (R_load sc40 rfl (h2.one 3 rfl)) rfl (J_st (R_len Try.underlying40 rfl (hd2.ext E).len) rfl (J_st (R_lss rfl rfl) rfl (J_done ?_)))))
    refine S_cond rfl (fun hc4 => ?_) (fun hc4 => ?_)
    ·have hc4n : k < ((g.nodes[i]'hi1).outs).length := by first | (have h := of_decide_eq_true hc4; omega) | (have h := hc4; simp at h; omega)
     refine S_skip ?_
     refine S_seq ?_
     refine S_block ?_
     refine S_seq ?_
     refine S_reg [true, true, true, true, true, true] rfl rfl ?_
     refine J_st (R_fieldAddr0 fl42_3 rfl) rfl (J_st (R_load sc40 rfl (h2.one 3 rfl)) rfl (J_st (R_move rfl) rfl ?_))
     have hi2 : k < ((g.nodes[i]'hi1).outs).length := (by first | assumption | omega | (simp only [List.length_set]; first | assumption | omega) | (simp only [List.getElem_set_self, List.length_set]; first | assumption | omega) | (simp only [setW, setLk, List.length_set]; first | assumption | omega) | (simp; done))
     refine J_st (R_index (i := k) sl40 rfl rfl (hd2.rd.ext E) hi2) rfl (J_st (R_load sc3 rfl (((hd2.rd.ext E).get hi2).one 0 rfl)) rfl (J_st (R_assign rfl) rfl (J_done ?_)))
     refine S_seq ?_
     refine S_seq ?_
     refine S_reg [true, true, true, true, true, true, true, true, true, true, true, true, true, true, true] rfl rfl ?_
     refine J_st (R_move rfl) rfl (J_st (R_fieldAddr0 fl26_0 rfl) rfl (J_st (R_load sc24 rfl (h1.one 0 rfl)) rfl (J_st (R_len Try.underlying24 rfl (hd1.ext E).len) rfl (J_st (R_geq rfl rfl) rfl (J_st (R_move rfl) rfl ?_)))))
     refine J_cut 9 [(1, .pointer (some ⟨b1, 0, none⟩)), (2, .bool false), (3, .int .i64 ((i : Nat) : Int)), (4, .pointer (some ⟨b2, 0, none⟩)), (5, .int .i64 ((k : Nat) : Int)), (6, .int .i64 (((g.nodes[i]'hi1).outs)[k]'hi2)), (48, .int .i64 ((k : Nat) : Int)), (49, .pointer (some ⟨b2, 3, none⟩)), (50, o2), (51, .int .i64 ((((g.nodes[i]'hi1).outs).length : Nat) : Int)), (52, .bool (decide (((k : Nat) : Int) < ((((g.nodes[i]'hi1).outs).length : Nat) : Int)))), (55, .pointer (some ⟨b2, 3, none⟩)), (56, o2), (57, .int .i64 ((k : Nat) : Int)), (58, .pointer (some ⟨sblk o2, soff o2 + k * 1, none⟩)), (59, .int .i64 (((g.nodes[i]'hi1).outs)[k]'hi2)), (74, .bool ((decide (((g.nodes.length : Nat) : Int) ≤ (((g.nodes[i]'hi1).outs)[k]'hi2))) || ((((g.nodes[i]'hi1).kind) != 7) && (decide ((((g.nodes[i]'hi1).outs)[k]'hi2) ≤ ((i : Nat) : Int))))))] (fun w' => w11 = w') ?_ ?_
     ·refine J_if (gd := 65) rfl rfl (fun hg4 => ?_) (fun hg4 => ?_)
      ·refine J_gdno rfl rfl rfl rfl (J_gdno rfl rfl rfl rfl (J_gdno rfl rfl rfl rfl (J_gdno rfl rfl rfl rfl (J_gdx rfl rfl rfl (J_gdx rfl rfl rfl (J_gdx rfl rfl rfl (J_gdno rfl rfl rfl rfl (J_st (R_pickT rfl rfl) rfl (J_cutEnd ⟨rfl, rfl, rfl, rfl, rfl, rfl, rfl, rfl, rfl, rfl, rfl, rfl, rfl, rfl, rfl, rfl, congrArg (fun b => some (Value.bool b)) (show true = ((decide (((g.nodes.length : Nat) : Int) ≤ (((g.nodes[i]'hi1).outs)[k]'hi2))) || ((((g.nodes[i]'hi1).kind) != 7) && (decide ((((g.nodes[i]'hi1).outs)[k]'hi2) ≤ ((i : Nat) : Int))))) by first | (rw [hg4] <;> rfl) | (simp [hg4]; done) | (simp only [nat_nlt] <;> simp)), trivial⟩ rfl)))))))))
      ·have hto := graph_to (h1 := hi1) (h2 := hi2) (by assumption)
       have htl := Int.not_le.1 (of_decide_eq_false hg4)
       refine J_gd rfl rfl (R_fieldAddr0 fl42_0 rfl) rfl (J_gd rfl rfl (R_load sc3 rfl (h2.one 0 rfl)) rfl (J_gd rfl rfl (R_neq rfl rfl) rfl (J_gd rfl rfl (R_move rfl) rfl ?_)))
       refine J_if (gd := 69) rfl rfl (fun hg5 => ?_) (fun hg5 => ?_)
       ·refine J_gd rfl rfl (R_move rfl) rfl (J_gd rfl rfl (R_move rfl) rfl (J_gd rfl rfl (R_leq rfl rfl) rfl (J_gd rfl rfl (R_pickT rfl rfl) rfl (J_st (R_pickF rfl rfl) rfl (J_cutEnd ⟨rfl, rfl, rfl, rfl, rfl, rfl, rfl, rfl, rfl, rfl, rfl, rfl, rfl, rfl, rfl, rfl, congrArg (fun b => some (Value.bool b)) (show (decide ((((g.nodes[i]'hi1).outs)[k]'hi2) ≤ ((i : Nat) : Int))) = ((decide (((g.nodes.length : Nat) : Int) ≤ (((g.nodes[i]'hi1).outs)[k]'hi2))) || ((((g.nodes[i]'hi1).kind) != 7) && (decide ((((g.nodes[i]'hi1).outs)[k]'hi2) ≤ ((i : Nat) : Int))))) by first | (rw [hg4, hg5] <;> rfl) | (simp [hg4, hg5]; done) | (simp only [nat_nlt] <;> simp)), trivial⟩ rfl)))))
       ·refine J_gdno rfl rfl rfl rfl (J_gdno rfl rfl rfl rfl (J_gdno rfl rfl rfl rfl (J_gd rfl rfl (R_pickF rfl rfl) rfl (J_st (R_pickF rfl rfl) rfl (J_cutEnd ⟨rfl, rfl, rfl, rfl, rfl, rfl, rfl, rfl, rfl, rfl, rfl, rfl, rfl, rfl, rfl, rfl, congrArg (fun b => some (Value.bool b)) (show false = ((decide (((g.nodes.length : Nat) : Int) ≤ (((g.nodes[i]'hi1).outs)[k]'hi2))) || ((((g.nodes[i]'hi1).kind) != 7) && (decide ((((g.nodes[i]'hi1).outs)[k]'hi2) ≤ ((i : Nat) : Int))))) by first | (rw [hg4, hg5] <;> rfl) | (simp [hg4, hg5]; done) | (simp only [nat_nlt] <;> simp)), trivial⟩ rfl)))))
     rintro _ rfl
     refine J_done ?_
     refine S_cond rfl (fun hc5 => ?_) (fun hc5 => ?_)
     ·refine S_seq ?_
      refine S_reg [true] rfl rfl ?_
      refine J_st (R_assign rfl) rfl (J_done ?_)
      refine S_ret (E_inB_ret (E_lp_ret (E_inB_ret (E_inB_ret (E_lp_ret (E_inB_ret (E_done1 rfl rfl E ?_)))))))
      exact graph_e (edge_s1 (by assumption))
     ·have hto := graph_to (h1 := hi1) (h2 := hi2) (by assumption)
      have htl := edge_lt hc5
      refine S_skip ?_
      refine S_seq ?_
      refine S_reg [true, true, true, true, true, true, true] rfl rfl ?_
      refine J_st (R_fieldAddr0 fl26_0 rfl) rfl (J_st (R_load sc24 rfl (h1.one 0 rfl)) rfl (J_st (R_move rfl) rfl ?_))
      have hi3 : (Int.toNat (((g.nodes[i]'hi1).outs)[k]'hi2)) < g.nodes.length := (by first | assumption | omega | (simp only [List.length_set]; first | assumption | omega) | (simp only [List.getElem_set_self, List.length_set]; first | assumption | omega) | (simp only [setW, setLk, List.length_set]; first | assumption | omega) | (simp; done))
      obtain ⟨_, hr2, ha2⟩ := RdD.get hd1 hi3
      obtain ⟨o3, rfl, hd3⟩ := Node.op hr2
      replace ha2 : At w (sblk o1) (soff o1 + (Int.toNat (((g.nodes[i]'hi1).outs)[k]'hi2)) * 4) [.int .i64 ((g.nodes[(Int.toNat (((g.nodes[i]'hi1).outs)[k]'hi2))]'hi3).kind), .int .i64 ((g.nodes[(Int.toNat (((g.nodes[i]'hi1).outs)[k]'hi2))]'hi3).a), .int .i64 ((g.nodes[(Int.toNat (((g.nodes[i]'hi1).outs)[k]'hi2))]'hi3).b), o3] := ha2
      refine J_st (R_indexZ (i := (Int.toNat (((g.nodes[i]'hi1).outs)[k]'hi2))) sl24 rfl rfl (hd1.ext E).1 (by omega) hi3) rfl (J_st (R_fieldAddr fl42_0 rfl) rfl (J_st (R_load sc3 rfl ((ha2.ext E).one 0 rfl)) rfl (J_st (R_assign rfl) rfl (J_done ?_))))
      refine S_seq ?_
      refine S_reg [true, true, true, true, true, true, true, true, true, true, true, true, true, true, true, true] rfl rfl ?_
      refine J_st (R_fieldAddr0 fl42_0 rfl) rfl (J_st (R_load sc3 rfl (h2.one 0 rfl)) rfl (J_st (R_eql rfl rfl) rfl (J_st (R_move rfl) rfl ?_)))
      refine J_cut 12 [(1, .pointer (some ⟨b1, 0, none⟩)), (2, .bool false), (3, .int .i64 ((i : Nat) : Int)), (4, .pointer (some ⟨b2, 0, none⟩)), (5, .int .i64 ((k : Nat) : Int)), (6, .int .i64 (((g.nodes[i]'hi1).outs)[k]'hi2)), (7, .int .i64 ((g.nodes[(Int.toNat (((g.nodes[i]'hi1).outs)[k]'hi2))]'hi3).kind)), (48, .int .i64 ((k : Nat) : Int)), (49, .pointer (some ⟨b2, 3, none⟩)), (50, o2), (51, .int .i64 ((((g.nodes[i]'hi1).outs).length : Nat) : Int)), (52, .bool (decide (((k : Nat) : Int) < ((((g.nodes[i]'hi1).outs).length : Nat) : Int)))), (55, .pointer (some ⟨b2, 3, none⟩)), (56, o2), (57, .int .i64 ((k : Nat) : Int)), (58, .pointer (some ⟨sblk o2, soff o2 + k * 1, none⟩)), (59, .int .i64 (((g.nodes[i]'hi1).outs)[k]'hi2)), (74, .bool ((decide (((g.nodes.length : Nat) : Int) ≤ (((g.nodes[i]'hi1).outs)[k]'hi2))) || ((((g.nodes[i]'hi1).kind) != 7) && (decide ((((g.nodes[i]'hi1).outs)[k]'hi2) ≤ ((i : Nat) : Int)))))), (75, .pointer (some ⟨b1, 0, none⟩)), (76, o1), (77, .int .i64 (((g.nodes[i]'hi1).outs)[k]'hi2)), (78, .pointer (some ⟨sblk o1, soff o1 + (Int.toNat (((g.nodes[i]'hi1).outs)[k]'hi2)) * 4, none⟩)), (79, .pointer (some ⟨(sblk o1), soff o1 + (Int.toNat (((g.nodes[i]'hi1).outs)[k]'hi2)) * 4 + 0, none⟩)), (80, .int .i64 ((g.nodes[(Int.toNat (((g.nodes[i]'hi1).outs)[k]'hi2))]'hi3).kind)), (96, .bool ((((g.nodes[i]'hi1).kind) == 7) && ((decide (((i : Nat) : Int) < (((g.nodes[i]'hi1).outs)[k]'hi2))) || ((((g.nodes[(Int.toNat (((g.nodes[i]'hi1).outs)[k]'hi2))]'hi3).kind) != 5) && (((g.nodes[(Int.toNat (((g.nodes[i]'hi1).outs)[k]'hi2))]'hi3).kind) != 6)))))] (fun w' => w11 = w') ?_ ?_
      ·refine J_if (gd := 84) rfl rfl (fun hg6 => ?_) (fun hg6 => ?_)
       ·refine J_gd rfl rfl (R_move rfl) rfl (J_gd rfl rfl (R_move rfl) rfl (J_gd rfl rfl (R_gtr rfl rfl) rfl (J_gd rfl rfl (R_move rfl) rfl ?_)))
        refine J_if (gd := 88) rfl rfl (fun hg7 => ?_) (fun hg7 => ?_)
        ·refine J_gdno rfl rfl rfl rfl (J_gdno rfl rfl rfl rfl (J_gdno rfl rfl rfl rfl (J_gdx rfl rfl rfl (J_gdx rfl rfl rfl (J_gdno rfl rfl rfl rfl (J_gd rfl rfl (R_pickT rfl rfl) rfl (J_st (R_pickT rfl rfl) rfl (J_cutEnd ⟨rfl, rfl, rfl, rfl, rfl, rfl, rfl, rfl, rfl, rfl, rfl, rfl, rfl, rfl, rfl, rfl, rfl, rfl, rfl, rfl, rfl, rfl, rfl, rfl, congrArg (fun b => some (Value.bool b)) (show true = ((((g.nodes[i]'hi1).kind) == 7) && ((decide (((i : Nat) : Int) < (((g.nodes[i]'hi1).outs)[k]'hi2))) || ((((g.nodes[(Int.toNat (((g.nodes[i]'hi1).outs)[k]'hi2))]'hi3).kind) != 5) && (((g.nodes[(Int.toNat (((g.nodes[i]'hi1).outs)[k]'hi2))]'hi3).kind) != 6)))) by first | (rw [hg6, hg7] <;> rfl) | (simp [hg6, hg7]; done) | (simp only [nat_nlt] <;> simp)), trivial⟩ rfl))))))))
        ·refine J_gd rfl rfl (R_move rfl) rfl (J_gd rfl rfl (R_neq rfl rfl) rfl (J_gd rfl rfl (R_move rfl) rfl ?_))
         refine J_if (gd := 91) rfl rfl (fun hg8 => ?_) (fun hg8 => ?_)
         ·refine J_gd rfl rfl (R_move rfl) rfl (J_gd rfl rfl (R_neq rfl rfl) rfl (J_gd rfl rfl (R_pickT rfl rfl) rfl (J_gd rfl rfl (R_pickF rfl rfl) rfl (J_st (R_pickT rfl rfl) rfl (J_cutEnd ⟨rfl, rfl, rfl, rfl, rfl, rfl, rfl, rfl, rfl, rfl, rfl, rfl, rfl, rfl, rfl, rfl, rfl, rfl, rfl, rfl, rfl, rfl, rfl, rfl, congrArg (fun b => some (Value.bool b)) (show (((g.nodes[(Int.toNat (((g.nodes[i]'hi1).outs)[k]'hi2))]'hi3).kind) != 6) = ((((g.nodes[i]'hi1).kind) == 7) && ((decide (((i : Nat) : Int) < (((g.nodes[i]'hi1).outs)[k]'hi2))) || ((((g.nodes[(Int.toNat (((g.nodes[i]'hi1).outs)[k]'hi2))]'hi3).kind) != 5) && (((g.nodes[(Int.toNat (((g.nodes[i]'hi1).outs)[k]'hi2))]'hi3).kind) != 6)))) by first | (rw [hg6, hg7, hg8] <;> rfl) | (simp [hg6, hg7, hg8]; done) | (simp only [nat_nlt] <;> simp)), trivial⟩ rfl)))))
         ·refine J_gdno rfl rfl rfl rfl (J_gdno rfl rfl rfl rfl (J_gd rfl rfl (R_pickF rfl rfl) rfl (J_gd rfl rfl (R_pickF rfl rfl) rfl (J_st (R_pickT rfl rfl) rfl (J_cutEnd ⟨rfl, rfl, rfl, rfl, rfl, rfl, rfl, rfl, rfl, rfl, rfl, rfl, rfl, rfl, rfl, rfl, rfl, rfl, rfl, rfl, rfl, rfl, rfl, rfl, congrArg (fun b => some (Value.bool b)) (show false = ((((g.nodes[i]'hi1).kind) == 7) && ((decide (((i : Nat) : Int) < (((g.nodes[i]'hi1).outs)[k]'hi2))) || ((((g.nodes[(Int.toNat (((g.nodes[i]'hi1).outs)[k]'hi2))]'hi3).kind) != 5) && (((g.nodes[(Int.toNat (((g.nodes[i]'hi1).outs)[k]'hi2))]'hi3).kind) != 6)))) by first | (rw [hg6, hg7, hg8] <;> rfl) | (simp [hg6, hg7, hg8]; done) | (simp only [nat_nlt] <;> simp)), trivial⟩ rfl)))))
       ·refine J_gdno rfl rfl rfl rfl (J_gdno rfl rfl rfl rfl (J_gdno rfl rfl rfl rfl (J_gdno rfl rfl rfl rfl (J_gdx rfl rfl rfl (J_gdx rfl rfl rfl (J_gdx rfl rfl rfl (J_gdx rfl rfl rfl (J_gdx rfl rfl rfl (J_gdx rfl rfl rfl (J_gdno rfl rfl rfl rfl (J_st (R_pickF rfl rfl) rfl (J_cutEnd ⟨rfl, rfl, rfl, rfl, rfl, rfl, rfl, rfl, rfl, rfl, rfl, rfl, rfl, rfl, rfl, rfl, rfl, rfl, rfl, rfl, rfl, rfl, rfl, rfl, congrArg (fun b => some (Value.bool b)) (show false = ((((g.nodes[i]'hi1).kind) == 7) && ((decide (((i : Nat) : Int) < (((g.nodes[i]'hi1).outs)[k]'hi2))) || ((((g.nodes[(Int.toNat (((g.nodes[i]'hi1).outs)[k]'hi2))]'hi3).kind) != 5) && (((g.nodes[(Int.toNat (((g.nodes[i]'hi1).outs)[k]'hi2))]'hi3).kind) != 6)))) by first | (rw [hg6] <;> rfl) | (simp [hg6]; done) | (simp only [nat_nlt] <;> simp)), trivial⟩ rfl))))))))))))
      rintro _ rfl
      refine J_done ?_
      refine S_cond rfl (fun hc6 => ?_) (fun hc6 => ?_)
      ·refine S_seq ?_
       refine S_reg [true] rfl rfl ?_
       refine J_st (R_assign rfl) rfl (J_done ?_)
       refine S_ret (E_inB_ret (E_lp_ret (E_inB_ret (E_inB_ret (E_lp_ret (E_inB_ret (E_done1 rfl rfl E ?_)))))))
       exact graph_e (edge_s2 (congrArg Node.kind (getD_at _)).symm (by assumption))
      ·refine S_skip ?_
       refine S_nil (E_inB ?_)
       refine S_reg [true, true, true] rfl rfl ?_
       refine J_st (R_move rfl) rfl (J_st (R_add rfl rfl (add_one hc4n (hd2.ext E).1.1)) rfl (J_st (R_assign rfl) rfl (J_done ?_)))
       refine S_nil (E_again (k + 1) (by omega) ⟨rfl, rfl, rfl, rfl, rfl, trivial⟩ ⟨E, (by omega), h1, h2, (by omega), all_step hI (by assumption) (edge_sn (congrArg Node.kind (getD_at _)).symm (by assumption) (by assumption))⟩)
    ·have hc4n : ¬ k < ((g.nodes[i]'hi1).outs).length := by first | (have h := of_decide_eq_false hc4; omega) | (have h := hc4; simp at h; omega)
     refine S_exit (E_lp_exit (E_inB_exit ?_))
     refine S_nil (E_inB ?_)
     refine S_reg [true, true, true] rfl rfl ?_
     refine J_st (R_move rfl) rfl (J_st (R_add rfl rfl (add_one hc2n (hd1.ext E).1.1)) rfl (J_st (R_assign rfl) rfl (J_done ?_)))
     refine S_nil (E_again (i + 1) (by omega) ⟨rfl, rfl, rfl, trivial⟩ ⟨E, (by omega), h1, (by omega), graph_s (h1 := hi1) (by assumption) hI (by omega) hp⟩)
  ·have hc2n : ¬ i < g.nodes.length := by first | (have h := of_decide_eq_false hc2; omega) | (have h := hc2; simp at h; omega)
   refine S_exit (E_lp_exit (E_inB_exit ?_))
   refine S_seq ?_
   refine S_reg [true] rfl rfl ?_
   refine J_st (R_assign rfl) rfl (J_done ?_)
   refine S_ret (E_done1 rfl rfl E ?_)
   exact graph_y (by assumption) hp (by omega)

set_option maxRecDepth 20000 in
theorem c_OfEpoch (vxs : Value) (xs : List Record) (e : Int) (w : World) (hxs : RdS w vxs xs) (hb : xs.length ≤ 1048576) : Ct Try.prog 61 [vxs, .int .i64 e] w (fun v w' => Own w' w.heap.size w'.heap.size 5 v (List.flatMap (Enc.enc (α := Record)) (xs.filter (ofE e)))) := by
 refine ct_of Try.func61 rfl Try.ntmps61 rfl ?_
 refine S_sub [(0, vxs), (1, .int .i64 e)] ⟨rfl, rfl, trivial⟩ ?_
 have E : Ext w w := Ext.refl w
 refine S_seq ?_
 refine S_reg [true] rfl rfl ?_
 refine J_st (R_assign rfl) rfl (J_done ?_)
 refine S_seq ?_
 refine S_reg [true] rfl rfl ?_
 refine J_st (R_assign rfl) rfl (J_done ?_)
 refine S_seq ?_
 refine S_seq ?_
 refine S_reg [true, true, true] rfl rfl ?_
 refine J_st (R_move rfl) rfl (J_st (R_len Try.underlying34 rfl (hxs.ext E).len) rfl (J_st (R_move rfl) rfl (J_done ?_)))
 refine S_block ?_
 refine S_loop (fun (xq : Nat × Value) => let ⟨k, vo⟩ := xq; [(1, .int .i64 e), (4, .slice none 0 0), (5, vo), (8, vxs), (9, .int .i64 ((xs.length : Nat) : Int)), (10, .int .i64 ((k : Nat) : Int))]) (fun (xq : Nat × Value) w' => let ⟨k, vo⟩ := xq; Ext w w' ∧ w.heap.size ≤ w'.heap.size ∧ k ≤ xs.length ∧ Own w' w.heap.size w'.heap.size 5 vo (List.flatMap (Enc.enc (α := Record)) ((xs.take k).filter (ofE e)))) (fun (xq : Nat × Value) => let ⟨k, vo⟩ := xq; xs.length - k) (0, .slice none 0 0) ⟨rfl, rfl, rfl, rfl, rfl, rfl, trivial⟩ ⟨E, Nat.le_refl _, Nat.zero_le _, Own.fin (Own.nil w w.heap.size w.heap.size _) (by have := E.size; omega) (by omega) rfl⟩ ?_
 clear E
 rintro ⟨k, vo⟩ w1 ⟨E, z1, hk, ho⟩
 refine S_sub [(1, .int .i64 e), (4, .slice none 0 0), (5, vo), (8, vxs), (9, .int .i64 ((xs.length : Nat) : Int)), (10, .int .i64 ((k : Nat) : Int))] ⟨rfl, rfl, rfl, rfl, rfl, rfl, trivial⟩ ?_
 refine S_seq ?_
 refine S_reg [true] rfl rfl ?_
 refine J_st (R_lss rfl rfl) rfl (J_done ?_)
 refine S_seq ?_
 refine S_cond rfl (fun hc1 => ?_) (fun hc1 => ?_)
 ·have hc1n : k < xs.length := by first | (have h := of_decide_eq_true hc1; omega) | (have h := hc1; simp at h; omega)
  refine S_skip ?_
  refine S_seq ?_
  refine S_block ?_
  refine S_seq ?_
  refine S_reg [true, true, false, false] rfl rfl ?_
  have hi1 : k < xs.length := (by first | assumption | omega | (simp only [List.length_set]; first | assumption | omega) | (simp only [List.getElem_set_self, List.length_set]; first | assumption | omega) | (simp only [setW, setLk, List.length_set]; first | assumption | omega) | (simp; done))
  refine J_st (R_index (i := k) sl34 rfl rfl (hxs.ext E) hi1) rfl (J_st (R_loadS st31 rfl ((hxs.ext E).get hi1) rfl) rfl ?_)
  refine J_alloc st31 rfl (fun b1 w2 e1 s1 h1 => ?_)
  have g_b1 : w.heap.size ≤ b1 := by have := E.size; omega
  have y_b1 := h1.lt
  replace E := E.trans e1; replace ho := ho.ext e1
  have z2 := e1.size
  refine J_storeS' (cs' := [.int .i64 ((xs[k]'hi1).op), .int .i64 (((xs[k]'hi1).stamp).epoch), .int .i64 (((xs[k]'hi1).stamp).turn), .int .i64 ((xs[k]'hi1).key), .int .i64 ((xs[k]'hi1).val)]) st31 rfl rfl rfl rfl h1 (Nat.le_of_ble_eq_true rfl) rfl (fun w3 m1 h1' => ?_)
  replace h1 := h1'
  replace E := E.step m1 (fun g hg => by cases hg; omega); replace ho := ho.mod m1 (fun g hg => by cases hg; omega)
  have z3 := m1.size
  refine J_done ?_
  refine S_seq ?_
  refine S_reg [true, true, true, true, true] rfl rfl ?_
  refine J_st (R_fieldAddr0 fl31_1 rfl) rfl (J_st (R_fieldAddr fl29_0 rfl) rfl (J_st (R_load sc3 rfl (h1.one 1 rfl)) rfl (J_st (R_move rfl) rfl (J_st (R_eql rfl rfl) rfl (J_done ?_)))))
  refine S_cond rfl (fun hc2 => ?_) (fun hc2 => ?_)
  ·refine S_reg [true, true, false, false, true] rfl rfl ?_
   refine J_st (R_move rfl) rfl (J_st (R_loadS st31 rfl h1.at rfl) rfl ?_)
   refine J_buildSlice (vs := [.agg (Enc.enc (xs[k]'hi1)).toArray]) (css := [[.int .i64 ((xs[k]'hi1).op), .int .i64 (((xs[k]'hi1).stamp).epoch), .int .i64 (((xs[k]'hi1).stamp).turn), .int .i64 ((xs[k]'hi1).key), .int .i64 ((xs[k]'hi1).val)]]) sl34 rfl rfl ⟨⟨rfl, rfl⟩, trivial⟩ rfl rfl (fun b2 w4 e2 s2 h2 => ?_)
   replace h2 : Blk w4 b2 [.int .i64 ((xs[k]'hi1).op), .int .i64 (((xs[k]'hi1).stamp).epoch), .int .i64 (((xs[k]'hi1).stamp).turn), .int .i64 ((xs[k]'hi1).key), .int .i64 ((xs[k]'hi1).val)] := h2
   have g_b2 : w.heap.size ≤ b2 := by have := E.size; omega
   have y_b2 := h2.lt
   replace E := E.trans e2; replace ho := ho.ext e2; replace h1 := h1.ext e2
   have z4 := e2.size
   refine J_append sl34 rfl rfl ho (Src.ofBlk h2 rfl) rfl (by have h := filt_len xs (ofE e) k; simp only [show Enc.sz Record = 5 from rfl] at h; simp at h ⊢; omega) (by decide) (by omega) (by omega) rfl rfl (fun v1 w5 m2 ho1 => ?_)
   replace E := E.step m2 (fun g hg => by have := Own.blk ho g hg; omega); replace h1 := h1.mod m2 (fun g hg => by have := Own.blk ho g hg; omega)
   have z5 := m2.size
   refine J_st (R_assign rfl) rfl (J_done ?_)
   refine S_nil (E_inB ?_)
   refine S_reg [true, true] rfl rfl ?_
   refine J_st (R_add rfl rfl (add_one hc1n hxs.1)) rfl (J_st (R_move rfl) rfl (J_done ?_))
   refine S_nil (E_again (k + 1, v1) (by simp; omega) ⟨rfl, rfl, rfl, rfl, rfl, rfl, trivial⟩ ⟨E, (by omega), (by omega), Own.fin ho1 (Nat.le_refl _) (by omega) (filt_yes (by assumption) (by simpa [ofE] using hc2))⟩)
  ·refine S_skip ?_
   refine S_nil (E_inB ?_)
   refine S_reg [true, true] rfl rfl ?_
   refine J_st (R_add rfl rfl (add_one hc1n hxs.1)) rfl (J_st (R_move rfl) rfl (J_done ?_))
   refine S_nil (E_again (k + 1, vo) (by simp; omega) ⟨rfl, rfl, rfl, rfl, rfl, rfl, trivial⟩ ⟨E, (by omega), (by omega), Own.fin ho (Nat.le_refl _) (by omega) (filt_no (by assumption) (by simpa [ofE] using hc2))⟩)
 ·have hc1n : ¬ k < xs.length := by first | (have h := of_decide_eq_false hc1; omega) | (have h := hc1; simp at h; omega)
  refine S_exit (E_lp_exit (E_inB_exit ?_))
  refine S_seq ?_
  refine S_reg [true, true] rfl rfl ?_
  refine J_st (R_move rfl) rfl (J_st (R_assign rfl) rfl (J_done ?_))
  refine S_ret (E_done1 rfl rfl E ?_)
  exact Own.fin ho (by omega) (by omega) (filt_all (by omega))

set_option maxRecDepth 20000 in
theorem c_StampOk (s : Stamp) (w : World)  : Ct Try.prog 74 [.agg (Enc.enc s).toArray] w (fun v _ => v = .bool (stampOk s)) := by
 refine ct_of Try.func74 rfl Try.ntmps74 rfl ?_
 refine S_sub [(0, .agg (Enc.enc s).toArray)] ⟨rfl, trivial⟩ ?_
 have E : Ext w w := Ext.refl w
 refine S_seq ?_
 refine S_reg [false, true] rfl rfl ?_
 refine J_box rfl rfl (fun b1 w1 e1 s1 h1 => ?_)
 have g_b1 : w.heap.size ≤ b1 := by have := E.size; omega
 have y_b1 := h1.lt
 replace E := E.trans e1
 have z1 := e1.size
 refine J_st (R_assign rfl) rfl (J_done ?_)
 refine S_seq ?_
 refine S_reg [true, true, false, true, true, true, false, true, true] rfl rfl ?_
 refine J_st (R_fieldAddr0 fl29_0 rfl) rfl (J_st (R_load sc3 rfl (h1.one 0 rfl)) rfl ?_)
 refine J_call Try.call64 rfl (c_within s.epoch 0 3 _ ) rfl (fun _ w2 e2 hv => ?_)
 subst hv
 replace E := E.trans e2; replace h1 := h1.ext e2
 have z2 := e2.size
 refine J_st (R_move rfl) rfl ?_
 refine J_cut 4 [(0, .agg (Enc.enc s).toArray), (1, .pointer (some ⟨b1, 0, none⟩)), (2, .bool false), (10, .bool ((win s.epoch 0 3) && (win s.turn 0 6)))] (fun w' => Ext w w' ∧ w2.heap.size ≤ w'.heap.size ∧ Blk w' b1 (Enc.enc s)) ?_ ?_
 ·refine J_if (gd := 6) rfl rfl (fun hg1 => ?_) (fun hg1 => ?_)
  ·refine J_gd rfl rfl (R_fieldAddr0 fl29_1 rfl) rfl (J_gd rfl rfl (R_load sc3 rfl (h1.one 1 rfl)) rfl ?_)
   refine J_ung rfl rfl ?_
   refine J_call Try.call64 rfl (c_within s.turn 0 6 _ ) rfl (fun _ w4 e3 hv => ?_)
   subst hv
   replace E := E.trans e3; replace h1 := h1.ext e3
   have z3 := e3.size
   refine J_st (R_pickT rfl rfl) rfl (J_cutEnd ⟨rfl, rfl, rfl, congrArg (fun b => some (Value.bool b)) (show (win s.turn 0 6) = ((win s.epoch 0 3) && (win s.turn 0 6)) by first | (rw [hg1] <;> rfl) | (simp [hg1]; done) | (simp only [nat_nlt] <;> simp)), trivial⟩ ⟨E, (by omega), h1⟩)
  ·refine J_gdno rfl rfl rfl rfl (J_gdno rfl rfl rfl rfl ?_)
   refine J_ungno rfl rfl rfl rfl ?_
   refine J_st (R_pickF rfl rfl) rfl (J_cutEnd ⟨rfl, rfl, rfl, congrArg (fun b => some (Value.bool b)) (show false = ((win s.epoch 0 3) && (win s.turn 0 6)) by first | (rw [hg1] <;> rfl) | (simp [hg1]; done) | (simp only [nat_nlt] <;> simp)), trivial⟩ ⟨E, (by omega), h1⟩)
 clear E h1
 rintro w3 ⟨E, z4, h1⟩
 refine J_st (R_assign rfl) rfl (J_done ?_)
 refine S_ret (E_done1 rfl rfl E ?_)
 rfl

set_option maxRecDepth 20000 in
theorem s_StampOk (s : Stamp) (w : World)  : Ct Try.prog 54 [.agg (Enc.enc s).toArray] w (fun v _ => v = .bool (stampOk s)) := by
 refine ct_of Try.func54 rfl Try.ntmps54 rfl ?_
 refine S_sub [(0, .agg (Enc.enc s).toArray)] ⟨rfl, trivial⟩ ?_
 have E : Ext w w := Ext.refl w
 refine S_seq ?_
 refine S_reg [false, true] rfl rfl ?_
 refine J_box rfl rfl (fun b1 w1 e1 s1 h1 => ?_)
 have g_b1 : w.heap.size ≤ b1 := by have := E.size; omega
 have y_b1 := h1.lt
 replace E := E.trans e1
 have z1 := e1.size
 refine J_st (R_assign rfl) rfl (J_done ?_)
 refine S_seq ?_
 refine S_reg [true, true, false, true, true, true, false, true, true] rfl rfl ?_
 refine J_st (R_fieldAddr0 fl29_0 rfl) rfl (J_st (R_load sc3 rfl (h1.one 0 rfl)) rfl ?_)
 refine J_call Try.call53 rfl (s_l01In s.epoch 0 3 _ ) rfl (fun _ w2 e2 hv => ?_)
 subst hv
 replace E := E.trans e2; replace h1 := h1.ext e2
 have z2 := e2.size
 refine J_st (R_move rfl) rfl ?_
 refine J_cut 4 [(0, .agg (Enc.enc s).toArray), (1, .pointer (some ⟨b1, 0, none⟩)), (2, .bool false), (10, .bool ((win s.epoch 0 3) && (win s.turn 0 6)))] (fun w' => Ext w w' ∧ w2.heap.size ≤ w'.heap.size ∧ Blk w' b1 (Enc.enc s)) ?_ ?_
 ·refine J_if (gd := 6) rfl rfl (fun hg1 => ?_) (fun hg1 => ?_)
  ·refine J_gd rfl rfl (R_fieldAddr0 fl29_1 rfl) rfl (J_gd rfl rfl (R_load sc3 rfl (h1.one 1 rfl)) rfl ?_)
   refine J_ung rfl rfl ?_
   refine J_call Try.call53 rfl (s_l01In s.turn 0 6 _ ) rfl (fun _ w4 e3 hv => ?_)
   subst hv
   replace E := E.trans e3; replace h1 := h1.ext e3
   have z3 := e3.size
   refine J_st (R_pickT rfl rfl) rfl (J_cutEnd ⟨rfl, rfl, rfl, congrArg (fun b => some (Value.bool b)) (show (win s.turn 0 6) = ((win s.epoch 0 3) && (win s.turn 0 6)) by first | (rw [hg1] <;> rfl) | (simp [hg1]; done) | (simp only [nat_nlt] <;> simp)), trivial⟩ ⟨E, (by omega), h1⟩)
  ·refine J_gdno rfl rfl rfl rfl (J_gdno rfl rfl rfl rfl ?_)
   refine J_ungno rfl rfl rfl rfl ?_
   refine J_st (R_pickF rfl rfl) rfl (J_cutEnd ⟨rfl, rfl, rfl, congrArg (fun b => some (Value.bool b)) (show false = ((win s.epoch 0 3) && (win s.turn 0 6)) by first | (rw [hg1] <;> rfl) | (simp [hg1]; done) | (simp only [nat_nlt] <;> simp)), trivial⟩ ⟨E, (by omega), h1⟩)
 clear E h1
 rintro w3 ⟨E, z4, h1⟩
 refine J_st (R_assign rfl) rfl (J_done ?_)
 refine S_ret (E_done1 rfl rfl E ?_)
 rfl

set_option maxRecDepth 20000 in
theorem c_itemOk (a : Int) (b : Int) (w : World)  : Ct Try.prog 65 [.int .i64 a, .int .i64 b] w (fun v _ => v = .bool (win a 0 99 && win b 0 999)) := by
 refine ct_of Try.func65 rfl Try.ntmps65 rfl ?_
 refine S_sub [(0, .int .i64 a), (1, .int .i64 b)] ⟨rfl, rfl, trivial⟩ ?_
 have E : Ext w w := Ext.refl w
 refine S_seq ?_
 refine S_reg [true] rfl rfl ?_
 refine J_st (R_assign rfl) rfl (J_done ?_)
 refine S_seq ?_
 refine S_reg [true, false, true, true, false, true, true] rfl rfl ?_
 refine J_st (R_move rfl) rfl ?_
 refine J_call Try.call64 rfl (c_within a 0 99 _ ) rfl (fun _ w1 e1 hv => ?_)
 subst hv
 replace E := E.trans e1
 have z1 := e1.size
 refine J_st (R_move rfl) rfl ?_
 refine J_cut 3 [(0, .int .i64 a), (1, .int .i64 b), (4, .bool false), (10, .bool ((win a 0 99) && (win b 0 999)))] (fun w' => Ext w w' ∧ w1.heap.size ≤ w'.heap.size) ?_ ?_
 ·refine J_if (gd := 7) rfl rfl (fun hg1 => ?_) (fun hg1 => ?_)
  ·refine J_gd rfl rfl (R_move rfl) rfl ?_
   refine J_ung rfl rfl ?_
   refine J_call Try.call64 rfl (c_within b 0 999 _ ) rfl (fun _ w3 e2 hv => ?_)
   subst hv
   replace E := E.trans e2
   have z2 := e2.size
   refine J_st (R_pickT rfl rfl) rfl (J_cutEnd ⟨rfl, rfl, rfl, congrArg (fun b => some (Value.bool b)) (show (win b 0 999) = ((win a 0 99) && (win b 0 999)) by first | (rw [hg1] <;> rfl) | (simp [hg1]; done) | (simp only [nat_nlt] <;> simp)), trivial⟩ ⟨E, (by omega)⟩)
  ·refine J_gdno rfl rfl rfl rfl ?_
   refine J_ungno rfl rfl rfl rfl ?_
   refine J_st (R_pickF rfl rfl) rfl (J_cutEnd ⟨rfl, rfl, rfl, congrArg (fun b => some (Value.bool b)) (show false = ((win a 0 99) && (win b 0 999)) by first | (rw [hg1] <;> rfl) | (simp [hg1]; done) | (simp only [nat_nlt] <;> simp)), trivial⟩ ⟨E, (by omega)⟩)
 clear E
 rintro w2 ⟨E, z3⟩
 refine J_st (R_assign rfl) rfl (J_done ?_)
 refine S_ret (E_done1 rfl rfl E ?_)
 rfl

set_option maxRecDepth 20000 in
theorem c_RecordOk (r : Record) (w : World)  : Ct Try.prog 42 [.agg (Enc.enc r).toArray] w (fun v _ => v = .bool (recordOk r)) := by
 refine ct_of Try.func42 rfl Try.ntmps42 rfl ?_
 refine S_sub [(0, .agg (Enc.enc r).toArray)] ⟨rfl, trivial⟩ ?_
 have E : Ext w w := Ext.refl w
 refine S_seq ?_
 refine S_reg [false, true] rfl rfl ?_
 refine J_box rfl rfl (fun b1 w1 e1 s1 h1 => ?_)
 have g_b1 : w.heap.size ≤ b1 := by have := E.size; omega
 have y_b1 := h1.lt
 replace E := E.trans e1
 have z1 := e1.size
 refine J_st (R_assign rfl) rfl (J_done ?_)
 refine S_seq ?_
 refine S_reg [true, true, false, true, true, true, false, true, true, true, true, true, true, false, true, true] rfl rfl ?_
 refine J_st (R_fieldAddr0 fl31_0 rfl) rfl (J_st (R_load sc3 rfl (h1.one 0 rfl)) rfl ?_)
 refine J_call Try.call64 rfl (c_within r.op 0 7 _ ) rfl (fun _ w2 e2 hv => ?_)
 subst hv
 replace E := E.trans e2; replace h1 := h1.ext e2
 have z2 := e2.size
 refine J_st (R_move rfl) rfl ?_
 refine J_cut 11 [(0, .agg (Enc.enc r).toArray), (1, .pointer (some ⟨b1, 0, none⟩)), (2, .bool false), (17, .bool (((win r.op 0 7) && (stampOk r.stamp)) && (win r.key 0 99 && win r.val 0 999)))] (fun w' => Ext w w' ∧ w2.heap.size ≤ w'.heap.size ∧ Blk w' b1 (Enc.enc r)) ?_ ?_
 ·refine J_if (gd := 6) rfl rfl (fun hg1 => ?_) (fun hg1 => ?_)
  ·refine J_gd rfl rfl (R_fieldAddr0 fl31_1 rfl) rfl (J_gd rfl rfl (R_loadS st29 rfl (h1.part 1 [.int .i64 r.stamp.epoch, .int .i64 r.stamp.turn] rfl) rfl) rfl ?_)
   refine J_ung rfl rfl ?_
   refine J_call Try.call74 rfl (c_StampOk r.stamp _ ) rfl (fun _ w4 e3 hv => ?_)
   subst hv
   replace E := E.trans e3; replace h1 := h1.ext e3
   have z3 := e3.size
   refine J_st (R_pickT rfl rfl) rfl (J_st (R_move rfl) rfl ?_)
   refine J_if (gd := 11) rfl rfl (fun hg2 => ?_) (fun hg2 => ?_)
   ·refine J_gd rfl rfl (R_fieldAddr0 fl31_2 rfl) rfl (J_gd rfl rfl (R_load sc3 rfl (h1.one 3 rfl)) rfl (J_gd rfl rfl (R_fieldAddr0 fl31_3 rfl) rfl (J_gd rfl rfl (R_load sc3 rfl (h1.one 4 rfl)) rfl ?_)))
    refine J_ung rfl rfl ?_
    refine J_call Try.call65 rfl (c_itemOk r.key r.val _ ) rfl (fun _ w5 e4 hv => ?_)
    subst hv
    replace E := E.trans e4; replace h1 := h1.ext e4
    have z4 := e4.size
    refine J_st (R_pickT rfl rfl) rfl (J_cutEnd ⟨rfl, rfl, rfl, congrArg (fun b => some (Value.bool b)) (show (win r.key 0 99 && win r.val 0 999) = (((win r.op 0 7) && (stampOk r.stamp)) && (win r.key 0 99 && win r.val 0 999)) by first | (rw [hg1, hg2] <;> rfl) | (simp [hg1, hg2]; done) | (simp only [nat_nlt] <;> simp)), trivial⟩ ⟨E, (by omega), h1⟩)
   ·refine J_gdno rfl rfl rfl rfl (J_gdno rfl rfl rfl rfl (J_gdno rfl rfl rfl rfl (J_gdno rfl rfl rfl rfl ?_)))
    refine J_ungno rfl rfl rfl rfl ?_
    refine J_st (R_pickF rfl rfl) rfl (J_cutEnd ⟨rfl, rfl, rfl, congrArg (fun b => some (Value.bool b)) (show false = (((win r.op 0 7) && (stampOk r.stamp)) && (win r.key 0 99 && win r.val 0 999)) by first | (rw [hg1, hg2] <;> rfl) | (simp [hg1, hg2]; done) | (simp only [nat_nlt] <;> simp)), trivial⟩ ⟨E, (by omega), h1⟩)
  ·refine J_gdno rfl rfl rfl rfl (J_gdno rfl rfl rfl rfl ?_)
   refine J_ungno rfl rfl rfl rfl ?_
   refine J_st (R_pickF rfl rfl) rfl (J_st (R_move rfl) rfl (J_gdno rfl rfl rfl rfl (J_gdno rfl rfl rfl rfl (J_gdno rfl rfl rfl rfl (J_gdno rfl rfl rfl rfl ?_)))))
   refine J_ungno rfl rfl rfl rfl ?_
   refine J_st (R_pickF rfl rfl) rfl (J_cutEnd ⟨rfl, rfl, rfl, congrArg (fun b => some (Value.bool b)) (show false = (((win r.op 0 7) && (stampOk r.stamp)) && (win r.key 0 99 && win r.val 0 999)) by first | (rw [hg1] <;> rfl) | (simp [hg1]; done) | (simp only [nat_nlt] <;> simp)), trivial⟩ ⟨E, (by omega), h1⟩)
 clear E h1
 rintro w3 ⟨E, z5, h1⟩
 refine J_st (R_assign rfl) rfl (J_done ?_)
 refine S_ret (E_done1 rfl rfl E ?_)
 rfl

set_option maxRecDepth 20000 in
theorem s_RecordOk (r : Record) (w : World)  : Ct Try.prog 13 [.agg (Enc.enc r).toArray] w (fun v _ => v = .bool (recordOk r)) := by
 refine ct_of Try.func13 rfl Try.ntmps13 rfl ?_
 refine S_sub [(0, .agg (Enc.enc r).toArray)] ⟨rfl, trivial⟩ ?_
 have E : Ext w w := Ext.refl w
 refine S_seq ?_
 refine S_reg [false, true] rfl rfl ?_
 refine J_box rfl rfl (fun b1 w1 e1 s1 h1 => ?_)
 have g_b1 : w.heap.size ≤ b1 := by have := E.size; omega
 have y_b1 := h1.lt
 replace E := E.trans e1
 have z1 := e1.size
 refine J_st (R_assign rfl) rfl (J_done ?_)
 refine S_seq ?_
 refine S_reg [true, true, false, true, true, true, false, true, true, true, true, false, true, true, true, true, false, true, true] rfl rfl ?_
 refine J_st (R_fieldAddr0 fl31_0 rfl) rfl (J_st (R_load sc3 rfl (h1.one 0 rfl)) rfl ?_)
 refine J_call Try.call53 rfl (s_l01In r.op 0 7 _ ) rfl (fun _ w2 e2 hv => ?_)
 subst hv
 replace E := E.trans e2; replace h1 := h1.ext e2
 have z2 := e2.size
 refine J_st (R_move rfl) rfl ?_
 refine J_cut 14 [(0, .agg (Enc.enc r).toArray), (1, .pointer (some ⟨b1, 0, none⟩)), (2, .bool false), (20, .bool ((((win r.op 0 7) && (stampOk r.stamp)) && (win r.key 0 99)) && (win r.val 0 999)))] (fun w' => Ext w w' ∧ w2.heap.size ≤ w'.heap.size ∧ Blk w' b1 (Enc.enc r)) ?_ ?_
 ·refine J_if (gd := 6) rfl rfl (fun hg1 => ?_) (fun hg1 => ?_)
  ·refine J_gd rfl rfl (R_fieldAddr0 fl31_1 rfl) rfl (J_gd rfl rfl (R_loadS st29 rfl (h1.part 1 [.int .i64 r.stamp.epoch, .int .i64 r.stamp.turn] rfl) rfl) rfl ?_)
   refine J_ung rfl rfl ?_
   refine J_call Try.call54 rfl (s_StampOk r.stamp _ ) rfl (fun _ w4 e3 hv => ?_)
   subst hv
   replace E := E.trans e3; replace h1 := h1.ext e3
   have z3 := e3.size
   refine J_st (R_pickT rfl rfl) rfl (J_st (R_move rfl) rfl ?_)
   refine J_if (gd := 11) rfl rfl (fun hg2 => ?_) (fun hg2 => ?_)
   ·refine J_gd rfl rfl (R_fieldAddr0 fl31_2 rfl) rfl (J_gd rfl rfl (R_load sc3 rfl (h1.one 3 rfl)) rfl ?_)
    refine J_ung rfl rfl ?_
    refine J_call Try.call53 rfl (s_l01In r.key 0 99 _ ) rfl (fun _ w5 e4 hv => ?_)
    subst hv
    replace E := E.trans e4; replace h1 := h1.ext e4
    have z4 := e4.size
    refine J_st (R_pickT rfl rfl) rfl (J_st (R_move rfl) rfl ?_)
    refine J_if (gd := 16) rfl rfl (fun hg3 => ?_) (fun hg3 => ?_)
    ·refine J_gd rfl rfl (R_fieldAddr0 fl31_3 rfl) rfl (J_gd rfl rfl (R_load sc3 rfl (h1.one 4 rfl)) rfl ?_)
     refine J_ung rfl rfl ?_
     refine J_call Try.call53 rfl (s_l01In r.val 0 999 _ ) rfl (fun _ w6 e5 hv => ?_)
     subst hv
     replace E := E.trans e5; replace h1 := h1.ext e5
     have z5 := e5.size
     refine J_st (R_pickT rfl rfl) rfl (J_cutEnd ⟨rfl, rfl, rfl, congrArg (fun b => some (Value.bool b)) (show (win r.val 0 999) = ((((win r.op 0 7) && (stampOk r.stamp)) && (win r.key 0 99)) && (win r.val 0 999)) by first | (rw [hg1, hg2, hg3] <;> rfl) | (simp [hg1, hg2, hg3]; done) | (simp only [nat_nlt] <;> simp)), trivial⟩ ⟨E, (by omega), h1⟩)
    ·refine J_gdno rfl rfl rfl rfl (J_gdno rfl rfl rfl rfl ?_)
     refine J_ungno rfl rfl rfl rfl ?_
     refine J_st (R_pickF rfl rfl) rfl (J_cutEnd ⟨rfl, rfl, rfl, congrArg (fun b => some (Value.bool b)) (show false = ((((win r.op 0 7) && (stampOk r.stamp)) && (win r.key 0 99)) && (win r.val 0 999)) by first | (rw [hg1, hg2, hg3] <;> rfl) | (simp [hg1, hg2, hg3]; done) | (simp only [nat_nlt] <;> simp)), trivial⟩ ⟨E, (by omega), h1⟩)
   ·refine J_gdno rfl rfl rfl rfl (J_gdno rfl rfl rfl rfl ?_)
    refine J_ungno rfl rfl rfl rfl ?_
    refine J_st (R_pickF rfl rfl) rfl (J_st (R_move rfl) rfl (J_gdno rfl rfl rfl rfl (J_gdno rfl rfl rfl rfl ?_)))
    refine J_ungno rfl rfl rfl rfl ?_
    refine J_st (R_pickF rfl rfl) rfl (J_cutEnd ⟨rfl, rfl, rfl, congrArg (fun b => some (Value.bool b)) (show false = ((((win r.op 0 7) && (stampOk r.stamp)) && (win r.key 0 99)) && (win r.val 0 999)) by first | (rw [hg1, hg2] <;> rfl) | (simp [hg1, hg2]; done) | (simp only [nat_nlt] <;> simp)), trivial⟩ ⟨E, (by omega), h1⟩)
  ·refine J_gdno rfl rfl rfl rfl (J_gdno rfl rfl rfl rfl ?_)
   refine J_ungno rfl rfl rfl rfl ?_
   refine J_st (R_pickF rfl rfl) rfl (J_st (R_move rfl) rfl (J_gdno rfl rfl rfl rfl (J_gdno rfl rfl rfl rfl ?_)))
   refine J_ungno rfl rfl rfl rfl ?_
   refine J_st (R_pickF rfl rfl) rfl (J_st (R_move rfl) rfl (J_gdno rfl rfl rfl rfl (J_gdno rfl rfl rfl rfl ?_)))
   refine J_ungno rfl rfl rfl rfl ?_
   refine J_st (R_pickF rfl rfl) rfl (J_cutEnd ⟨rfl, rfl, rfl, congrArg (fun b => some (Value.bool b)) (show false = ((((win r.op 0 7) && (stampOk r.stamp)) && (win r.key 0 99)) && (win r.val 0 999)) by first | (rw [hg1] <;> rfl) | (simp [hg1]; done) | (simp only [nat_nlt] <;> simp)), trivial⟩ ⟨E, (by omega), h1⟩)
 clear E h1
 rintro w3 ⟨E, z6, h1⟩
 refine J_st (R_assign rfl) rfl (J_done ?_)
 refine S_ret (E_done1 rfl rfl E ?_)
 simp [recordOk, Bool.and_assoc]

set_option maxRecDepth 20000 in
theorem c_isNode (cg : List Value) (g : Graph) (op : Int) (w : World) (hg : Dat.R w 0 w.heap.size cg g) : Ct Try.prog 43 [.agg cg.toArray, .int .i64 op] w (fun v _ => v = .bool (isNodeM g op)) := by
 refine ct_of Try.func43 rfl Try.ntmps43 rfl ?_
 obtain ⟨o1, rfl, hd1⟩ := Graph.op hg
 refine S_sub [(0, .agg [o1, .int .i64 g.workers, .int .i64 g.cap].toArray), (1, .int .i64 op)] ⟨rfl, rfl, trivial⟩ ?_
 have E : Ext w w := Ext.refl w
 refine S_seq ?_
 refine S_reg [false, true] rfl rfl ?_
 refine J_box rfl rfl (fun b1 w1 e1 s1 h1 => ?_)
 have g_b1 : w.heap.size ≤ b1 := by have := E.size; omega
 have y_b1 := h1.lt
 replace E := E.trans e1
 have z1 := e1.size
 refine J_st (R_assign rfl) rfl (J_done ?_)
 refine S_seq ?_
 refine S_reg [true, true, true, true, true, false, true] rfl rfl ?_
 refine J_st (R_move rfl) rfl (J_st (R_fieldAddr0 fl26_0 rfl) rfl (J_st (R_load sc24 rfl (h1.one 0 rfl)) rfl (J_st (R_len Try.underlying24 rfl (hd1.ext E).len) rfl (J_st (R_sub rfl rfl rfl) rfl ?_))))
 refine J_call Try.call64 rfl (c_within op 0 (IntKind.i64.wrap (((g.nodes.length : Nat) : Int) - 1)) _ ) rfl (fun _ w2 e2 hv => ?_)
 subst hv
 replace E := E.trans e2; replace h1 := h1.ext e2
 have z2 := e2.size
 refine J_st (R_assign rfl) rfl (J_done ?_)
 refine S_ret (E_done1 rfl rfl E ?_)
 have a1 := hd1.1.1
 unfold maxLen at a1
 rw [wrap_in (by omega) (by omega)]; rfl

set_option maxRecDepth 20000 in
theorem s_NodeOf (cg : List Value) (g : Graph) (op : Int) (w : World) (hg : Dat.R w 0 w.heap.size cg g) (hb : cntGraph g ≤ 1048576) : Ct Try.prog 48 [.agg cg.toArray, .int .i64 op] w (fun v w' => ∃ c0, v = .tuple [.agg c0.toArray, .bool ((nodeOf g op).2)].toArray ∧ Own1.O w' w.heap.size w'.heap.size c0 ((nodeOf g op).1)) := by
 refine ct_of Try.func48 rfl Try.ntmps48 rfl ?_
 obtain ⟨o1, rfl, hd1⟩ := Graph.op hg
 refine S_sub [(0, .agg [o1, .int .i64 g.workers, .int .i64 g.cap].toArray), (1, .int .i64 op)] ⟨rfl, rfl, trivial⟩ ?_
 have E : Ext w w := Ext.refl w
 refine S_seq ?_
 refine S_reg [false, false, true] rfl rfl ?_
 refine J_box rfl rfl (fun b1 w1 e1 s1 h1 => ?_)
 have g_b1 : w.heap.size ≤ b1 := by have := E.size; omega
 have y_b1 := h1.lt
 replace E := E.trans e1
 have z1 := e1.size
 refine J_alloc st42 rfl (fun b2 w2 e2 s2 h2 => ?_)
 have g_b2 : w.heap.size ≤ b2 := by have := E.size; omega
 have y_b2 := h2.lt
 replace E := E.trans e2; replace h1 := h1.ext e2
 have z2 := e2.size
 refine J_st (R_assign rfl) rfl (J_done ?_)
 refine S_seq ?_
 refine S_seq ?_
 refine S_reg [true, true, true, true, true, false, true] rfl rfl ?_
 refine J_st (R_move rfl) rfl (J_st (R_fieldAddr0 fl26_0 rfl) rfl (J_st (R_load sc24 rfl (h1.one 0 rfl)) rfl (J_st (R_len Try.underlying24 rfl (hd1.ext E).len) rfl (J_st (R_sub rfl rfl rfl) rfl ?_))))
 refine J_call Try.call53 rfl (s_l01In op 0 (IntKind.i64.wrap (((g.nodes.length : Nat) : Int) - 1)) _ ) rfl (fun _ w3 e3 hv => ?_)
 subst hv
 replace E := E.trans e3; replace h1 := h1.ext e3; replace h2 := h2.ext e3
 have z3 := e3.size
 refine J_st (R_not rfl) rfl (J_done ?_)
 refine S_cond rfl (fun hc1 => ?_) (fun hc1 => ?_)
 ·rw [isN_w hd1.1.1] at hc1
  refine S_seq ?_
  refine S_reg [true, false, true] rfl rfl ?_
  have hbl1 : ∀ w, (Instr.build 42 ([]).toArray).run Try.prog w = .ok (.agg [.int .i64 0, .int .i64 0, .int .i64 0, .slice none 0 0].toArray) w := by clear E; intro w; kernel_rfl
  refine J_st (R_buildC [.int .i64 0, .int .i64 0, .int .i64 0, .slice none 0 0] rfl hbl1) rfl ?_
  refine J_storeS' (cs' := [.int .i64 0, .int .i64 0, .int .i64 0, .slice none 0 0]) st42 rfl rfl rfl rfl h2 (Nat.le_of_ble_eq_true rfl) rfl (fun w4 m1 h2' => ?_)
  replace h2 := h2'
  replace E := E.step m1 (fun g hg => by cases hg; omega); replace h1 := h1.mod m1 (fun g hg => by cases hg; omega)
  have z4 := m1.size
  refine J_st (R_assign rfl) rfl (J_done ?_)
  refine S_ret (E_doneN (l := [.cell 4 42, .tmp 5]) (vs := [.agg [.int .i64 0, .int .i64 0, .int .i64 0, .slice none 0 0].toArray, .bool false]) rfl ⟨.cell rfl (run_loadVar_st st42 h2.at rfl), .tmp rfl, trivial⟩ rfl E ?_)
  rw [nodeOf_no (by simpa [isNodeM] using hc1)]
  exact ⟨_, rfl, (Node.mkO (⟨0, 0, 0, []⟩ : Node) ⟨trivial, trivial⟩ (Own.nil _ _ _ _))⟩
 ·rw [isN_w hd1.1.1] at hc1
  have hop := isNode_of (by simpa [isNodeM] using hc1)
  refine S_skip ?_
  refine S_seq ?_
  refine S_reg [true, true, true, true, true, false, false] rfl rfl ?_
  refine J_st (R_fieldAddr0 fl26_0 rfl) rfl (J_st (R_load sc24 rfl (h1.one 0 rfl)) rfl (J_st (R_move rfl) rfl ?_))
  have hi1 : (Int.toNat op) < g.nodes.length := (by first | assumption | omega | (simp only [List.length_set]; first | assumption | omega) | (simp only [List.getElem_set_self, List.length_set]; first | assumption | omega) | (simp only [setW, setLk, List.length_set]; first | assumption | omega) | (simp; done))
  obtain ⟨_, hr1, ha1⟩ := RdD.get hd1 hi1
  obtain ⟨o2, rfl, hd2⟩ := Node.op hr1
  replace ha1 : At w (sblk o1) (soff o1 + (Int.toNat op) * 4) [.int .i64 ((g.nodes[(Int.toNat op)]'hi1).kind), .int .i64 ((g.nodes[(Int.toNat op)]'hi1).a), .int .i64 ((g.nodes[(Int.toNat op)]'hi1).b), o2] := ha1
  refine J_st (R_indexZ (i := (Int.toNat op)) sl24 rfl rfl (hd1.ext E).1 (by omega) hi1) rfl (J_st (R_loadS st42 rfl (ha1.ext E) rfl) rfl ?_)
  refine J_alloc st42 rfl (fun b3 w5 e4 s3 h3 => ?_)
  have g_b3 : w.heap.size ≤ b3 := by have := E.size; omega
  have y_b3 := h3.lt
  replace E := E.trans e4; replace h1 := h1.ext e4; replace h2 := h2.ext e4
  have z5 := e4.size
  refine J_storeS' (cs' := [.int .i64 ((g.nodes[(Int.toNat op)]'hi1).kind), .int .i64 ((g.nodes[(Int.toNat op)]'hi1).a), .int .i64 ((g.nodes[(Int.toNat op)]'hi1).b), o2]) st42 rfl rfl rfl (all_cons rfl (all_cons rfl (all_cons rfl (all_cons (RdD.one (hd2.ext E)) rfl)))) h3 (Nat.le_of_ble_eq_true rfl) rfl (fun w6 m2 h3' => ?_)
  replace h3 := h3'
  replace E := E.step m2 (fun g hg => by cases hg; omega); replace h1 := h1.mod m2 (fun g hg => by cases hg; omega); replace h2 := h2.mod m2 (fun g hg => by cases hg; omega)
  have z6 := m2.size
  refine J_done ?_
  refine S_seq ?_
  refine S_reg [false, true, true, false, true, false] rfl rfl ?_
  refine J_buildSlice (vs := []) (css := []) sl40 rfl rfl trivial rfl rfl (fun b4 w7 e5 s4 h4 => ?_)
  replace h4 : Blk w7 b4 [] := h4
  have g_b4 : w.heap.size ≤ b4 := by have := E.size; omega
  have y_b4 := h4.lt
  replace E := E.trans e5; replace h1 := h1.ext e5; replace h2 := h2.ext e5; replace h3 := h3.ext e5
  have z7 := e5.size
  refine J_st (R_fieldAddr0 fl42_3 rfl) rfl (J_st (R_load sc40 rfl (h3.one 3 rfl)) rfl ?_)
  refine J_append sl40 rfl rfl (Own.ofBlk (lo := b4) (hi := b4 + 1) (sz := 1) h4 (Nat.le_refl _) (Nat.lt_succ_self _) (by simp) (by simp [maxLen])) (RdS.src (hd2.rd.ext E)) (flat_one _) (by have h := outs_le hb (List.getElem_mem (l := g.nodes) (n := Int.toNat op) (by omega)); rw [sum_flat]; simp only [List.length_nil, show Enc.sz Int = 1 from rfl]; omega) (by decide) (by omega) (by omega) rfl rfl (fun v1 w8 m3 ho1 => ?_)
  replace E := E.step m3 (fun g hg => by have := Own.blk (Own.ofBlk (lo := b4) (hi := b4 + 1) (sz := 1) h4 (Nat.le_refl _) (Nat.lt_succ_self _) (by simp) (by simp [maxLen])) g hg; omega); replace h1 := h1.mod m3 (fun g hg => by have := Own.blk (Own.ofBlk (lo := b4) (hi := b4 + 1) (sz := 1) h4 (Nat.le_refl _) (Nat.lt_succ_self _) (by simp) (by simp [maxLen])) g hg; omega); replace h2 := h2.mod m3 (fun g hg => by have := Own.blk (Own.ofBlk (lo := b4) (hi := b4 + 1) (sz := 1) h4 (Nat.le_refl _) (Nat.lt_succ_self _) (by simp) (by simp [maxLen])) g hg; omega); replace h3 := h3.mod m3 (fun g hg => by have := Own.blk (Own.ofBlk (lo := b4) (hi := b4 + 1) (sz := 1) h4 (Nat.le_refl _) (Nat.lt_succ_self _) (by simp) (by simp [maxLen])) g hg; omega)
  have z8 := m3.size
  refine J_st (R_fieldAddr0 fl42_3 rfl) rfl ?_
  refine J_store' (cs' := [.int .i64 ((g.nodes[(Int.toNat op)]'hi1).kind), .int .i64 ((g.nodes[(Int.toNat op)]'hi1).a), .int .i64 ((g.nodes[(Int.toNat op)]'hi1).b), v1]) sc40 rfl rfl ho1.one h3 (Nat.le_of_ble_eq_true rfl) rfl (fun w9 m4 h3' => ?_)
  replace h3 := h3'
  replace E := E.step m4 (fun g hg => by cases hg; omega); replace h1 := h1.mod m4 (fun g hg => by cases hg; omega); replace h2 := h2.mod m4 (fun g hg => by cases hg; omega); replace ho1 := ho1.mod m4 (fun g hg => by cases hg; omega)
  have z9 := m4.size
  refine J_done ?_
  refine S_seq ?_
  refine S_reg [true, false, true] rfl rfl ?_
  refine J_st (R_loadS st42 rfl h3.at rfl) rfl ?_
  refine J_storeS' (cs' := [.int .i64 ((g.nodes[(Int.toNat op)]'hi1).kind), .int .i64 ((g.nodes[(Int.toNat op)]'hi1).a), .int .i64 ((g.nodes[(Int.toNat op)]'hi1).b), v1]) st42 rfl rfl rfl (all_cons rfl (all_cons rfl (all_cons rfl (all_cons ho1.one rfl)))) h2 (Nat.le_of_ble_eq_true rfl) rfl (fun w10 m5 h2' => ?_)
  replace h2 := h2'
  replace E := E.step m5 (fun g hg => by cases hg; omega); replace h1 := h1.mod m5 (fun g hg => by cases hg; omega); replace h3 := h3.mod m5 (fun g hg => by cases hg; omega); replace ho1 := ho1.mod m5 (fun g hg => by cases hg; omega)
  have z10 := m5.size
  refine J_st (R_assign rfl) rfl (J_done ?_)
  refine S_ret (E_doneN (l := [.cell 4 42, .tmp 5]) (vs := [.agg [.int .i64 ((g.nodes[(Int.toNat op)]'hi1).kind), .int .i64 ((g.nodes[(Int.toNat op)]'hi1).a), .int .i64 ((g.nodes[(Int.toNat op)]'hi1).b), v1].toArray, .bool true]) rfl ⟨.cell rfl (run_loadVar_st st42 h2.at rfl), .tmp rfl, trivial⟩ rfl E ?_)
  rw [nodeOf_yes (by assumption) ]
  exact ⟨_, rfl, (Node.mkO (⟨(g.nodes[(Int.toNat op)]'hi1).kind, (g.nodes[(Int.toNat op)]'hi1).a, (g.nodes[(Int.toNat op)]'hi1).b, [] ++ ((g.nodes[(Int.toNat op)]'hi1).outs)⟩ : Node) ⟨trivial, trivial⟩ (Own.widen ho1 (by omega) (by omega)))⟩

set_option maxRecDepth 20000 in
theorem c_copyCells (vxs : Value) (xs : List Cell) (w : World) (hxs : RdS w vxs xs) (hb : xs.length ≤ 4194304) : Ct Try.prog 44 [vxs] w (fun v w' => Own w' w.heap.size w'.heap.size 4 v (List.flatMap (Enc.enc (α := Cell)) xs)) := by
 refine ct_of Try.func44 rfl Try.ntmps44 rfl ?_
 refine S_sub [(0, vxs)] ⟨rfl, trivial⟩ ?_
 have E : Ext w w := Ext.refl w
 refine S_seq ?_
 refine S_reg [true] rfl rfl ?_
 refine J_st (R_assign rfl) rfl (J_done ?_)
 refine S_seq ?_
 refine S_reg [true, false, true] rfl rfl ?_
 refine J_st (R_move rfl) rfl ?_
 refine J_append sl27 rfl rfl (Own.nil w w.heap.size w.heap.size 4) (RdS.src (hxs.ext E)) (flat_one _) (by simp only [sum_flat, List.length_nil]; simp only [Enc.sz]; omega) (by decide) (by omega) (by omega) rfl rfl (fun v1 w1 m1 ho1 => ?_)
 replace E := E.step m1 (fun g hg => by have := Own.blk (Own.nil w w.heap.size w.heap.size 4) g hg; omega)
 have z1 := m1.size
 refine J_st (R_assign rfl) rfl (J_done ?_)
 refine S_ret (E_done1 rfl rfl E ?_)
 exact Own.fin ho1 (by have := E.size; omega) (by omega) (by simp [*])

set_option maxRecDepth 20000 in
theorem c_OutsOnly (cg : List Value) (g : Graph) (vxs : Value) (xs : List Cell) (w : World) (hg : Dat.R w 0 w.heap.size cg g) (hxs : RdS w vxs xs) (hb : xs.length ≤ 4194304) : Ct Try.prog 31 [.agg cg.toArray, vxs] w (fun v w' => Own w' w.heap.size w'.heap.size 4 v (List.flatMap (Enc.enc (α := Cell)) (xs.filter (outOf g)))) := by
 refine ct_of Try.func31 rfl Try.ntmps31 rfl ?_
 obtain ⟨o1, rfl, hd1⟩ := Graph.op hg
 refine S_sub [(0, .agg [o1, .int .i64 g.workers, .int .i64 g.cap].toArray), (1, vxs)] ⟨rfl, rfl, trivial⟩ ?_
 have E : Ext w w := Ext.refl w
 refine S_seq ?_
 refine S_reg [false, true] rfl rfl ?_
 refine J_box rfl rfl (fun b1 w1 e1 s1 h1 => ?_)
 have g_b1 : w.heap.size ≤ b1 := by have := E.size; omega
 have y_b1 := h1.lt
 replace E := E.trans e1
 have z1 := e1.size
 refine J_st (R_assign rfl) rfl (J_done ?_)
 refine S_seq ?_
 refine S_reg [true] rfl rfl ?_
 refine J_st (R_assign rfl) rfl (J_done ?_)
 refine S_seq ?_
 refine S_seq ?_
 refine S_reg [true, true, true] rfl rfl ?_
 refine J_st (R_move rfl) rfl (J_st (R_len Try.underlying27 rfl (hxs.ext E).len) rfl (J_st (R_move rfl) rfl (J_done ?_)))
 refine S_block ?_
 refine S_loop (fun (xq : Nat × Value) => let ⟨k, vo⟩ := xq; [(2, .pointer (some ⟨b1, 0, none⟩)), (4, .slice none 0 0), (5, vo), (8, vxs), (9, .int .i64 ((xs.length : Nat) : Int)), (10, .int .i64 ((k : Nat) : Int))]) (fun (xq : Nat × Value) w' => let ⟨k, vo⟩ := xq; Ext w w' ∧ w1.heap.size ≤ w'.heap.size ∧ Blk w' b1 ([o1, .int .i64 g.workers, .int .i64 g.cap]) ∧ k ≤ xs.length ∧ Own w' w1.heap.size w'.heap.size 4 vo (List.flatMap (Enc.enc (α := Cell)) ((xs.take k).filter (outOf g)))) (fun (xq : Nat × Value) => let ⟨k, vo⟩ := xq; xs.length - k) (0, .slice none 0 0) ⟨rfl, rfl, rfl, rfl, rfl, rfl, trivial⟩ ⟨E, Nat.le_refl _, h1, Nat.zero_le _, Own.fin (Own.nil w1 w1.heap.size w1.heap.size _) (by have := E.size; omega) (by omega) rfl⟩ ?_
 clear E h1
 rintro ⟨k, vo⟩ w2 ⟨E, z2, h1, hk, ho⟩
 refine S_sub [(2, .pointer (some ⟨b1, 0, none⟩)), (4, .slice none 0 0), (5, vo), (8, vxs), (9, .int .i64 ((xs.length : Nat) : Int)), (10, .int .i64 ((k : Nat) : Int))] ⟨rfl, rfl, rfl, rfl, rfl, rfl, trivial⟩ ?_
 refine S_seq ?_
 refine S_reg [true] rfl rfl ?_
 refine J_st (R_lss rfl rfl) rfl (J_done ?_)
 refine S_seq ?_
 refine S_cond rfl (fun hc1 => ?_) (fun hc1 => ?_)
 ·have hc1n : k < xs.length := by first | (have h := of_decide_eq_true hc1; omega) | (have h := hc1; simp at h; omega)
  refine S_skip ?_
  refine S_seq ?_
  refine S_block ?_
  refine S_seq ?_
  refine S_reg [true, true, false, false] rfl rfl ?_
  have hi1 : k < xs.length := (by first | assumption | omega | (simp only [List.length_set]; first | assumption | omega) | (simp only [List.getElem_set_self, List.length_set]; first | assumption | omega) | (simp only [setW, setLk, List.length_set]; first | assumption | omega) | (simp; done))
  refine J_st (R_index (i := k) sl27 rfl rfl (hxs.ext E) hi1) rfl (J_st (R_loadS st56 rfl ((hxs.ext E).get hi1) rfl) rfl ?_)
  refine J_alloc st56 rfl (fun b2 w3 e2 s2 h2 => ?_)
  have g_b2 : w.heap.size ≤ b2 := by have := E.size; omega
  have y_b2 := h2.lt
  replace E := E.trans e2; replace h1 := h1.ext e2; replace ho := ho.ext e2
  have z3 := e2.size
  refine J_storeS' (cs' := [.int .i64 ((xs[k]'hi1).op), .int .i64 ((xs[k]'hi1).epoch), .int .i64 ((xs[k]'hi1).key), .int .i64 ((xs[k]'hi1).val)]) st56 rfl rfl rfl rfl h2 (Nat.le_of_ble_eq_true rfl) rfl (fun w4 m1 h2' => ?_)
  replace h2 := h2'
  replace E := E.step m1 (fun g hg => by cases hg; omega); replace h1 := h1.mod m1 (fun g hg => by cases hg; omega); replace ho := ho.mod m1 (fun g hg => by cases hg; omega)
  have z4 := m1.size
  refine J_done ?_
  refine S_seq ?_
  refine S_reg [true, true, true, false, true, true, true, true, true, true, true, true, true, true] rfl rfl ?_
  refine J_st (R_loadS st26 rfl h1.at rfl) rfl (J_st (R_fieldAddr0 fl56_0 rfl) rfl (J_st (R_load sc3 rfl (h2.one 0 rfl)) rfl ?_))
  refine J_call Try.call43 rfl (c_isNode [o1, .int .i64 g.workers, .int .i64 g.cap] g ((xs[k]'hi1).op) _ (Graph.mkR g (RdD.any (hd1.ext E)))) rfl (fun _ w5 e3 hv => ?_)
  subst hv
  replace E := E.trans e3; replace h1 := h1.ext e3; replace ho := ho.ext e3; replace h2 := h2.ext e3
  have z5 := e3.size
  refine J_st (R_move rfl) rfl ?_
  refine J_cut 9 [(2, .pointer (some ⟨b1, 0, none⟩)), (4, .slice none 0 0), (5, vo), (7, .pointer (some ⟨b2, 0, none⟩)), (8, vxs), (9, .int .i64 ((xs.length : Nat) : Int)), (10, .int .i64 ((k : Nat) : Int)), (11, .bool (decide (((k : Nat) : Int) < ((xs.length : Nat) : Int)))), (12, .pointer (some ⟨sblk vxs, soff vxs + k * 4, none⟩)), (13, .agg (Enc.enc (xs[k]'hi1)).toArray), (27, .bool ((isNodeM g ((xs[k]'hi1).op)) && (((List.getD g.nodes (Int.toNat ((xs[k]'hi1).op)) default).kind) == 8)))] (fun w' => w5 = w') ?_ ?_
  ·refine J_if (gd := 18) rfl rfl (fun hg1 => ?_) (fun hg1 => ?_)
   ·have hop := isNode_of hg1
    refine J_gd rfl rfl (R_fieldAddr0 fl26_0 rfl) rfl (J_gd rfl rfl (R_load sc24 rfl (h1.one 0 rfl)) rfl (J_gd rfl rfl (R_fieldAddr0 fl56_0 rfl) rfl (J_gd rfl rfl (R_load sc3 rfl (h2.one 0 rfl)) rfl ?_)))
    have hi2 : (Int.toNat ((xs[k]'hi1).op)) < g.nodes.length := (by first | assumption | omega | (simp only [List.length_set]; first | assumption | omega) | (simp only [List.getElem_set_self, List.length_set]; first | assumption | omega) | (simp only [setW, setLk, List.length_set]; first | assumption | omega) | (simp; done))
    obtain ⟨_, hr1, ha1⟩ := RdD.getD hd1 hi2
    obtain ⟨o2, rfl, hd2⟩ := Node.op hr1
    replace ha1 : At w (sblk o1) (soff o1 + (Int.toNat ((xs[k]'hi1).op)) * 4) [.int .i64 ((List.getD g.nodes (Int.toNat ((xs[k]'hi1).op)) default).kind), .int .i64 ((List.getD g.nodes (Int.toNat ((xs[k]'hi1).op)) default).a), .int .i64 ((List.getD g.nodes (Int.toNat ((xs[k]'hi1).op)) default).b), o2] := ha1
    refine J_gd rfl rfl (R_indexZ (i := (Int.toNat ((xs[k]'hi1).op))) sl24 rfl rfl (hd1.ext E).1 (by omega) hi2) rfl (J_gd rfl rfl (R_fieldAddr fl42_0 rfl) rfl (J_gd rfl rfl (R_load sc3 rfl ((ha1.ext E).one 0 rfl)) rfl (J_gd rfl rfl (R_eql rfl rfl) rfl (J_st (R_pickT rfl rfl) rfl (J_cutEnd ⟨rfl, rfl, rfl, rfl, rfl, rfl, rfl, rfl, rfl, rfl, congrArg (fun b => some (Value.bool b)) (show (((List.getD g.nodes (Int.toNat ((xs[k]'hi1).op)) default).kind) == 8) = ((isNodeM g ((xs[k]'hi1).op)) && (((List.getD g.nodes (Int.toNat ((xs[k]'hi1).op)) default).kind) == 8)) by first | (rw [hg1] <;> rfl) | (simp [hg1]; done) | (simp only [nat_nlt] <;> simp)), trivial⟩ rfl)))))
   ·refine J_gdno rfl rfl rfl rfl (J_gdno rfl rfl rfl rfl (J_gdno rfl rfl rfl rfl (J_gdno rfl rfl rfl rfl (J_gdno rfl rfl rfl rfl (J_gdno rfl rfl rfl rfl (J_gdno rfl rfl rfl rfl (J_gdno rfl rfl rfl rfl (J_st (R_pickF rfl rfl) rfl (J_cutEnd ⟨rfl, rfl, rfl, rfl, rfl, rfl, rfl, rfl, rfl, rfl, congrArg (fun b => some (Value.bool b)) (show false = ((isNodeM g ((xs[k]'hi1).op)) && (((List.getD g.nodes (Int.toNat ((xs[k]'hi1).op)) default).kind) == 8)) by first | (rw [hg1] <;> rfl) | (simp [hg1]; done) | (simp only [nat_nlt] <;> simp)), trivial⟩ rfl)))))))))
  rintro _ rfl
  refine J_done ?_
  refine S_cond rfl (fun hc2 => ?_) (fun hc2 => ?_)
  ·refine S_reg [true, true, false, false, true] rfl rfl ?_
   refine J_st (R_move rfl) rfl (J_st (R_loadS st56 rfl h2.at rfl) rfl ?_)
   refine J_buildSlice (vs := [.agg (Enc.enc (xs[k]'hi1)).toArray]) (css := [[.int .i64 ((xs[k]'hi1).op), .int .i64 ((xs[k]'hi1).epoch), .int .i64 ((xs[k]'hi1).key), .int .i64 ((xs[k]'hi1).val)]]) sl27 rfl rfl ⟨⟨rfl, rfl⟩, trivial⟩ rfl rfl (fun b3 w7 e4 s3 h3 => ?_)
   replace h3 : Blk w7 b3 [.int .i64 ((xs[k]'hi1).op), .int .i64 ((xs[k]'hi1).epoch), .int .i64 ((xs[k]'hi1).key), .int .i64 ((xs[k]'hi1).val)] := h3
   have g_b3 : w.heap.size ≤ b3 := by have := E.size; omega
   have y_b3 := h3.lt
   replace E := E.trans e4; replace h1 := h1.ext e4; replace ho := ho.ext e4; replace h2 := h2.ext e4
   have z6 := e4.size
   refine J_append sl27 rfl rfl ho (Src.ofBlk h3 rfl) rfl (by have h := filt_len xs (outOf g) k; simp only [show Enc.sz Cell = 4 from rfl] at h; simp at h ⊢; omega) (by decide) (by omega) (by omega) rfl rfl (fun v1 w8 m2 ho1 => ?_)
   replace E := E.step m2 (fun g hg => by have := Own.blk ho g hg; omega); replace h1 := h1.mod m2 (fun g hg => by have := Own.blk ho g hg; omega); replace h2 := h2.mod m2 (fun g hg => by have := Own.blk ho g hg; omega)
   have z7 := m2.size
   refine J_st (R_assign rfl) rfl (J_done ?_)
   refine S_nil (E_inB ?_)
   refine S_reg [true, true] rfl rfl ?_
   refine J_st (R_add rfl rfl (add_one hc1n hxs.1)) rfl (J_st (R_move rfl) rfl (J_done ?_))
   refine S_nil (E_again (k + 1, v1) (by simp; omega) ⟨rfl, rfl, rfl, rfl, rfl, rfl, trivial⟩ ⟨E, (by omega), h1, (by omega), Own.fin ho1 (Nat.le_refl _) (by omega) (filt_yes (by assumption) (by simpa [outOf] using hc2))⟩)
  ·refine S_skip ?_
   refine S_nil (E_inB ?_)
   refine S_reg [true, true] rfl rfl ?_
   refine J_st (R_add rfl rfl (add_one hc1n hxs.1)) rfl (J_st (R_move rfl) rfl (J_done ?_))
   refine S_nil (E_again (k + 1, vo) (by simp; omega) ⟨rfl, rfl, rfl, rfl, rfl, rfl, trivial⟩ ⟨E, (by omega), h1, (by omega), Own.fin ho (Nat.le_refl _) (by omega) (filt_no (by assumption) (by simpa [outOf] using hc2))⟩)
 ·have hc1n : ¬ k < xs.length := by first | (have h := of_decide_eq_false hc1; omega) | (have h := hc1; simp at h; omega)
  refine S_exit (E_lp_exit (E_inB_exit ?_))
  refine S_seq ?_
  refine S_reg [true, true] rfl rfl ?_
  refine J_st (R_move rfl) rfl (J_st (R_assign rfl) rfl (J_done ?_))
  refine S_ret (E_done1 rfl rfl E ?_)
  exact Own.fin ho (by omega) (by omega) (filt_all (by omega))

end Go.Proofs.Ytckahblgeepfjaa
