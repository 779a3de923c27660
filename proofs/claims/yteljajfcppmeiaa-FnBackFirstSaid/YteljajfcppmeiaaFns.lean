/- What the functions that the laws call come to: a contract each; no condition. -/
import Derived.Test.YteljajfcppmeiaaTypes
namespace Go.Proofs.Yteljajfcppmeiaa
open Go Go.Proofs.Yteljajfcppmeiaa.X Go.Proofs
set_option maxRecDepth 20000 in
theorem c_l02Order (a : Int) (b : Int) (w : World)  : Ct Try.prog 79 [.int .i64 a, .int .i64 b] w (fun v _ => v = .int .i64 (ordI a b)) := by
 refine ct_of Try.func79 rfl Try.ntmps79 rfl ?_
 refine S_sub [(0, .int .i64 a), (1, .int .i64 b)] ⟨rfl, rfl, trivial⟩ ?_
 have E : Ext w w := Ext.refl w
 refine S_seq ?_
 refine S_reg [true] rfl rfl ?_
 refine J_st (R_assign rfl) rfl (J_done ?_)
 refine S_seq ?_
 refine S_block ?_
 refine S_seq ?_
 refine S_reg [true, true, true, true] rfl rfl ?_
 refine J_st (R_move rfl) rfl (J_st (R_move rfl) rfl (J_st (R_lss rfl rfl) rfl (J_st (R_assign rfl) rfl (J_done ?_))))
 refine S_cond rfl (fun hc1 => ?_) (fun hc1 => ?_)
 ·refine S_seq ?_
  refine S_reg [true] rfl rfl ?_
  refine J_st (R_assign rfl) rfl (J_done ?_)
  refine S_ret (E_inB_ret (E_done1 rfl rfl E ?_))
  refine congrArg (Value.int .i64) ?_
  simp at *
  unfold ordI; (repeat' split) <;> first | rfl | omega
 ·refine S_seq ?_
  refine S_reg [true, true, true, true] rfl rfl ?_
  refine J_st (R_move rfl) rfl (J_st (R_move rfl) rfl (J_st (R_gtr rfl rfl) rfl (J_st (R_assign rfl) rfl (J_done ?_))))
  refine S_cond rfl (fun hc2 => ?_) (fun hc2 => ?_)
  ·refine S_seq ?_
   refine S_reg [true] rfl rfl ?_
   refine J_st (R_assign rfl) rfl (J_done ?_)
   refine S_ret (E_inB_ret (E_done1 rfl rfl E ?_))
   refine congrArg (Value.int .i64) ?_
   simp at *
   unfold ordI; (repeat' split) <;> first | rfl | omega
  ·refine S_skip ?_
   refine S_nil (E_inB ?_)
   refine S_seq ?_
   refine S_reg [true] rfl rfl ?_
   refine J_st (R_assign rfl) rfl (J_done ?_)
   refine S_ret (E_done1 rfl rfl E ?_)
   refine congrArg (Value.int .i64) ?_
   simp at *
   unfold ordI; (repeat' split) <;> first | rfl | omega

set_option maxRecDepth 20000 in
theorem c_isNaN (a : Int) (w : World)  : Ct Try.prog 78 [.int .i64 a] w (fun v _ => v = .bool false) := by
 refine ct_of Try.func78 rfl Try.ntmps78 rfl ?_
 refine S_sub [(0, .int .i64 a)] ⟨rfl, trivial⟩ ?_
 have E : Ext w w := Ext.refl w
 refine S_seq ?_
 refine S_reg [true] rfl rfl ?_
 refine J_st (R_assign rfl) rfl (J_done ?_)
 refine S_seq ?_
 refine S_reg [true, true, true, true] rfl rfl ?_
 refine J_st (R_move rfl) rfl (J_st (R_move rfl) rfl (J_st (R_neq rfl rfl) rfl (J_st (R_assign rfl) rfl (J_done ?_))))
 refine S_ret (E_done1 rfl rfl E ?_)
 simp

set_option maxRecDepth 20000 in
theorem c_cmpCompare (a : Int) (b : Int) (w : World)  : Ct Try.prog 71 [.int .i64 a, .int .i64 b] w (fun v _ => v = .int .i64 (ordI a b)) := by
 refine ct_of Try.func71 rfl Try.ntmps71 rfl ?_
 refine S_sub [(0, .int .i64 a), (1, .int .i64 b)] ⟨rfl, rfl, trivial⟩ ?_
 have E : Ext w w := Ext.refl w
 refine S_seq ?_
 refine S_reg [true] rfl rfl ?_
 refine J_st (R_assign rfl) rfl (J_done ?_)
 refine S_seq ?_
 refine S_reg [true, false, true] rfl rfl ?_
 refine J_st (R_move rfl) rfl ?_
 refine J_call Try.call78 rfl (c_isNaN a _ ) rfl (fun _ w1 e1 hv => ?_)
 subst hv
 replace E := E.trans e1
 have z1 := e1.size
 refine J_st (R_assign rfl) rfl (J_done ?_)
 refine S_seq ?_
 refine S_reg [true, false, true] rfl rfl ?_
 refine J_st (R_move rfl) rfl ?_
 refine J_call Try.call78 rfl (c_isNaN b _ ) rfl (fun _ w2 e2 hv => ?_)
 subst hv
 replace E := E.trans e2
 have z2 := e2.size
 refine J_st (R_assign rfl) rfl (J_done ?_)
 refine S_seq ?_
 refine S_seq ?_
 refine S_reg [true] rfl rfl ?_
 refine J_st (R_move rfl) rfl (J_done ?_)
 refine S_condF rfl ?_
 refine S_skip ?_
 refine S_seq ?_
 refine S_seq ?_
 refine S_reg [true] rfl rfl ?_
 refine J_st (R_move rfl) rfl (J_done ?_)
 refine S_condF rfl ?_
 refine S_skip ?_
 refine S_seq ?_
 refine S_seq ?_
 refine S_reg [true, true, true] rfl rfl ?_
 refine J_st (R_move rfl) rfl (J_st (R_move rfl) rfl (J_st (R_lss rfl rfl) rfl (J_done ?_)))
 refine S_cond rfl (fun hc1 => ?_) (fun hc1 => ?_)
 ·refine S_seq ?_
  refine S_reg [true] rfl rfl ?_
  refine J_st (R_assign rfl) rfl (J_done ?_)
  refine S_ret (E_done1 rfl rfl E ?_)
  refine congrArg (Value.int .i64) ?_
  simp at *
  unfold ordI; (repeat' split) <;> first | rfl | omega
 ·refine S_skip ?_
  refine S_seq ?_
  refine S_seq ?_
  refine S_reg [true, true, true] rfl rfl ?_
  refine J_st (R_move rfl) rfl (J_st (R_move rfl) rfl (J_st (R_gtr rfl rfl) rfl (J_done ?_)))
  refine S_cond rfl (fun hc2 => ?_) (fun hc2 => ?_)
  ·refine S_seq ?_
   refine S_reg [true] rfl rfl ?_
   refine J_st (R_assign rfl) rfl (J_done ?_)
   refine S_ret (E_done1 rfl rfl E ?_)
   refine congrArg (Value.int .i64) ?_
   simp at *
   unfold ordI; (repeat' split) <;> first | rfl | omega
  ·refine S_skip ?_
   refine S_seq ?_
   refine S_reg [true] rfl rfl ?_
   refine J_st (R_assign rfl) rfl (J_done ?_)
   refine S_ret (E_done1 rfl rfl E ?_)
   refine congrArg (Value.int .i64) ?_
   simp at *
   unfold ordI; (repeat' split) <;> first | rfl | omega

set_option maxRecDepth 20000 in
theorem c_slicesCompare (vxs : Value) (xs : List Int) (vys : Value) (ys : List Int) (w : World) (hxs : RdS w vxs xs) (hys : RdS w vys ys) : Ct Try.prog 61 [vxs, vys] w (fun v _ => v = .int .i64 (cmpL xs ys)) := by
 refine ct_of Try.func61 rfl Try.ntmps61 rfl ?_
 refine S_sub [(0, vxs), (1, vys)] ⟨rfl, rfl, trivial⟩ ?_
 have E : Ext w w := Ext.refl w
 refine S_seq ?_
 refine S_reg [true] rfl rfl ?_
 refine J_st (R_assign rfl) rfl (J_done ?_)
 refine S_seq ?_
 refine S_seq ?_
 refine S_reg [true, true, true] rfl rfl ?_
 refine J_st (R_move rfl) rfl (J_st (R_len Try.underlying29 rfl (hxs.ext E).len) rfl (J_st (R_move rfl) rfl (J_done ?_)))
 refine S_block ?_
 refine S_loop (fun (k : Nat) => [(0, vxs), (1, vys), (4, .int .i64 0), (9, vxs), (10, .int .i64 ((xs.length : Nat) : Int)), (11, .int .i64 ((k : Nat) : Int))]) (fun (k : Nat) w' => Ext w w' ∧ w.heap.size ≤ w'.heap.size ∧ k ≤ xs.length ∧ k ≤ ys.length ∧ cmpL (xs.drop k) (ys.drop k) = cmpL xs ys) (fun (k : Nat) => xs.length - k) 0 ⟨rfl, rfl, rfl, rfl, rfl, rfl, trivial⟩ ⟨E, Nat.le_refl _, Nat.zero_le _, Nat.zero_le _, rfl⟩ ?_
 clear E
 rintro k w1 ⟨E, z1, hk, hky, hI⟩
 refine S_seq ?_
 refine S_reg [true] rfl rfl ?_
 refine J_st (R_lss rfl rfl) rfl (J_done ?_)
 refine S_seq ?_
 refine S_cond rfl (fun hc1 => ?_) (fun hc1 => ?_)
 ·have hc1n : k < xs.length := by first | (have h := of_decide_eq_true hc1; omega) | (have h := hc1; simp at h; omega)
  refine S_skip ?_
  refine S_seq ?_
  refine S_block ?_
  refine S_seq ?_
  refine S_reg [true, true, true, true, true] rfl rfl ?_
  refine J_st (R_move rfl) rfl ?_
  have hi1 : k < xs.length := (by first | assumption | omega | (simp only [List.length_set]; first | assumption | omega) | (simp only [List.getElem_set_self, List.length_set]; first | assumption | omega) | (simp only [setW, setLk, List.length_set]; first | assumption | omega) | (simp; done))
  refine J_st (R_index (i := k) sl29 rfl rfl (hxs.ext E) hi1) rfl (J_st (R_load sc3 rfl (((hxs.ext E).get hi1).one 0 rfl)) rfl (J_st (R_assign rfl) rfl (J_st (R_assign rfl) rfl (J_done ?_))))
  refine S_seq ?_
  refine S_seq ?_
  refine S_reg [true, true, true, true] rfl rfl ?_
  refine J_st (R_move rfl) rfl (J_st (R_move rfl) rfl (J_st (R_len Try.underlying29 rfl (hys.ext E).len) rfl (J_st (R_geq rfl rfl) rfl (J_done ?_))))
  refine S_cond rfl (fun hc2 => ?_) (fun hc2 => ?_)
  ·have hc2n : k ≥ ys.length := by first | (have h := of_decide_eq_true hc2; omega) | (have h := hc2; simp at h; omega)
   refine S_seq ?_
   refine S_reg [true] rfl rfl ?_
   refine J_st (R_assign rfl) rfl (J_done ?_)
   refine S_ret (E_inB_ret (E_lp_ret (E_inB_ret (E_done1 rfl rfl E ?_))))
   exact cmpL_1 hI (by omega) (by omega)
  ·have hc2n : ¬ k ≥ ys.length := by first | (have h := of_decide_eq_false hc2; omega) | (have h := hc2; simp at h; omega)
   refine S_skip ?_
   refine S_seq ?_
   refine S_reg [true, true, true, true, true] rfl rfl ?_
   refine J_st (R_move rfl) rfl (J_st (R_move rfl) rfl ?_)
   have hi2 : k < ys.length := (by first | assumption | omega | (simp only [List.length_set]; first | assumption | omega) | (simp only [List.getElem_set_self, List.length_set]; first | assumption | omega) | (simp only [setW, setLk, List.length_set]; first | assumption | omega) | (simp; done))
   refine J_st (R_index (i := k) sl29 rfl rfl (hys.ext E) hi2) rfl (J_st (R_load sc3 rfl (((hys.ext E).get hi2).one 0 rfl)) rfl (J_st (R_assign rfl) rfl (J_done ?_)))
   refine S_seq ?_
   refine S_reg [true, true, false, true] rfl rfl ?_
   refine J_st (R_move rfl) rfl (J_st (R_move rfl) rfl ?_)
   refine J_call Try.call71 rfl (c_cmpCompare (xs[k]'hi1) (ys[k]'hi2) _ ) rfl (fun _ w2 e1 hv => ?_)
   subst hv
   replace E := E.trans e1
   have z2 := e1.size
   refine J_st (R_assign rfl) rfl (J_done ?_)
   refine S_seq ?_
   refine S_reg [true, true] rfl rfl ?_
   refine J_st (R_move rfl) rfl (J_st (R_neq rfl rfl) rfl (J_done ?_))
   refine S_cond rfl (fun hc3 => ?_) (fun hc3 => ?_)
   ·refine S_seq ?_
    refine S_reg [true, true] rfl rfl ?_
    refine J_st (R_move rfl) rfl (J_st (R_assign rfl) rfl (J_done ?_))
    refine S_ret (E_inB_ret (E_lp_ret (E_inB_ret (E_done1 rfl rfl E ?_))))
    exact cmpL_2 hI (by omega) (by omega) (by simpa using hc3)
   ·refine S_skip ?_
    refine S_nil (E_inB ?_)
    refine S_reg [true, true] rfl rfl ?_
    refine J_st (R_add rfl rfl (add_one hc1n hxs.1)) rfl (J_st (R_move rfl) rfl (J_done ?_))
    refine S_nil (E_again (k + 1) (by omega) ⟨rfl, rfl, rfl, rfl, rfl, rfl, trivial⟩ ⟨E, (by omega), (by omega), (by omega), cmpL_step hI (by omega) (by omega) (by simpa using hc3)⟩)
 ·have hc1n : ¬ k < xs.length := by first | (have h := of_decide_eq_false hc1; omega) | (have h := hc1; simp at h; omega)
  refine S_exit (E_lp_exit (E_inB_exit ?_))
  refine S_seq ?_
  refine S_seq ?_
  refine S_reg [true, true, true, true, true] rfl rfl ?_
  refine J_st (R_move rfl) rfl (J_st (R_len Try.underlying29 rfl (hxs.ext E).len) rfl (J_st (R_move rfl) rfl (J_st (R_len Try.underlying29 rfl (hys.ext E).len) rfl (J_st (R_lss rfl rfl) rfl (J_done ?_)))))
  refine S_cond rfl (fun hc4 => ?_) (fun hc4 => ?_)
  ·have hc4n : xs.length < ys.length := by first | (have h := of_decide_eq_true hc4; omega) | (have h := hc4; simp at h; omega)
   refine S_seq ?_
   refine S_reg [true] rfl rfl ?_
   refine J_st (R_assign rfl) rfl (J_done ?_)
   refine S_ret (E_done1 rfl rfl E ?_)
   exact cmpL_3 hI (by omega) (by omega)
  ·have hc4n : ¬ xs.length < ys.length := by first | (have h := of_decide_eq_false hc4; omega) | (have h := hc4; simp at h; omega)
   refine S_skip ?_
   refine S_seq ?_
   refine S_reg [true] rfl rfl ?_
   refine J_st (R_assign rfl) rfl (J_done ?_)
   refine S_ret (E_done1 rfl rfl E ?_)
   exact cmpL_4 hI (by omega) (by omega)

set_option maxRecDepth 20000 in
theorem c_orderOf (vxs : Value) (xs : List Int) (vys : Value) (ys : List Int) (w : World) (hxs : RdS w vxs xs) (hys : RdS w vys ys) : Ct Try.prog 53 [vxs, vys] w (fun v _ => v = .int .i64 (cmpL xs ys)) := by
 refine ct_of Try.func53 rfl Try.ntmps53 rfl ?_
 refine S_sub [(0, vxs), (1, vys)] ⟨rfl, rfl, trivial⟩ ?_
 have E : Ext w w := Ext.refl w
 refine S_seq ?_
 refine S_reg [true] rfl rfl ?_
 refine J_st (R_assign rfl) rfl (J_done ?_)
 refine S_seq ?_
 refine S_reg [true, true, false, true] rfl rfl ?_
 refine J_st (R_move rfl) rfl (J_st (R_move rfl) rfl ?_)
 refine J_call Try.call61 rfl (c_slicesCompare vxs xs vys ys _ (hxs.ext E) (hys.ext E)) rfl (fun _ w1 e1 hv => ?_)
 subst hv
 replace E := E.trans e1
 have z1 := e1.size
 refine J_st (R_assign rfl) rfl (J_done ?_)
 refine S_ret (E_done1 rfl rfl E ?_)
 rfl

set_option maxRecDepth 20000 in
theorem c_CellOrder (x : Cell) (y : Cell) (w : World)  : Ct Try.prog 40 [.agg (Enc.enc x).toArray, .agg (Enc.enc y).toArray] w (fun v _ => v = .int .i64 (cellOrd x y)) := by
 refine ct_of Try.func40 rfl Try.ntmps40 rfl ?_
 refine S_sub [(0, .agg (Enc.enc x).toArray), (1, .agg (Enc.enc y).toArray)] ⟨rfl, rfl, trivial⟩ ?_
 have E : Ext w w := Ext.refl w
 refine S_seq ?_
 refine S_reg [false, false, true] rfl rfl ?_
 refine J_box rfl rfl (fun b1 w1 e1 s1 h1 => ?_)
 have g_b1 : w.heap.size ≤ b1 := by have := E.size; omega
 have y_b1 := h1.lt
 replace E := E.trans e1
 have z1 := e1.size
 refine J_box rfl rfl (fun b2 w2 e2 s2 h2 => ?_)
 have g_b2 : w.heap.size ≤ b2 := by have := E.size; omega
 have y_b2 := h2.lt
 replace E := E.trans e2; replace h1 := h1.ext e2
 have z2 := e2.size
 refine J_st (R_assign rfl) rfl (J_done ?_)
 refine S_seq ?_
 refine S_reg [true, true, true, true, true, true, true, true, false, true, true, true, true, true, true, true, true, false, false, true] rfl rfl ?_
 refine J_st (R_fieldAddr0 fl74_1 rfl) rfl (J_st (R_load sc3 rfl (h1.one 1 rfl)) rfl (J_st (R_fieldAddr0 fl74_0 rfl) rfl (J_st (R_load sc3 rfl (h1.one 0 rfl)) rfl (J_st (R_fieldAddr0 fl74_2 rfl) rfl (J_st (R_load sc3 rfl (h1.one 2 rfl)) rfl (J_st (R_fieldAddr0 fl74_3 rfl) rfl (J_st (R_load sc3 rfl (h1.one 3 rfl)) rfl ?_)))))))
 refine J_buildSlice (vs := [.int .i64 x.epoch, .int .i64 x.op, .int .i64 x.key, .int .i64 x.val]) (css := [[.int .i64 x.epoch], [.int .i64 x.op], [.int .i64 x.key], [.int .i64 x.val]]) sl29 rfl rfl ⟨⟨rfl, rfl⟩, ⟨rfl, rfl⟩, ⟨rfl, rfl⟩, ⟨rfl, rfl⟩, trivial⟩ rfl rfl (fun b3 w3 e3 s3 h3 => ?_)
 replace h3 : Blk w3 b3 [.int .i64 x.epoch, .int .i64 x.op, .int .i64 x.key, .int .i64 x.val] := h3
 have g_b3 : w.heap.size ≤ b3 := by have := E.size; omega
 have y_b3 := h3.lt
 replace E := E.trans e3; replace h1 := h1.ext e3; replace h2 := h2.ext e3
 have z3 := e3.size
 refine J_st (R_fieldAddr0 fl74_1 rfl) rfl (J_st (R_load sc3 rfl (h2.one 1 rfl)) rfl (J_st (R_fieldAddr0 fl74_0 rfl) rfl (J_st (R_load sc3 rfl (h2.one 0 rfl)) rfl (J_st (R_fieldAddr0 fl74_2 rfl) rfl (J_st (R_load sc3 rfl (h2.one 2 rfl)) rfl (J_st (R_fieldAddr0 fl74_3 rfl) rfl (J_st (R_load sc3 rfl (h2.one 3 rfl)) rfl ?_)))))))
 refine J_buildSlice (vs := [.int .i64 y.epoch, .int .i64 y.op, .int .i64 y.key, .int .i64 y.val]) (css := [[.int .i64 y.epoch], [.int .i64 y.op], [.int .i64 y.key], [.int .i64 y.val]]) sl29 rfl rfl ⟨⟨rfl, rfl⟩, ⟨rfl, rfl⟩, ⟨rfl, rfl⟩, ⟨rfl, rfl⟩, trivial⟩ rfl rfl (fun b4 w4 e4 s4 h4 => ?_)
 replace h4 : Blk w4 b4 [.int .i64 y.epoch, .int .i64 y.op, .int .i64 y.key, .int .i64 y.val] := h4
 have g_b4 : w.heap.size ≤ b4 := by have := E.size; omega
 have y_b4 := h4.lt
 replace E := E.trans e4; replace h1 := h1.ext e4; replace h2 := h2.ext e4; replace h3 := h3.ext e4
 have z4 := e4.size
 refine J_call Try.call53 rfl (c_orderOf (.slice (some ⟨b3, 0, none⟩) 4 4) [x.epoch, x.op, x.key, x.val] (.slice (some ⟨b4, 0, none⟩) 4 4) [y.epoch, y.op, y.key, y.val] _ (Blk.rd (α := Int) (xs := [x.epoch, x.op, x.key, x.val]) (by decide) h3 rfl (by simp [maxLen])) (Blk.rd (α := Int) (xs := [y.epoch, y.op, y.key, y.val]) (by decide) h4 rfl (by simp [maxLen]))) rfl (fun _ w5 e5 hv => ?_)
 subst hv
 replace E := E.trans e5; replace h1 := h1.ext e5; replace h2 := h2.ext e5; replace h3 := h3.ext e5; replace h4 := h4.ext e5
 have z5 := e5.size
 refine J_st (R_assign rfl) rfl (J_done ?_)
 refine S_ret (E_done1 rfl rfl E ?_)
 rfl

set_option maxRecDepth 20000 in
theorem s_CellOrder (x : Cell) (y : Cell) (w : World)  : Ct Try.prog 72 [.agg (Enc.enc x).toArray, .agg (Enc.enc y).toArray] w (fun v _ => v = .int .i64 (cellOrd x y)) := by
 refine ct_of Try.func72 rfl Try.ntmps72 rfl ?_
 refine S_sub [(0, .agg (Enc.enc x).toArray), (1, .agg (Enc.enc y).toArray)] ⟨rfl, rfl, trivial⟩ ?_
 have E : Ext w w := Ext.refl w
 refine S_seq ?_
 refine S_reg [false, false, true] rfl rfl ?_
 refine J_box rfl rfl (fun b1 w1 e1 s1 h1 => ?_)
 have g_b1 : w.heap.size ≤ b1 := by have := E.size; omega
 have y_b1 := h1.lt
 replace E := E.trans e1
 have z1 := e1.size
 refine J_box rfl rfl (fun b2 w2 e2 s2 h2 => ?_)
 have g_b2 : w.heap.size ≤ b2 := by have := E.size; omega
 have y_b2 := h2.lt
 replace E := E.trans e2; replace h1 := h1.ext e2
 have z2 := e2.size
 refine J_st (R_assign rfl) rfl (J_done ?_)
 refine S_seq ?_
 refine S_regD mixed [(0, true), (1, true), (2, true), (3, true), (5, true), (6, true), (7, true), (8, true), (10, true), (11, true), (12, true), (13, true), (15, true), (16, true), (17, true), (18, true), (4, false), (9, false), (14, false), (19, false), (20, false), (21, true)] (by decide +kernel) rfl (fun w3 e3 => ?_)
 replace E := E.trans e3; replace h1 := h1.ext e3; replace h2 := h2.ext e3
 have z3 := e3.size
 refine J_st (R_fieldAddr0 fl74_1 rfl) rfl (J_st (R_load sc3 rfl (h1.one 1 rfl)) rfl (J_st (R_fieldAddr0 fl74_1 rfl) rfl (J_st (R_load sc3 rfl (h2.one 1 rfl)) rfl (J_st (R_fieldAddr0 fl74_0 rfl) rfl (J_st (R_load sc3 rfl (h1.one 0 rfl)) rfl (J_st (R_fieldAddr0 fl74_0 rfl) rfl (J_st (R_load sc3 rfl (h2.one 0 rfl)) rfl (J_st (R_fieldAddr0 fl74_2 rfl) rfl (J_st (R_load sc3 rfl (h1.one 2 rfl)) rfl (J_st (R_fieldAddr0 fl74_2 rfl) rfl (J_st (R_load sc3 rfl (h2.one 2 rfl)) rfl (J_st (R_fieldAddr0 fl74_3 rfl) rfl (J_st (R_load sc3 rfl (h1.one 3 rfl)) rfl (J_st (R_fieldAddr0 fl74_3 rfl) rfl (J_st (R_load sc3 rfl (h2.one 3 rfl)) rfl ?_)))))))))))))))
 refine J_call Try.call79 rfl (c_l02Order x.epoch y.epoch _ ) rfl (fun _ w4 e4 hv => ?_)
 subst hv
 replace E := E.trans e4; replace h1 := h1.ext e4; replace h2 := h2.ext e4
 have z4 := e4.size
 refine J_call Try.call79 rfl (c_l02Order x.op y.op _ ) rfl (fun _ w5 e5 hv => ?_)
 subst hv
 replace E := E.trans e5; replace h1 := h1.ext e5; replace h2 := h2.ext e5
 have z5 := e5.size
 refine J_call Try.call79 rfl (c_l02Order x.key y.key _ ) rfl (fun _ w6 e6 hv => ?_)
 subst hv
 replace E := E.trans e6; replace h1 := h1.ext e6; replace h2 := h2.ext e6
 have z6 := e6.size
 refine J_call Try.call79 rfl (c_l02Order x.val y.val _ ) rfl (fun _ w7 e7 hv => ?_)
 subst hv
 replace E := E.trans e7; replace h1 := h1.ext e7; replace h2 := h2.ext e7
 have z7 := e7.size
 refine J_buildSlice (vs := [.int .i64 (ordI x.epoch y.epoch), .int .i64 (ordI x.op y.op), .int .i64 (ordI x.key y.key), .int .i64 (ordI x.val y.val)]) (css := [[.int .i64 (ordI x.epoch y.epoch)], [.int .i64 (ordI x.op y.op)], [.int .i64 (ordI x.key y.key)], [.int .i64 (ordI x.val y.val)]]) sl29 rfl rfl ⟨⟨rfl, rfl⟩, ⟨rfl, rfl⟩, ⟨rfl, rfl⟩, ⟨rfl, rfl⟩, trivial⟩ rfl rfl (fun b3 w8 e8 s3 h3 => ?_)
 replace h3 : Blk w8 b3 [.int .i64 (ordI x.epoch y.epoch), .int .i64 (ordI x.op y.op), .int .i64 (ordI x.key y.key), .int .i64 (ordI x.val y.val)] := h3
 have g_b3 : w.heap.size ≤ b3 := by have := E.size; omega
 have y_b3 := h3.lt
 replace E := E.trans e8; replace h1 := h1.ext e8; replace h2 := h2.ext e8
 have z8 := e8.size
 refine J_st (R_assign rfl) rfl (J_done ?_)
 refine S_seq ?_
 refine S_seq ?_
 refine S_reg [true] rfl rfl ?_
 refine J_st (R_assign rfl) rfl (J_done ?_)
 refine S_block ?_
 refine S_loop (fun (k : Nat) => [(4, .int .i64 0), (5, .slice (some ⟨b3, 0, none⟩) 4 4), (6, .int .i64 ((k : Nat) : Int))]) (fun (k : Nat) w' => Ext w w' ∧ w8.heap.size ≤ w'.heap.size ∧ Blk w' b1 (Enc.enc x) ∧ Blk w' b2 (Enc.enc y) ∧ Blk w' b3 [.int .i64 (ordI x.epoch y.epoch), .int .i64 (ordI x.op y.op), .int .i64 (ordI x.key y.key), .int .i64 (ordI x.val y.val)] ∧ k ≤ 4 ∧ firstNZ (List.drop k [ordI x.epoch y.epoch, ordI x.op y.op, ordI x.key y.key, ordI x.val y.val]) = firstNZ [ordI x.epoch y.epoch, ordI x.op y.op, ordI x.key y.key, ordI x.val y.val]) (fun (k : Nat) => 4 - k) 0 ⟨rfl, rfl, rfl, trivial⟩ ⟨E, Nat.le_refl _, h1, h2, h3, Nat.zero_le _, rfl⟩ ?_
 clear E h1 h2 h3
 rintro k w9 ⟨E, z9, h1, h2, h3, hk, hI⟩
 refine S_seq ?_
 refine S_seq ?_
 refine S_reg [true, true] rfl rfl ?_
 refine J_st (R_move rfl) rfl (J_st (R_lss rfl rfl) rfl (J_done ?_))
 refine S_cond rfl (fun hc1 => ?_) (fun hc1 => ?_)
 ·have hc1n : k < 4 := by first | (have h := of_decide_eq_true hc1; omega) | (have h := hc1; simp at h; omega)
  refine S_skip ?_
  refine S_seq ?_
  refine S_block ?_
  refine S_seq ?_
  refine S_reg [true, true, true, true, true] rfl rfl ?_
  refine J_st (R_move rfl) rfl (J_st (R_move rfl) rfl ?_)
  have hi1 : k < [ordI x.epoch y.epoch, ordI x.op y.op, ordI x.key y.key, ordI x.val y.val].length := (by first | assumption | omega | (simp only [List.length_set]; first | assumption | omega) | (simp only [List.getElem_set_self, List.length_set]; first | assumption | omega) | (simp only [setW, setLk, List.length_set]; first | assumption | omega) | (simp; done))
  refine J_st (R_index (i := k) sl29 rfl rfl (Blk.rd (α := Int) (xs := [ordI x.epoch y.epoch, ordI x.op y.op, ordI x.key y.key, ordI x.val y.val]) (by decide) h3 rfl (by simp [maxLen])) hi1) rfl (J_st (R_load sc3 rfl (((Blk.rd (α := Int) (xs := [ordI x.epoch y.epoch, ordI x.op y.op, ordI x.key y.key, ordI x.val y.val]) (by decide) h3 rfl (by simp [maxLen])).get hi1).one 0 rfl)) rfl (J_st (R_neq rfl rfl) rfl (J_done ?_)))
  refine S_cond rfl (fun hc2 => ?_) (fun hc2 => ?_)
  ·refine S_seq ?_
   refine S_reg [true, true, true, true, true] rfl rfl ?_
   refine J_st (R_move rfl) rfl (J_st (R_move rfl) rfl (J_st (R_index (i := k) sl29 rfl rfl (Blk.rd (α := Int) (xs := [ordI x.epoch y.epoch, ordI x.op y.op, ordI x.key y.key, ordI x.val y.val]) (by decide) h3 rfl (by simp [maxLen])) hi1) rfl (J_st (R_load sc3 rfl (((Blk.rd (α := Int) (xs := [ordI x.epoch y.epoch, ordI x.op y.op, ordI x.key y.key, ordI x.val y.val]) (by decide) h3 rfl (by simp [maxLen])).get hi1).one 0 rfl)) rfl (J_st (R_assign rfl) rfl (J_done ?_)))))
   refine S_ret (E_inB_ret (E_lp_ret (E_inB_ret (E_done1 rfl rfl E ?_))))
   exact cellOrd_a (firstNZ_yes hI (by simpa using hc1n) (by simpa using hc2))
  ·refine S_skip ?_
   refine S_nil (E_inB ?_)
   refine S_reg [true, true, true] rfl rfl ?_
   refine J_st (R_move rfl) rfl (J_st (R_add rfl rfl (add_one hc1n (by first | assumption | (unfold maxLen; omega)))) rfl (J_st (R_assign rfl) rfl (J_done ?_)))
   refine S_nil (E_again (k + 1) (by omega) ⟨rfl, rfl, rfl, trivial⟩ ⟨E, (by omega), h1, h2, h3, (by omega), firstNZ_step hI (by simpa using hc1n) (by simpa using hc2)⟩)
 ·have hc1n : ¬ k < 4 := by first | (have h := of_decide_eq_false hc1; omega) | (have h := hc1; simp at h; omega)
  refine S_exit (E_lp_exit (E_inB_exit ?_))
  refine S_seq ?_
  refine S_reg [true] rfl rfl ?_
  refine J_st (R_assign rfl) rfl (J_done ?_)
  refine S_ret (E_done1 rfl rfl E ?_)
  exact cellOrd_b (firstNZ_no hI (by simp; omega))

set_option maxRecDepth 20000 in
theorem s_HasCell (vxs : Value) (xs : List Cell) (x : Cell) (w : World) (hxs : RdS w vxs xs) : Ct Try.prog 75 [vxs, .agg (Enc.enc x).toArray] w (fun v _ => v = .bool (decide (x ∈ xs))) := by
 refine ct_of Try.func75 rfl Try.ntmps75 rfl ?_
 refine S_sub [(0, vxs), (1, .agg (Enc.enc x).toArray)] ⟨rfl, rfl, trivial⟩ ?_
 have E : Ext w w := Ext.refl w
 refine S_seq ?_
 refine S_reg [false, true] rfl rfl ?_
 refine J_box rfl rfl (fun b1 w1 e1 s1 h1 => ?_)
 have g_b1 : w.heap.size ≤ b1 := by have := E.size; omega
 have y_b1 := h1.lt
 replace E := E.trans e1
 have z1 := e1.size
 refine J_st (R_assign rfl) rfl (J_done ?_)
 refine S_seq ?_
 refine S_seq ?_
 refine S_reg [true] rfl rfl ?_
 refine J_st (R_assign rfl) rfl (J_done ?_)
 refine S_block ?_
 refine S_loop (fun (k : Nat) => [(0, vxs), (3, .pointer (some ⟨b1, 0, none⟩)), (4, .bool false), (5, .int .i64 ((k : Nat) : Int))]) (fun (k : Nat) w' => Ext w w' ∧ w1.heap.size ≤ w'.heap.size ∧ Blk w' b1 (Enc.enc x) ∧ k ≤ xs.length ∧ x ∉ xs.take k) (fun (k : Nat) => xs.length - k) 0 ⟨rfl, rfl, rfl, rfl, trivial⟩ ⟨E, Nat.le_refl _, h1, Nat.zero_le _, (by simp)⟩ ?_
 clear E h1
 rintro k w2 ⟨E, z2, h1, hk, hI⟩
 refine S_seq ?_
 refine S_seq ?_
 refine S_reg [true, true, true, true] rfl rfl ?_
 refine J_st (R_move rfl) rfl (J_st (R_move rfl) rfl (J_st (R_len Try.underlying28 rfl (hxs.ext E).len) rfl (J_st (R_lss rfl rfl) rfl (J_done ?_))))
 refine S_cond rfl (fun hc1 => ?_) (fun hc1 => ?_)
 ·have hc1n : k < xs.length := by first | (have h := of_decide_eq_true hc1; omega) | (have h := hc1; simp at h; omega)
  refine S_skip ?_
  refine S_seq ?_
  refine S_block ?_
  refine S_seq ?_
  refine S_regD mixed [(0, true), (1, true), (2, true), (3, true), (4, true), (5, true)] (by decide +kernel) rfl (fun w3 e2 => ?_)
  replace E := E.trans e2; replace h1 := h1.ext e2
  have z3 := e2.size
  refine J_st (R_move rfl) rfl (J_st (R_move rfl) rfl ?_)
  have hi1 : k < xs.length := (by first | assumption | omega | (simp only [List.length_set]; first | assumption | omega) | (simp only [List.getElem_set_self, List.length_set]; first | assumption | omega) | (simp only [setW, setLk, List.length_set]; first | assumption | omega) | (simp; done))
  refine J_st (R_index (i := k) sl28 rfl rfl (hxs.ext E) hi1) rfl (J_st (R_loadS st74 rfl ((hxs.ext E).get hi1) rfl) rfl (J_st (R_loadS st74 rfl h1.at rfl) rfl (J_st (R_eqlS (eq74 (xs[k]'hi1) x) eqg74 rfl rfl) rfl (J_done ?_))))
  refine S_cond rfl (fun hc2 => ?_) (fun hc2 => ?_)
  ·refine S_seq ?_
   refine S_reg [true] rfl rfl ?_
   refine J_st (R_assign rfl) rfl (J_done ?_)
   refine S_ret (E_inB_ret (E_lp_ret (E_inB_ret (E_done1 rfl rfl E ?_))))
   exact has_yes hc1n (by simpa using hc2)
  ·refine S_skip ?_
   refine S_nil (E_inB ?_)
   refine S_reg [true, true, true] rfl rfl ?_
   refine J_st (R_move rfl) rfl (J_st (R_add rfl rfl (add_one hc1n hxs.1)) rfl (J_st (R_assign rfl) rfl (J_done ?_)))
   refine S_nil (E_again (k + 1) (by omega) ⟨rfl, rfl, rfl, rfl, trivial⟩ ⟨E, (by omega), h1, (by omega), has_step hI (by assumption) (by simpa using hc2)⟩)
 ·have hc1n : ¬ k < xs.length := by first | (have h := of_decide_eq_false hc1; omega) | (have h := hc1; simp at h; omega)
  refine S_exit (E_lp_exit (E_inB_exit ?_))
  refine S_seq ?_
  refine S_reg [true] rfl rfl ?_
  refine J_st (R_assign rfl) rfl (J_done ?_)
  refine S_ret (E_done1 rfl rfl E ?_)
  exact has_no hI (by omega)

set_option maxRecDepth 20000 in
theorem s_LeastOf (vxs : Value) (xs : List Cell) (op : Int) (epoch : Int) (key : Int) (w : World) (hxs : RdS w vxs xs) : Ct Try.prog 77 [vxs, .int .i64 op, .int .i64 epoch, .int .i64 key] w (fun v _ => v = .tuple [.int .i64 ((leastM xs op epoch key).1), .bool ((leastM xs op epoch key).2)].toArray) := by
 refine ct_of Try.func77 rfl Try.ntmps77 rfl ?_
 refine S_sub [(0, vxs), (1, .int .i64 op), (2, .int .i64 epoch), (3, .int .i64 key)] ⟨rfl, rfl, rfl, rfl, trivial⟩ ?_
 have E : Ext w w := Ext.refl w
 refine S_seq ?_
 refine S_reg [true, true] rfl rfl ?_
 refine J_st (R_assign rfl) rfl (J_st (R_assign rfl) rfl (J_done ?_))
 refine S_seq ?_
 refine S_reg [true] rfl rfl ?_
 refine J_st (R_assign rfl) rfl (J_done ?_)
 refine S_seq ?_
 refine S_reg [true] rfl rfl ?_
 refine J_st (R_assign rfl) rfl (J_done ?_)
 refine S_seq ?_
 refine S_seq ?_
 refine S_reg [true] rfl rfl ?_
 refine J_st (R_assign rfl) rfl (J_done ?_)
 refine S_block ?_
 refine S_loop (fun (xq : Nat × Int × Bool) => let ⟨k, n, s⟩ := xq; [(0, vxs), (1, .int .i64 op), (2, .int .i64 epoch), (3, .int .i64 key), (8, .int .i64 0), (9, .bool false), (10, .int .i64 n), (11, .bool s), (12, .int .i64 ((k : Nat) : Int))]) (fun (xq : Nat × Int × Bool) w' => let ⟨k, n, s⟩ := xq; Ext w w' ∧ w.heap.size ≤ w'.heap.size ∧ k ≤ xs.length ∧ leastGo op epoch key (xs.drop k) n s = leastM xs op epoch key) (fun (xq : Nat × Int × Bool) => let ⟨k, n, s⟩ := xq; xs.length - k) (0, 0, false) ⟨rfl, rfl, rfl, rfl, rfl, rfl, rfl, rfl, rfl, trivial⟩ ⟨E, Nat.le_refl _, Nat.zero_le _, rfl⟩ ?_
 clear E
 rintro ⟨k, n, s⟩ w1 ⟨E, z1, hk, hI⟩
 refine S_sub [(0, vxs), (1, .int .i64 op), (2, .int .i64 epoch), (3, .int .i64 key), (8, .int .i64 0), (9, .bool false), (10, .int .i64 n), (11, .bool s), (12, .int .i64 ((k : Nat) : Int))] ⟨rfl, rfl, rfl, rfl, rfl, rfl, rfl, rfl, rfl, trivial⟩ ?_
 refine S_seq ?_
 refine S_seq ?_
 refine S_reg [true, true, true, true] rfl rfl ?_
 refine J_st (R_move rfl) rfl (J_st (R_move rfl) rfl (J_st (R_len Try.underlying28 rfl (hxs.ext E).len) rfl (J_st (R_lss rfl rfl) rfl (J_done ?_))))
 refine S_cond rfl (fun hc1 => ?_) (fun hc1 => ?_)
 ·have hc1n : k < xs.length := by first | (have h := of_decide_eq_true hc1; omega) | (have h := hc1; simp at h; omega)
  refine S_skip ?_
  refine S_seq ?_
  refine S_block ?_
  refine S_seq ?_
  refine S_reg [true, true, true, true, false, false] rfl rfl ?_
  refine J_st (R_move rfl) rfl (J_st (R_move rfl) rfl ?_)
  have hi1 : k < xs.length := (by first | assumption | omega | (simp only [List.length_set]; first | assumption | omega) | (simp only [List.getElem_set_self, List.length_set]; first | assumption | omega) | (simp only [setW, setLk, List.length_set]; first | assumption | omega) | (simp; done))
  refine J_st (R_index (i := k) sl28 rfl rfl (hxs.ext E) hi1) rfl (J_st (R_loadS st74 rfl ((hxs.ext E).get hi1) rfl) rfl ?_)
  refine J_alloc st74 rfl (fun b1 w2 e1 s1 h1 => ?_)
  have g_b1 : w.heap.size ≤ b1 := by have := E.size; omega
  have y_b1 := h1.lt
  replace E := E.trans e1
  have z2 := e1.size
  refine J_storeS' (cs' := [.int .i64 ((xs[k]'hi1).op), .int .i64 ((xs[k]'hi1).epoch), .int .i64 ((xs[k]'hi1).key), .int .i64 ((xs[k]'hi1).val)]) st74 rfl rfl rfl rfl h1 (Nat.le_of_ble_eq_true rfl) rfl (fun w3 m1 h1' => ?_)
  replace h1 := h1'
  replace E := E.step m1 (fun g hg => by cases hg; omega)
  have z3 := m1.size
  refine J_done ?_
  refine S_seq ?_
  refine S_reg [true, true, true, true, true, true, true, true, true, true, true, true, true, true, true, true, true, true, true, true, true, true, true, true, true, true] rfl rfl ?_
  refine J_st (R_fieldAddr0 fl74_0 rfl) rfl (J_st (R_load sc3 rfl (h1.one 0 rfl)) rfl (J_st (R_move rfl) rfl (J_st (R_eql rfl rfl) rfl (J_st (R_move rfl) rfl ?_))))
  refine J_cut 21 [(0, vxs), (1, .int .i64 op), (2, .int .i64 epoch), (3, .int .i64 key), (8, .int .i64 0), (9, .bool false), (10, .int .i64 n), (11, .bool s), (12, .int .i64 ((k : Nat) : Int)), (13, .pointer (some ⟨b1, 0, none⟩)), (14, .int .i64 ((k : Nat) : Int)), (15, vxs), (16, .int .i64 ((xs.length : Nat) : Int)), (17, .bool (decide (((k : Nat) : Int) < ((xs.length : Nat) : Int)))), (20, vxs), (21, .int .i64 ((k : Nat) : Int)), (22, .pointer (some ⟨sblk vxs, soff vxs + k * 4, none⟩)), (23, .agg (Enc.enc (xs[k]'hi1)).toArray), (49, .bool ((((((xs[k]'hi1).op) == op) && (((xs[k]'hi1).epoch) == epoch)) && (((xs[k]'hi1).key) == key)) && ((!s) || (decide (((xs[k]'hi1).val) < n)))))] (fun w' => w3 = w') ?_ ?_
  ·refine J_if (gd := 28) rfl rfl (fun hg1 => ?_) (fun hg1 => ?_)
   ·refine J_gd rfl rfl (R_fieldAddr0 fl74_1 rfl) rfl (J_gd rfl rfl (R_load sc3 rfl (h1.one 1 rfl)) rfl (J_gd rfl rfl (R_move rfl) rfl (J_gd rfl rfl (R_eql rfl rfl) rfl (J_st (R_pickT rfl rfl) rfl (J_st (R_move rfl) rfl ?_)))))
    refine J_if (gd := 34) rfl rfl (fun hg2 => ?_) (fun hg2 => ?_)
    ·refine J_gd rfl rfl (R_fieldAddr0 fl74_2 rfl) rfl (J_gd rfl rfl (R_load sc3 rfl (h1.one 2 rfl)) rfl (J_gd rfl rfl (R_move rfl) rfl (J_gd rfl rfl (R_eql rfl rfl) rfl (J_st (R_pickT rfl rfl) rfl (J_st (R_move rfl) rfl ?_)))))
     refine J_if (gd := 40) rfl rfl (fun hg3 => ?_) (fun hg3 => ?_)
     ·refine J_gd rfl rfl (R_move rfl) rfl (J_gd rfl rfl (R_not rfl) rfl (J_gd rfl rfl (R_move rfl) rfl ?_))
      refine J_if (gd := 43) rfl rfl (fun hg4 => ?_) (fun hg4 => ?_)
      ·refine J_gdno rfl rfl rfl rfl (J_gdno rfl rfl rfl rfl (J_gdno rfl rfl rfl rfl (J_gdno rfl rfl rfl rfl (J_gd rfl rfl (R_pickT rfl rfl) rfl (J_st (R_pickT rfl rfl) rfl (J_cutEnd ⟨rfl, rfl, rfl, rfl, rfl, rfl, rfl, rfl, rfl, rfl, rfl, rfl, rfl, rfl, rfl, rfl, rfl, rfl, congrArg (fun b => some (Value.bool b)) (show true = ((((((xs[k]'hi1).op) == op) && (((xs[k]'hi1).epoch) == epoch)) && (((xs[k]'hi1).key) == key)) && ((!s) || (decide (((xs[k]'hi1).val) < n)))) by first | (rw [hg1, hg2, hg3, hg4] <;> rfl) | (simp [hg1, hg2, hg3, hg4]; done) | (simp only [nat_nlt] <;> simp)), trivial⟩ rfl))))))
      ·refine J_gd rfl rfl (R_fieldAddr0 fl74_3 rfl) rfl (J_gd rfl rfl (R_load sc3 rfl (h1.one 3 rfl)) rfl (J_gd rfl rfl (R_move rfl) rfl (J_gd rfl rfl (R_lss rfl rfl) rfl (J_gd rfl rfl (R_pickF rfl rfl) rfl (J_st (R_pickT rfl rfl) rfl (J_cutEnd ⟨rfl, rfl, rfl, rfl, rfl, rfl, rfl, rfl, rfl, rfl, rfl, rfl, rfl, rfl, rfl, rfl, rfl, rfl, congrArg (fun b => some (Value.bool b)) (show (decide (((xs[k]'hi1).val) < n)) = ((((((xs[k]'hi1).op) == op) && (((xs[k]'hi1).epoch) == epoch)) && (((xs[k]'hi1).key) == key)) && ((!s) || (decide (((xs[k]'hi1).val) < n)))) by first | (rw [hg1, hg2, hg3, hg4] <;> rfl) | (simp [hg1, hg2, hg3, hg4]; done) | (simp only [nat_nlt] <;> simp)), trivial⟩ rfl))))))
     ·refine J_gdno rfl rfl rfl rfl (J_gdno rfl rfl rfl rfl (J_gdno rfl rfl rfl rfl (J_gdx rfl rfl rfl (J_gdx rfl rfl rfl (J_gdx rfl rfl rfl (J_gdx rfl rfl rfl (J_gdno rfl rfl rfl rfl (J_st (R_pickF rfl rfl) rfl (J_cutEnd ⟨rfl, rfl, rfl, rfl, rfl, rfl, rfl, rfl, rfl, rfl, rfl, rfl, rfl, rfl, rfl, rfl, rfl, rfl, congrArg (fun b => some (Value.bool b)) (show false = ((((((xs[k]'hi1).op) == op) && (((xs[k]'hi1).epoch) == epoch)) && (((xs[k]'hi1).key) == key)) && ((!s) || (decide (((xs[k]'hi1).val) < n)))) by first | (rw [hg1, hg2, hg3] <;> rfl) | (simp [hg1, hg2, hg3]; done) | (simp only [nat_nlt] <;> simp)), trivial⟩ rfl)))))))))
    ·refine J_gdno rfl rfl rfl rfl (J_gdno rfl rfl rfl rfl (J_gdno rfl rfl rfl rfl (J_gdno rfl rfl rfl rfl (J_st (R_pickF rfl rfl) rfl (J_st (R_move rfl) rfl (J_gdno rfl rfl rfl rfl (J_gdno rfl rfl rfl rfl (J_gdno rfl rfl rfl rfl (J_gdx rfl rfl rfl (J_gdx rfl rfl rfl (J_gdx rfl rfl rfl (J_gdx rfl rfl rfl (J_gdno rfl rfl rfl rfl (J_st (R_pickF rfl rfl) rfl (J_cutEnd ⟨rfl, rfl, rfl, rfl, rfl, rfl, rfl, rfl, rfl, rfl, rfl, rfl, rfl, rfl, rfl, rfl, rfl, rfl, congrArg (fun b => some (Value.bool b)) (show false = ((((((xs[k]'hi1).op) == op) && (((xs[k]'hi1).epoch) == epoch)) && (((xs[k]'hi1).key) == key)) && ((!s) || (decide (((xs[k]'hi1).val) < n)))) by first | (rw [hg1, hg2] <;> rfl) | (simp [hg1, hg2]; done) | (simp only [nat_nlt] <;> simp)), trivial⟩ rfl)))))))))))))))
   ·refine J_gdno rfl rfl rfl rfl (J_gdno rfl rfl rfl rfl (J_gdno rfl rfl rfl rfl (J_gdno rfl rfl rfl rfl (J_st (R_pickF rfl rfl) rfl (J_st (R_move rfl) rfl (J_gdno rfl rfl rfl rfl (J_gdno rfl rfl rfl rfl (J_gdno rfl rfl rfl rfl (J_gdno rfl rfl rfl rfl (J_st (R_pickF rfl rfl) rfl (J_st (R_move rfl) rfl (J_gdno rfl rfl rfl rfl (J_gdno rfl rfl rfl rfl (J_gdno rfl rfl rfl rfl (J_gdx rfl rfl rfl (J_gdx rfl rfl rfl (J_gdx rfl rfl rfl (J_gdx rfl rfl rfl (J_gdno rfl rfl rfl rfl (J_st (R_pickF rfl rfl) rfl (J_cutEnd ⟨rfl, rfl, rfl, rfl, rfl, rfl, rfl, rfl, rfl, rfl, rfl, rfl, rfl, rfl, rfl, rfl, rfl, rfl, congrArg (fun b => some (Value.bool b)) (show false = ((((((xs[k]'hi1).op) == op) && (((xs[k]'hi1).epoch) == epoch)) && (((xs[k]'hi1).key) == key)) && ((!s) || (decide (((xs[k]'hi1).val) < n)))) by first | (rw [hg1] <;> rfl) | (simp [hg1]; done) | (simp only [nat_nlt] <;> simp)), trivial⟩ rfl)))))))))))))))))))))
  rintro _ rfl
  refine J_done ?_
  refine S_cond rfl (fun hc2 => ?_) (fun hc2 => ?_)
  ·refine S_seq ?_
   refine S_reg [true, true, true] rfl rfl ?_
   refine J_st (R_fieldAddr0 fl74_3 rfl) rfl (J_st (R_load sc3 rfl (h1.one 3 rfl)) rfl (J_st (R_assign rfl) rfl (J_done ?_)))
   refine S_reg [true] rfl rfl ?_
   refine J_st (R_assign rfl) rfl (J_done ?_)
   refine S_nil (E_inB ?_)
   refine S_reg [true, true, true] rfl rfl ?_
   refine J_st (R_move rfl) rfl (J_st (R_add rfl rfl (add_one hc1n hxs.1)) rfl (J_st (R_assign rfl) rfl (J_done ?_)))
   refine S_nil (E_again (k + 1, (xs[k]'hi1).val, true) (by simp; omega) ⟨rfl, rfl, rfl, rfl, rfl, rfl, rfl, rfl, rfl, trivial⟩ ⟨E, (by omega), (by omega), leastGo_yes hI hc1n (by simpa [slot] using hc2)⟩)
  ·refine S_skip ?_
   refine S_nil (E_inB ?_)
   refine S_reg [true, true, true] rfl rfl ?_
   refine J_st (R_move rfl) rfl (J_st (R_add rfl rfl (add_one hc1n hxs.1)) rfl (J_st (R_assign rfl) rfl (J_done ?_)))
   refine S_nil (E_again (k + 1, n, s) (by simp; omega) ⟨rfl, rfl, rfl, rfl, rfl, rfl, rfl, rfl, rfl, trivial⟩ ⟨E, (by omega), (by omega), leastGo_no hI hc1n (by simpa [slot] using hc2)⟩)
 ·have hc1n : ¬ k < xs.length := by first | (have h := of_decide_eq_false hc1; omega) | (have h := hc1; simp at h; omega)
  refine S_exit (E_lp_exit (E_inB_exit ?_))
  refine S_seq ?_
  refine S_reg [true, true, true, true] rfl rfl ?_
  refine J_st (R_move rfl) rfl (J_st (R_move rfl) rfl (J_st (R_assign rfl) rfl (J_st (R_assign rfl) rfl (J_done ?_))))
  refine S_ret (E_doneN (l := [.tmp 8, .tmp 9]) (vs := [.int .i64 n, .bool s]) rfl ⟨.tmp rfl, .tmp rfl, trivial⟩ rfl E ?_)
  simp only [← hI, List.drop_of_length_le (show xs.length ≤ k by omega), leastGo]

set_option maxRecDepth 20000 in
theorem s_CellsOk (vxs : Value) (xs : List Cell) (w : World) (hxs : RdS w vxs xs) : Ct Try.prog 64 [vxs] w (fun v _ => v = .bool ((adj xs).all cellLt)) := by
 refine ct_of Try.func64 rfl Try.ntmps64 rfl ?_
 refine S_sub [(0, vxs)] ⟨rfl, trivial⟩ ?_
 have E : Ext w w := Ext.refl w
 refine S_seq ?_
 refine S_reg [true] rfl rfl ?_
 refine J_st (R_assign rfl) rfl (J_done ?_)
 refine S_seq ?_
 refine S_seq ?_
 refine S_reg [true] rfl rfl ?_
 refine J_st (R_assign rfl) rfl (J_done ?_)
 refine S_block ?_
 refine S_loop (fun (j : Nat) => [(0, vxs), (2, .bool false), (3, .int .i64 ((j + 1 : Nat) : Int))]) (fun (j : Nat) w' => Ext w w' ∧ w.heap.size ≤ w'.heap.size ∧ ((adj xs).take j).all cellLt = true) (fun (j : Nat) => xs.length - j) 0 ⟨rfl, rfl, rfl, trivial⟩ ⟨E, Nat.le_refl _, rfl⟩ ?_
 clear E
 rintro j w1 ⟨E, z1, hI⟩
 have hlm := hxs.1
 unfold maxLen at hlm
 refine S_seq ?_
 refine S_seq ?_
 refine S_reg [true, true, true, true] rfl rfl ?_
 refine J_st (R_move rfl) rfl (J_st (R_move rfl) rfl (J_st (R_len Try.underlying28 rfl (hxs.ext E).len) rfl (J_st (R_lss rfl rfl) rfl (J_done ?_))))
 refine S_cond rfl (fun hc1 => ?_) (fun hc1 => ?_)
 ·have hc1n : j + 1 < xs.length := by first | (have h := of_decide_eq_true hc1; omega) | (have h := hc1; simp at h; omega)
  refine S_skip ?_
  refine S_seq ?_
  refine S_block ?_
  refine S_seq ?_
  refine S_regD mixed [(0, true), (1, true), (2, true), (3, true), (4, true), (5, true), (6, true), (7, true), (8, true), (9, false), (10, true)] (by decide +kernel) rfl (fun w2 e1 => ?_)
  replace E := E.trans e1
  have z2 := e1.size
  refine J_st (R_move rfl) rfl (J_st (R_move rfl) rfl (J_st (R_sub rfl rfl (sub_one (m := j) (by unfold maxLen; omega))) rfl ?_))
  have hi1 : j < xs.length := (by first | assumption | omega | (simp only [List.length_set]; first | assumption | omega) | (simp only [List.getElem_set_self, List.length_set]; first | assumption | omega) | (simp only [setW, setLk, List.length_set]; first | assumption | omega) | (simp; done))
  refine J_st (R_index (i := j) sl28 rfl rfl (hxs.ext E) hi1) rfl (J_st (R_loadS st74 rfl ((hxs.ext E).get hi1) rfl) rfl (J_st (R_move rfl) rfl (J_st (R_move rfl) rfl ?_)))
  have hi2 : j + 1 < xs.length := (by first | assumption | omega | (simp only [List.length_set]; first | assumption | omega) | (simp only [List.getElem_set_self, List.length_set]; first | assumption | omega) | (simp only [setW, setLk, List.length_set]; first | assumption | omega) | (simp; done))
  refine J_st (R_index (i := j + 1) sl28 rfl rfl (hxs.ext E) hi2) rfl (J_st (R_loadS st74 rfl ((hxs.ext E).get hi2) rfl) rfl ?_)
  refine J_call Try.call72 rfl (s_CellOrder (xs[j]'hi1) (xs[j + 1]'hi2) _ ) rfl (fun _ w3 e2 hv => ?_)
  subst hv
  replace E := E.trans e2
  have z3 := e2.size
  refine J_st (R_geq rfl rfl) rfl (J_done ?_)
  refine S_cond rfl (fun hc2 => ?_) (fun hc2 => ?_)
  ·refine S_seq ?_
   refine S_reg [true] rfl rfl ?_
   refine J_st (R_assign rfl) rfl (J_done ?_)
   refine S_ret (E_inB_ret (E_lp_ret (E_inB_ret (E_done1 rfl rfl E ?_))))
   exact adj_no hc1n (by simpa [cellLt] using hc2)
  ·refine S_skip ?_
   refine S_nil (E_inB ?_)
   refine S_reg [true, true, true] rfl rfl ?_
   refine J_st (R_move rfl) rfl (J_st (R_add rfl rfl (add_one hc1n hxs.1)) rfl (J_st (R_assign rfl) rfl (J_done ?_)))
   refine S_nil (E_again (j + 1) (by omega) ⟨rfl, rfl, rfl, trivial⟩ ⟨E, (by omega), adj_step hI (by assumption) (by simpa [cellLt] using hc2)⟩)
 ·have hc1n : ¬ j + 1 < xs.length := by first | (have h := of_decide_eq_false hc1; omega) | (have h := hc1; simp at h; omega)
  refine S_exit (E_lp_exit (E_inB_exit ?_))
  refine S_seq ?_
  refine S_reg [true] rfl rfl ?_
  refine J_st (R_assign rfl) rfl (J_done ?_)
  refine S_ret (E_done1 rfl rfl E ?_)
  exact adj_yes hI (by omega)

set_option maxRecDepth 20000 in
theorem c_CellsOk (vxs : Value) (xs : List Cell) (w : World) (hxs : RdS w vxs xs) : Ct Try.prog 30 [vxs] w (fun v _ => v = .bool ((adj xs).all cellLt)) := by
 refine ct_of Try.func30 rfl Try.ntmps30 rfl ?_
 refine S_sub [(0, vxs)] ⟨rfl, trivial⟩ ?_
 have E : Ext w w := Ext.refl w
 refine S_seq ?_
 refine S_reg [true] rfl rfl ?_
 refine J_st (R_assign rfl) rfl (J_done ?_)
 refine S_seq ?_
 refine S_seq ?_
 refine S_reg [true] rfl rfl ?_
 refine J_st (R_assign rfl) rfl (J_done ?_)
 refine S_block ?_
 refine S_loop (fun (j : Nat) => [(0, vxs), (2, .bool false), (3, .int .i64 ((j + 1 : Nat) : Int))]) (fun (j : Nat) w' => Ext w w' ∧ w.heap.size ≤ w'.heap.size ∧ ((adj xs).take j).all cellLt = true) (fun (j : Nat) => xs.length - j) 0 ⟨rfl, rfl, rfl, trivial⟩ ⟨E, Nat.le_refl _, rfl⟩ ?_
 clear E
 rintro j w1 ⟨E, z1, hI⟩
 have hlm := hxs.1
 unfold maxLen at hlm
 refine S_seq ?_
 refine S_seq ?_
 refine S_reg [true, true, true, true] rfl rfl ?_
 refine J_st (R_move rfl) rfl (J_st (R_move rfl) rfl (J_st (R_len Try.underlying28 rfl (hxs.ext E).len) rfl (J_st (R_lss rfl rfl) rfl (J_done ?_))))
 refine S_cond rfl (fun hc1 => ?_) (fun hc1 => ?_)
 ·have hc1n : j + 1 < xs.length := by first | (have h := of_decide_eq_true hc1; omega) | (have h := hc1; simp at h; omega)
  refine S_skip ?_
  refine S_seq ?_
  refine S_block ?_
  refine S_seq ?_
  refine S_regD mixed [(0, true), (1, true), (2, true), (3, true), (4, true), (5, true), (6, true), (7, true), (8, true), (9, false), (10, true)] (by decide +kernel) rfl (fun w2 e1 => ?_)
  replace E := E.trans e1
  have z2 := e1.size
  refine J_st (R_move rfl) rfl (J_st (R_move rfl) rfl (J_st (R_sub rfl rfl (sub_one (m := j) (by unfold maxLen; omega))) rfl ?_))
  have hi1 : j < xs.length := (by first | assumption | omega | (simp only [List.length_set]; first | assumption | omega) | (simp only [List.getElem_set_self, List.length_set]; first | assumption | omega) | (simp only [setW, setLk, List.length_set]; first | assumption | omega) | (simp; done))
  refine J_st (R_index (i := j) sl28 rfl rfl (hxs.ext E) hi1) rfl (J_st (R_loadS st74 rfl ((hxs.ext E).get hi1) rfl) rfl (J_st (R_move rfl) rfl (J_st (R_move rfl) rfl ?_)))
  have hi2 : j + 1 < xs.length := (by first | assumption | omega | (simp only [List.length_set]; first | assumption | omega) | (simp only [List.getElem_set_self, List.length_set]; first | assumption | omega) | (simp only [setW, setLk, List.length_set]; first | assumption | omega) | (simp; done))
  refine J_st (R_index (i := j + 1) sl28 rfl rfl (hxs.ext E) hi2) rfl (J_st (R_loadS st74 rfl ((hxs.ext E).get hi2) rfl) rfl ?_)
  refine J_call Try.call40 rfl (c_CellOrder (xs[j]'hi1) (xs[j + 1]'hi2) _ ) rfl (fun _ w3 e2 hv => ?_)
  subst hv
  replace E := E.trans e2
  have z3 := e2.size
  refine J_st (R_geq rfl rfl) rfl (J_done ?_)
  refine S_cond rfl (fun hc2 => ?_) (fun hc2 => ?_)
  ·refine S_seq ?_
   refine S_reg [true] rfl rfl ?_
   refine J_st (R_assign rfl) rfl (J_done ?_)
   refine S_ret (E_inB_ret (E_lp_ret (E_inB_ret (E_done1 rfl rfl E ?_))))
   exact adj_no hc1n (by simpa [cellLt] using hc2)
  ·refine S_skip ?_
   refine S_nil (E_inB ?_)
   refine S_reg [true, true, true] rfl rfl ?_
   refine J_st (R_move rfl) rfl (J_st (R_add rfl rfl (add_one hc1n hxs.1)) rfl (J_st (R_assign rfl) rfl (J_done ?_)))
   refine S_nil (E_again (j + 1) (by omega) ⟨rfl, rfl, rfl, trivial⟩ ⟨E, (by omega), adj_step hI (by assumption) (by simpa [cellLt] using hc2)⟩)
 ·have hc1n : ¬ j + 1 < xs.length := by first | (have h := of_decide_eq_false hc1; omega) | (have h := hc1; simp at h; omega)
  refine S_exit (E_lp_exit (E_inB_exit ?_))
  refine S_seq ?_
  refine S_reg [true] rfl rfl ?_
  refine J_st (R_assign rfl) rfl (J_done ?_)
  refine S_ret (E_done1 rfl rfl E ?_)
  exact adj_yes hI (by omega)

set_option maxRecDepth 20000 in
theorem s_l01In (x : Int) (lo : Int) (hi : Int) (w : World)  : Ct Try.prog 58 [.int .i64 x, .int .i64 lo, .int .i64 hi] w (fun v _ => v = .bool (win x lo hi)) := by
 refine ct_of Try.func58 rfl Try.ntmps58 rfl ?_
 refine S_sub [(0, .int .i64 x), (1, .int .i64 lo), (2, .int .i64 hi)] ⟨rfl, rfl, rfl, trivial⟩ ?_
 have E : Ext w w := Ext.refl w
 refine S_seq ?_
 refine S_reg [true] rfl rfl ?_
 refine J_st (R_assign rfl) rfl (J_done ?_)
 refine S_seq ?_
 refine S_reg [true, true, true, true, true, true, true, true, true] rfl rfl ?_
 refine J_st (R_move rfl) rfl (J_st (R_move rfl) rfl (J_st (R_geq rfl rfl) rfl (J_st (R_move rfl) rfl ?_)))
 refine J_cut 4 [(0, .int .i64 x), (1, .int .i64 lo), (2, .int .i64 hi), (6, .bool false), (14, .bool ((decide (lo ≤ x)) && (decide (x ≤ hi))))] (fun w' => w = w') ?_ ?_
 ·refine J_if (gd := 10) rfl rfl (fun hg1 => ?_) (fun hg1 => ?_)
  ·refine J_gd rfl rfl (R_move rfl) rfl (J_gd rfl rfl (R_move rfl) rfl (J_gd rfl rfl (R_leq rfl rfl) rfl (J_st (R_pickT rfl rfl) rfl (J_cutEnd ⟨rfl, rfl, rfl, rfl, congrArg (fun b => some (Value.bool b)) (show (decide (x ≤ hi)) = ((decide (lo ≤ x)) && (decide (x ≤ hi))) by first | (rw [hg1] <;> rfl) | (simp [hg1]; done) | (simp only [nat_nlt] <;> simp)), trivial⟩ rfl))))
  ·refine J_gdno rfl rfl rfl rfl (J_gdno rfl rfl rfl rfl (J_gdno rfl rfl rfl rfl (J_st (R_pickF rfl rfl) rfl (J_cutEnd ⟨rfl, rfl, rfl, rfl, congrArg (fun b => some (Value.bool b)) (show false = ((decide (lo ≤ x)) && (decide (x ≤ hi))) by first | (rw [hg1] <;> rfl) | (simp [hg1]; done) | (simp only [nat_nlt] <;> simp)), trivial⟩ rfl))))
 rintro _ rfl
 refine J_st (R_assign rfl) rfl (J_done ?_)
 refine S_ret (E_done1 rfl rfl E ?_)
 rfl

set_option maxRecDepth 20000 in
theorem c_within (x : Int) (lo : Int) (hi : Int) (w : World)  : Ct Try.prog 27 [.int .i64 x, .int .i64 lo, .int .i64 hi] w (fun v _ => v = .bool (win x lo hi)) := by
 refine ct_of Try.func27 rfl Try.ntmps27 rfl ?_
 refine S_sub [(0, .int .i64 x), (1, .int .i64 lo), (2, .int .i64 hi)] ⟨rfl, rfl, rfl, trivial⟩ ?_
 have E : Ext w w := Ext.refl w
 refine S_seq ?_
 refine S_reg [true] rfl rfl ?_
 refine J_st (R_assign rfl) rfl (J_done ?_)
 refine S_seq ?_
 refine S_reg [true, true, true, true, true, true, true, true, true] rfl rfl ?_
 refine J_st (R_move rfl) rfl (J_st (R_move rfl) rfl (J_st (R_geq rfl rfl) rfl (J_st (R_move rfl) rfl ?_)))
 refine J_cut 4 [(0, .int .i64 x), (1, .int .i64 lo), (2, .int .i64 hi), (6, .bool false), (14, .bool ((decide (lo ≤ x)) && (decide (x ≤ hi))))] (fun w' => w = w') ?_ ?_
 ·refine J_if (gd := 10) rfl rfl (fun hg1 => ?_) (fun hg1 => ?_)
  ·refine J_gd rfl rfl (R_move rfl) rfl (J_gd rfl rfl (R_move rfl) rfl (J_gd rfl rfl (R_leq rfl rfl) rfl (J_st (R_pickT rfl rfl) rfl (J_cutEnd ⟨rfl, rfl, rfl, rfl, congrArg (fun b => some (Value.bool b)) (show (decide (x ≤ hi)) = ((decide (lo ≤ x)) && (decide (x ≤ hi))) by first | (rw [hg1] <;> rfl) | (simp [hg1]; done) | (simp only [nat_nlt] <;> simp)), trivial⟩ rfl))))
  ·refine J_gdno rfl rfl rfl rfl (J_gdno rfl rfl rfl rfl (J_gdno rfl rfl rfl rfl (J_st (R_pickF rfl rfl) rfl (J_cutEnd ⟨rfl, rfl, rfl, rfl, congrArg (fun b => some (Value.bool b)) (show false = ((decide (lo ≤ x)) && (decide (x ≤ hi))) by first | (rw [hg1] <;> rfl) | (simp [hg1]; done) | (simp only [nat_nlt] <;> simp)), trivial⟩ rfl))))
 rintro _ rfl
 refine J_st (R_assign rfl) rfl (J_done ?_)
 refine S_ret (E_done1 rfl rfl E ?_)
 rfl

set_option maxHeartbeats 4000000 in
set_option maxRecDepth 20000 in
theorem c_NodeOk (cx : List Value) (x : Node) (w : World) (hx : Dat.R w 0 w.heap.size cx x) : Ct Try.prog 28 [.agg cx.toArray] w (fun v _ => v = .bool (nodeOk x)) := by
 refine ct_of Try.func28 rfl Try.ntmps28 rfl ?_
 obtain ⟨o1, rfl, hd1⟩ := Node.op hx
 refine S_sub [(0, .agg [.int .i64 x.kind, .int .i64 x.a, .int .i64 x.b, o1].toArray)] ⟨rfl, trivial⟩ ?_
 have E : Ext w w := Ext.refl w
 refine S_seq ?_
 refine S_reg [false, true] rfl rfl ?_
 refine J_box rfl rfl (fun b1 w1 e1 s1 h1 => ?_)
 have g_b1 : w.heap.size ≤ b1 := by have := E.size; omega
 have y_b1 := h1.lt
 replace E := E.trans e1
 have z1 := e1.size
 refine J_st (R_assign rfl) rfl (J_done ?_)
 refine S_seq ?_
 refine S_seq ?_
 refine S_reg [true, true] rfl rfl ?_
 refine J_st (R_fieldAddr0 fl45_0 rfl) rfl (J_st (R_load sc3 rfl (h1.one 0 rfl)) rfl (J_done ?_))
 refine S_cutG (fun (_ : Unit) => [(1, .pointer (some ⟨b1, 0, none⟩)), (2, .bool false)]) (fun (_ : Unit) w' => Ext w w' ∧ w1.heap.size ≤ w'.heap.size ∧ Blk w' b1 ([.int .i64 x.kind, .int .i64 x.a, .int .i64 x.b, o1]) ∧ kindOk x = true) ?_ ?_
 ·refine S_block ?_
  refine S_seq ?_
  refine S_reg [true, true] rfl rfl ?_
  refine J_st (R_eql rfl rfl) rfl (J_st (R_assign rfl) rfl (J_done ?_))
  refine S_cond rfl (fun hc1 => ?_) (fun hc1 => ?_)
  ·refine S_seq ?_
   refine S_reg [true, true, false, true, true, true, true, true, true] rfl rfl ?_
   refine J_st (R_fieldAddr0 fl45_1 rfl) rfl (J_st (R_load sc3 rfl (h1.one 1 rfl)) rfl ?_)
   refine J_call Try.call27 rfl (c_within x.a 0 999 _ ) rfl (fun _ w2 e2 hv => ?_)
   subst hv
   replace E := E.trans e2; replace h1 := h1.ext e2
   have z3 := e2.size
   refine J_st (R_not rfl) rfl (J_st (R_move rfl) rfl ?_)
   refine J_cut 4 [(0, .agg [.int .i64 x.kind, .int .i64 x.a, .int .i64 x.b, o1].toArray), (1, .pointer (some ⟨b1, 0, none⟩)), (2, .bool false), (5, .pointer (some ⟨b1, 0, none⟩)), (6, .int .i64 x.kind), (7, .bool (x.kind == 2)), (8, .bool (x.kind == 2)), (17, .bool ((!(win x.a 0 999)) || (x.b != 0)))] (fun w' => w2 = w') ?_ ?_
   ·refine J_if (gd := 13) rfl rfl (fun hg1 => ?_) (fun hg1 => ?_)
    ·refine J_gdno rfl rfl rfl rfl (J_gdno rfl rfl rfl rfl (J_gdno rfl rfl rfl rfl (J_st (R_pickT rfl rfl) rfl (J_cutEnd ⟨rfl, rfl, rfl, rfl, rfl, rfl, rfl, congrArg (fun b => some (Value.bool b)) (show true = ((!(win x.a 0 999)) || (x.b != 0)) by first | (rw [hg1] <;> rfl) | (simp [hg1]; done) | (simp only [nat_nlt] <;> simp)), trivial⟩ rfl))))
    ·refine J_gd rfl rfl (R_fieldAddr0 fl45_2 rfl) rfl (J_gd rfl rfl (R_load sc3 rfl (h1.one 2 rfl)) rfl (J_gd rfl rfl (R_neq rfl rfl) rfl (J_st (R_pickF rfl rfl) rfl (J_cutEnd ⟨rfl, rfl, rfl, rfl, rfl, rfl, rfl, congrArg (fun b => some (Value.bool b)) (show (x.b != 0) = ((!(win x.a 0 999)) || (x.b != 0)) by first | (rw [hg1] <;> rfl) | (simp [hg1]; done) | (simp only [nat_nlt] <;> simp)), trivial⟩ rfl))))
   rintro _ rfl
   refine J_done ?_
   refine S_cond rfl (fun hc2 => ?_) (fun hc2 => ?_)
   ·refine S_seq ?_
    refine S_reg [true] rfl rfl ?_
    refine J_st (R_assign rfl) rfl (J_done ?_)
    refine S_ret (E_inB_ret (E_cut_ret (E_done1 rfl rfl E ?_)))
    exact node_k (by rw [node_2 (by assumption)]; exact kx (by assumption))
   ·refine S_skip ?_
    refine S_nil (E_inB ?_)
    refine S_nil (E_cutG () ⟨rfl, rfl, trivial⟩ ⟨E, (by omega), h1, (by rw [node_2 (by assumption)]; exact ky (by assumption))⟩)
  ·refine S_seq ?_
   refine S_reg [true, true] rfl rfl ?_
   refine J_st (R_eql rfl rfl) rfl (J_st (R_assign rfl) rfl (J_done ?_))
   refine S_cond rfl (fun hc3 => ?_) (fun hc3 => ?_)
   ·refine S_seq ?_
    refine S_reg [true, true, false, true, true, true, true, true, true, true, false, true, true] rfl rfl ?_
    refine J_st (R_fieldAddr0 fl45_1 rfl) rfl (J_st (R_load sc3 rfl (h1.one 1 rfl)) rfl ?_)
    refine J_call Try.call27 rfl (c_within x.a 1 10 _ ) rfl (fun _ w4 e3 hv => ?_)
    subst hv
    replace E := E.trans e3; replace h1 := h1.ext e3
    have z4 := e3.size
    refine J_st (R_not rfl) rfl (J_st (R_move rfl) rfl ?_)
    refine J_cut 8 [(0, .agg [.int .i64 x.kind, .int .i64 x.a, .int .i64 x.b, o1].toArray), (1, .pointer (some ⟨b1, 0, none⟩)), (2, .bool false), (5, .pointer (some ⟨b1, 0, none⟩)), (6, .int .i64 x.kind), (7, .bool (x.kind == 2)), (8, .bool (x.kind == 2)), (18, .bool (x.kind == 3)), (19, .bool (x.kind == 3)), (32, .bool ((!(win x.a 1 10)) || (!(win x.b 0 (IntKind.i64.wrap (x.a - 1))))))] (fun w' => Ext w w' ∧ w4.heap.size ≤ w'.heap.size ∧ Blk w' b1 ([.int .i64 x.kind, .int .i64 x.a, .int .i64 x.b, o1])) ?_ ?_
    ·refine J_if (gd := 24) rfl rfl (fun hg2 => ?_) (fun hg2 => ?_)
     ·refine J_gdno rfl rfl rfl rfl (J_gdno rfl rfl rfl rfl (J_gdno rfl rfl rfl rfl (J_gdno rfl rfl rfl rfl (J_gdno rfl rfl rfl rfl ?_))))
      refine J_ungno rfl rfl rfl rfl ?_
      refine J_gdno rfl rfl rfl rfl (J_st (R_pickT rfl rfl) rfl (J_cutEnd ⟨rfl, rfl, rfl, rfl, rfl, rfl, rfl, rfl, rfl, congrArg (fun b => some (Value.bool b)) (show true = ((!(win x.a 1 10)) || (!(win x.b 0 (IntKind.i64.wrap (x.a - 1))))) by first | (rw [hg2] <;> rfl) | (simp [hg2]; done) | (simp only [nat_nlt] <;> simp)), trivial⟩ ⟨E, (by omega), h1⟩))
     ·refine J_gd rfl rfl (R_fieldAddr0 fl45_2 rfl) rfl (J_gd rfl rfl (R_load sc3 rfl (h1.one 2 rfl)) rfl (J_gd rfl rfl (R_fieldAddr0 fl45_1 rfl) rfl (J_gd rfl rfl (R_load sc3 rfl (h1.one 1 rfl)) rfl (J_gd rfl rfl (R_sub rfl rfl rfl) rfl ?_))))
      refine J_ung rfl rfl ?_
      refine J_call Try.call27 rfl (c_within x.b 0 (IntKind.i64.wrap (x.a - 1)) _ ) rfl (fun _ w6 e4 hv => ?_)
      subst hv
      replace E := E.trans e4; replace h1 := h1.ext e4
      have z5 := e4.size
      refine J_gd rfl rfl (R_not rfl) rfl (J_st (R_pickF rfl rfl) rfl (J_cutEnd ⟨rfl, rfl, rfl, rfl, rfl, rfl, rfl, rfl, rfl, congrArg (fun b => some (Value.bool b)) (show (!(win x.b 0 (IntKind.i64.wrap (x.a - 1)))) = ((!(win x.a 1 10)) || (!(win x.b 0 (IntKind.i64.wrap (x.a - 1))))) by first | (rw [hg2] <;> rfl) | (simp [hg2]; done) | (simp only [nat_nlt] <;> simp)), trivial⟩ ⟨E, (by omega), h1⟩))
    clear E h1
    rintro w5 ⟨E, z6, h1⟩
    refine J_done ?_
    refine S_cond rfl (fun hc4 => ?_) (fun hc4 => ?_)
    ·refine S_seq ?_
     refine S_reg [true] rfl rfl ?_
     refine J_st (R_assign rfl) rfl (J_done ?_)
     refine S_ret (E_inB_ret (E_cut_ret (E_done1 rfl rfl E ?_)))
     exact node_k (by rw [node_3 (by assumption)]; exact kx (by assumption))
    ·refine S_skip ?_
     refine S_nil (E_inB ?_)
     refine S_nil (E_cutG () ⟨rfl, rfl, trivial⟩ ⟨E, (by omega), h1, (by rw [node_3 (by assumption)]; exact ky (by assumption))⟩)
   ·refine S_seq ?_
    refine S_reg [true, true] rfl rfl ?_
    refine J_st (R_eql rfl rfl) rfl (J_st (R_assign rfl) rfl (J_done ?_))
    refine S_cond rfl (fun hc5 => ?_) (fun hc5 => ?_)
    ·refine S_seq ?_
     refine S_reg [true, true, false, true, true, true, true, true, true] rfl rfl ?_
     refine J_st (R_fieldAddr0 fl45_1 rfl) rfl (J_st (R_load sc3 rfl (h1.one 1 rfl)) rfl ?_)
     refine J_call Try.call27 rfl (c_within x.a 0 99 _ ) rfl (fun _ w7 e5 hv => ?_)
     subst hv
     replace E := E.trans e5; replace h1 := h1.ext e5
     have z7 := e5.size
     refine J_st (R_not rfl) rfl (J_st (R_move rfl) rfl ?_)
     refine J_cut 4 [(0, .agg [.int .i64 x.kind, .int .i64 x.a, .int .i64 x.b, o1].toArray), (1, .pointer (some ⟨b1, 0, none⟩)), (2, .bool false), (5, .pointer (some ⟨b1, 0, none⟩)), (6, .int .i64 x.kind), (7, .bool (x.kind == 2)), (8, .bool (x.kind == 2)), (18, .bool (x.kind == 3)), (19, .bool (x.kind == 3)), (33, .bool (x.kind == 4)), (34, .bool (x.kind == 4)), (43, .bool ((!(win x.a 0 99)) || (x.b != 0)))] (fun w' => w7 = w') ?_ ?_
     ·refine J_if (gd := 39) rfl rfl (fun hg3 => ?_) (fun hg3 => ?_)
      ·refine J_gdno rfl rfl rfl rfl (J_gdno rfl rfl rfl rfl (J_gdno rfl rfl rfl rfl (J_st (R_pickT rfl rfl) rfl (J_cutEnd ⟨rfl, rfl, rfl, rfl, rfl, rfl, rfl, rfl, rfl, rfl, rfl, congrArg (fun b => some (Value.bool b)) (show true = ((!(win x.a 0 99)) || (x.b != 0)) by first | (rw [hg3] <;> rfl) | (simp [hg3]; done) | (simp only [nat_nlt] <;> simp)), trivial⟩ rfl))))
      ·refine J_gd rfl rfl (R_fieldAddr0 fl45_2 rfl) rfl (J_gd rfl rfl (R_load sc3 rfl (h1.one 2 rfl)) rfl (J_gd rfl rfl (R_neq rfl rfl) rfl (J_st (R_pickF rfl rfl) rfl (J_cutEnd ⟨rfl, rfl, rfl, rfl, rfl, rfl, rfl, rfl, rfl, rfl, rfl, congrArg (fun b => some (Value.bool b)) (show (x.b != 0) = ((!(win x.a 0 99)) || (x.b != 0)) by first | (rw [hg3] <;> rfl) | (simp [hg3]; done) | (simp only [nat_nlt] <;> simp)), trivial⟩ rfl))))
     rintro _ rfl
     refine J_done ?_
     refine S_cond rfl (fun hc6 => ?_) (fun hc6 => ?_)
     ·refine S_seq ?_
      refine S_reg [true] rfl rfl ?_
      refine J_st (R_assign rfl) rfl (J_done ?_)
      refine S_ret (E_inB_ret (E_cut_ret (E_done1 rfl rfl E ?_)))
      exact node_k (by rw [node_4 (by assumption)]; exact kx (by assumption))
     ·refine S_skip ?_
      refine S_nil (E_inB ?_)
      refine S_nil (E_cutG () ⟨rfl, rfl, trivial⟩ ⟨E, (by omega), h1, (by rw [node_4 (by assumption)]; exact ky (by assumption))⟩)
    ·refine S_seq ?_
     refine S_seq ?_
     refine S_reg [true, true] rfl rfl ?_
     refine J_st (R_eql rfl rfl) rfl (J_st (R_assign rfl) rfl (J_done ?_))
     refine S_cond rfl (fun hc7 => ?_) (fun hc7 => ?_)
     ·refine S_skip ?_
      refine S_condTe rfl hc7 ?_
      refine S_seq ?_
      refine S_reg [true, true, true, true, true, true, true, true] rfl rfl ?_
      refine J_st (R_fieldAddr0 fl45_1 rfl) rfl (J_st (R_load sc3 rfl (h1.one 1 rfl)) rfl (J_st (R_neq rfl rfl) rfl (J_st (R_move rfl) rfl ?_)))
      refine J_cut 4 [(0, .agg [.int .i64 x.kind, .int .i64 x.a, .int .i64 x.b, o1].toArray), (1, .pointer (some ⟨b1, 0, none⟩)), (2, .bool false), (5, .pointer (some ⟨b1, 0, none⟩)), (6, .int .i64 x.kind), (7, .bool (x.kind == 2)), (8, .bool (x.kind == 2)), (18, .bool (x.kind == 3)), (19, .bool (x.kind == 3)), (33, .bool (x.kind == 4)), (34, .bool (x.kind == 4)), (44, .bool (x.kind == 1)), (45, .bool (x.kind == 1)), (57, .bool ((x.a != 0) || (x.b != 0)))] (fun w' => w1 = w') ?_ ?_
      ·refine J_if (gd := 53) rfl rfl (fun hg4 => ?_) (fun hg4 => ?_)
       ·refine J_gdno rfl rfl rfl rfl (J_gdno rfl rfl rfl rfl (J_gdno rfl rfl rfl rfl (J_st (R_pickT rfl rfl) rfl (J_cutEnd ⟨rfl, rfl, rfl, rfl, rfl, rfl, rfl, rfl, rfl, rfl, rfl, rfl, rfl, congrArg (fun b => some (Value.bool b)) (show true = ((x.a != 0) || (x.b != 0)) by first | (rw [hg4] <;> rfl) | (simp [hg4]; done) | (simp only [nat_nlt] <;> simp)), trivial⟩ rfl))))
       ·refine J_gd rfl rfl (R_fieldAddr0 fl45_2 rfl) rfl (J_gd rfl rfl (R_load sc3 rfl (h1.one 2 rfl)) rfl (J_gd rfl rfl (R_neq rfl rfl) rfl (J_st (R_pickF rfl rfl) rfl (J_cutEnd ⟨rfl, rfl, rfl, rfl, rfl, rfl, rfl, rfl, rfl, rfl, rfl, rfl, rfl, congrArg (fun b => some (Value.bool b)) (show (x.b != 0) = ((x.a != 0) || (x.b != 0)) by first | (rw [hg4] <;> rfl) | (simp [hg4]; done) | (simp only [nat_nlt] <;> simp)), trivial⟩ rfl))))
      rintro _ rfl
      refine J_done ?_
      refine S_cond rfl (fun hc8 => ?_) (fun hc8 => ?_)
      ·refine S_seq ?_
       refine S_reg [true] rfl rfl ?_
       refine J_st (R_assign rfl) rfl (J_done ?_)
       refine S_ret (E_inB_ret (E_cut_ret (E_done1 rfl rfl E ?_)))
       exact node_k (by rw [node_0 (by assumption) (by assumption) (by assumption)]; exact kx0 (by assumption))
      ·refine S_skip ?_
       refine S_nil (E_inB ?_)
       refine S_nil (E_cutG () ⟨rfl, rfl, trivial⟩ ⟨E, (by omega), h1, (by rw [node_0 (by assumption) (by assumption) (by assumption)]; exact ky0 (by assumption) (win_kind (by simp at *; omega)))⟩)
     ·refine S_seq ?_
      refine S_reg [true, true] rfl rfl ?_
      refine J_st (R_eql rfl rfl) rfl (J_st (R_assign rfl) rfl (J_done ?_))
      refine S_cond rfl (fun hc9 => ?_) (fun hc9 => ?_)
      ·refine S_skip ?_
       refine S_condTe rfl hc9 ?_
       refine S_seq ?_
       refine S_reg [true, true, true, true, true, true, true, true] rfl rfl ?_
       refine J_st (R_fieldAddr0 fl45_1 rfl) rfl (J_st (R_load sc3 rfl (h1.one 1 rfl)) rfl (J_st (R_neq rfl rfl) rfl (J_st (R_move rfl) rfl ?_)))
       refine J_cut 4 [(0, .agg [.int .i64 x.kind, .int .i64 x.a, .int .i64 x.b, o1].toArray), (1, .pointer (some ⟨b1, 0, none⟩)), (2, .bool false), (5, .pointer (some ⟨b1, 0, none⟩)), (6, .int .i64 x.kind), (7, .bool (x.kind == 2)), (8, .bool (x.kind == 2)), (18, .bool (x.kind == 3)), (19, .bool (x.kind == 3)), (33, .bool (x.kind == 4)), (34, .bool (x.kind == 4)), (44, .bool (x.kind == 5)), (45, .bool (x.kind == 1)), (46, .bool (x.kind == 5)), (57, .bool ((x.a != 0) || (x.b != 0)))] (fun w' => w1 = w') ?_ ?_
       ·refine J_if (gd := 53) rfl rfl (fun hg5 => ?_) (fun hg5 => ?_)
        ·refine J_gdno rfl rfl rfl rfl (J_gdno rfl rfl rfl rfl (J_gdno rfl rfl rfl rfl (J_st (R_pickT rfl rfl) rfl (J_cutEnd ⟨rfl, rfl, rfl, rfl, rfl, rfl, rfl, rfl, rfl, rfl, rfl, rfl, rfl, rfl, congrArg (fun b => some (Value.bool b)) (show true = ((x.a != 0) || (x.b != 0)) by first | (rw [hg5] <;> rfl) | (simp [hg5]; done) | (simp only [nat_nlt] <;> simp)), trivial⟩ rfl))))
        ·refine J_gd rfl rfl (R_fieldAddr0 fl45_2 rfl) rfl (J_gd rfl rfl (R_load sc3 rfl (h1.one 2 rfl)) rfl (J_gd rfl rfl (R_neq rfl rfl) rfl (J_st (R_pickF rfl rfl) rfl (J_cutEnd ⟨rfl, rfl, rfl, rfl, rfl, rfl, rfl, rfl, rfl, rfl, rfl, rfl, rfl, rfl, congrArg (fun b => some (Value.bool b)) (show (x.b != 0) = ((x.a != 0) || (x.b != 0)) by first | (rw [hg5] <;> rfl) | (simp [hg5]; done) | (simp only [nat_nlt] <;> simp)), trivial⟩ rfl))))
       rintro _ rfl
       refine J_done ?_
       refine S_cond rfl (fun hc10 => ?_) (fun hc10 => ?_)
       ·refine S_seq ?_
        refine S_reg [true] rfl rfl ?_
        refine J_st (R_assign rfl) rfl (J_done ?_)
        refine S_ret (E_inB_ret (E_cut_ret (E_done1 rfl rfl E ?_)))
        exact node_k (by rw [node_0 (by assumption) (by assumption) (by assumption)]; exact kx0 (by assumption))
       ·refine S_skip ?_
        refine S_nil (E_inB ?_)
        refine S_nil (E_cutG () ⟨rfl, rfl, trivial⟩ ⟨E, (by omega), h1, (by rw [node_0 (by assumption) (by assumption) (by assumption)]; exact ky0 (by assumption) (win_kind (by simp at *; omega)))⟩)
      ·refine S_seq ?_
       refine S_reg [true, true] rfl rfl ?_
       refine J_st (R_eql rfl rfl) rfl (J_st (R_assign rfl) rfl (J_done ?_))
       refine S_cond rfl (fun hc11 => ?_) (fun hc11 => ?_)
       ·refine S_skip ?_
        refine S_condTe rfl hc11 ?_
        refine S_seq ?_
        refine S_reg [true, true, true, true, true, true, true, true] rfl rfl ?_
        refine J_st (R_fieldAddr0 fl45_1 rfl) rfl (J_st (R_load sc3 rfl (h1.one 1 rfl)) rfl (J_st (R_neq rfl rfl) rfl (J_st (R_move rfl) rfl ?_)))
        refine J_cut 4 [(0, .agg [.int .i64 x.kind, .int .i64 x.a, .int .i64 x.b, o1].toArray), (1, .pointer (some ⟨b1, 0, none⟩)), (2, .bool false), (5, .pointer (some ⟨b1, 0, none⟩)), (6, .int .i64 x.kind), (7, .bool (x.kind == 2)), (8, .bool (x.kind == 2)), (18, .bool (x.kind == 3)), (19, .bool (x.kind == 3)), (33, .bool (x.kind == 4)), (34, .bool (x.kind == 4)), (44, .bool (x.kind == 6)), (45, .bool (x.kind == 1)), (46, .bool (x.kind == 5)), (47, .bool (x.kind == 6)), (57, .bool ((x.a != 0) || (x.b != 0)))] (fun w' => w1 = w') ?_ ?_
        ·refine J_if (gd := 53) rfl rfl (fun hg6 => ?_) (fun hg6 => ?_)
         ·refine J_gdno rfl rfl rfl rfl (J_gdno rfl rfl rfl rfl (J_gdno rfl rfl rfl rfl (J_st (R_pickT rfl rfl) rfl (J_cutEnd ⟨rfl, rfl, rfl, rfl, rfl, rfl, rfl, rfl, rfl, rfl, rfl, rfl, rfl, rfl, rfl, congrArg (fun b => some (Value.bool b)) (show true = ((x.a != 0) || (x.b != 0)) by first | (rw [hg6] <;> rfl) | (simp [hg6]; done) | (simp only [nat_nlt] <;> simp)), trivial⟩ rfl))))
         ·refine J_gd rfl rfl (R_fieldAddr0 fl45_2 rfl) rfl (J_gd rfl rfl (R_load sc3 rfl (h1.one 2 rfl)) rfl (J_gd rfl rfl (R_neq rfl rfl) rfl (J_st (R_pickF rfl rfl) rfl (J_cutEnd ⟨rfl, rfl, rfl, rfl, rfl, rfl, rfl, rfl, rfl, rfl, rfl, rfl, rfl, rfl, rfl, congrArg (fun b => some (Value.bool b)) (show (x.b != 0) = ((x.a != 0) || (x.b != 0)) by first | (rw [hg6] <;> rfl) | (simp [hg6]; done) | (simp only [nat_nlt] <;> simp)), trivial⟩ rfl))))
        rintro _ rfl
        refine J_done ?_
        refine S_cond rfl (fun hc12 => ?_) (fun hc12 => ?_)
        ·refine S_seq ?_
         refine S_reg [true] rfl rfl ?_
         refine J_st (R_assign rfl) rfl (J_done ?_)
         refine S_ret (E_inB_ret (E_cut_ret (E_done1 rfl rfl E ?_)))
         exact node_k (by rw [node_0 (by assumption) (by assumption) (by assumption)]; exact kx0 (by assumption))
        ·refine S_skip ?_
         refine S_nil (E_inB ?_)
         refine S_nil (E_cutG () ⟨rfl, rfl, trivial⟩ ⟨E, (by omega), h1, (by rw [node_0 (by assumption) (by assumption) (by assumption)]; exact ky0 (by assumption) (win_kind (by simp at *; omega)))⟩)
       ·refine S_seq ?_
        refine S_reg [true, true] rfl rfl ?_
        refine J_st (R_eql rfl rfl) rfl (J_st (R_assign rfl) rfl (J_done ?_))
        refine S_cond rfl (fun hc13 => ?_) (fun hc13 => ?_)
        ·refine S_skip ?_
         refine S_condTe rfl hc13 ?_
         refine S_seq ?_
         refine S_reg [true, true, true, true, true, true, true, true] rfl rfl ?_
         refine J_st (R_fieldAddr0 fl45_1 rfl) rfl (J_st (R_load sc3 rfl (h1.one 1 rfl)) rfl (J_st (R_neq rfl rfl) rfl (J_st (R_move rfl) rfl ?_)))
         refine J_cut 4 [(0, .agg [.int .i64 x.kind, .int .i64 x.a, .int .i64 x.b, o1].toArray), (1, .pointer (some ⟨b1, 0, none⟩)), (2, .bool false), (5, .pointer (some ⟨b1, 0, none⟩)), (6, .int .i64 x.kind), (7, .bool (x.kind == 2)), (8, .bool (x.kind == 2)), (18, .bool (x.kind == 3)), (19, .bool (x.kind == 3)), (33, .bool (x.kind == 4)), (34, .bool (x.kind == 4)), (44, .bool (x.kind == 7)), (45, .bool (x.kind == 1)), (46, .bool (x.kind == 5)), (47, .bool (x.kind == 6)), (48, .bool (x.kind == 7)), (57, .bool ((x.a != 0) || (x.b != 0)))] (fun w' => w1 = w') ?_ ?_
         ·refine J_if (gd := 53) rfl rfl (fun hg7 => ?_) (fun hg7 => ?_)
          ·refine J_gdno rfl rfl rfl rfl (J_gdno rfl rfl rfl rfl (J_gdno rfl rfl rfl rfl (J_st (R_pickT rfl rfl) rfl (J_cutEnd ⟨rfl, rfl, rfl, rfl, rfl, rfl, rfl, rfl, rfl, rfl, rfl, rfl, rfl, rfl, rfl, rfl, congrArg (fun b => some (Value.bool b)) (show true = ((x.a != 0) || (x.b != 0)) by first | (rw [hg7] <;> rfl) | (simp [hg7]; done) | (simp only [nat_nlt] <;> simp)), trivial⟩ rfl))))
          ·refine J_gd rfl rfl (R_fieldAddr0 fl45_2 rfl) rfl (J_gd rfl rfl (R_load sc3 rfl (h1.one 2 rfl)) rfl (J_gd rfl rfl (R_neq rfl rfl) rfl (J_st (R_pickF rfl rfl) rfl (J_cutEnd ⟨rfl, rfl, rfl, rfl, rfl, rfl, rfl, rfl, rfl, rfl, rfl, rfl, rfl, rfl, rfl, rfl, congrArg (fun b => some (Value.bool b)) (show (x.b != 0) = ((x.a != 0) || (x.b != 0)) by first | (rw [hg7] <;> rfl) | (simp [hg7]; done) | (simp only [nat_nlt] <;> simp)), trivial⟩ rfl))))
         rintro _ rfl
         refine J_done ?_
         refine S_cond rfl (fun hc14 => ?_) (fun hc14 => ?_)
         ·refine S_seq ?_
          refine S_reg [true] rfl rfl ?_
          refine J_st (R_assign rfl) rfl (J_done ?_)
          refine S_ret (E_inB_ret (E_cut_ret (E_done1 rfl rfl E ?_)))
          exact node_k (by rw [node_0 (by assumption) (by assumption) (by assumption)]; exact kx0 (by assumption))
         ·refine S_skip ?_
          refine S_nil (E_inB ?_)
          refine S_nil (E_cutG () ⟨rfl, rfl, trivial⟩ ⟨E, (by omega), h1, (by rw [node_0 (by assumption) (by assumption) (by assumption)]; exact ky0 (by assumption) (win_kind (by simp at *; omega)))⟩)
        ·refine S_reg [true, true] rfl rfl ?_
         refine J_st (R_eql rfl rfl) rfl (J_st (R_assign rfl) rfl (J_done ?_))
         refine S_cond rfl (fun hc15 => ?_) (fun hc15 => ?_)
         ·refine S_seq ?_
          refine S_reg [true, true, true, true, true, true, true, true] rfl rfl ?_
          refine J_st (R_fieldAddr0 fl45_1 rfl) rfl (J_st (R_load sc3 rfl (h1.one 1 rfl)) rfl (J_st (R_neq rfl rfl) rfl (J_st (R_move rfl) rfl ?_)))
          refine J_cut 4 [(0, .agg [.int .i64 x.kind, .int .i64 x.a, .int .i64 x.b, o1].toArray), (1, .pointer (some ⟨b1, 0, none⟩)), (2, .bool false), (5, .pointer (some ⟨b1, 0, none⟩)), (6, .int .i64 x.kind), (7, .bool (x.kind == 2)), (8, .bool (x.kind == 2)), (18, .bool (x.kind == 3)), (19, .bool (x.kind == 3)), (33, .bool (x.kind == 4)), (34, .bool (x.kind == 4)), (44, .bool (x.kind == 8)), (45, .bool (x.kind == 1)), (46, .bool (x.kind == 5)), (47, .bool (x.kind == 6)), (48, .bool (x.kind == 7)), (49, .bool (x.kind == 8)), (57, .bool ((x.a != 0) || (x.b != 0)))] (fun w' => w1 = w') ?_ ?_
          ·refine J_if (gd := 53) rfl rfl (fun hg8 => ?_) (fun hg8 => ?_)
           ·refine J_gdno rfl rfl rfl rfl (J_gdno rfl rfl rfl rfl (J_gdno rfl rfl rfl rfl (J_st (R_pickT rfl rfl) rfl (J_cutEnd ⟨rfl, rfl, rfl, rfl, rfl, rfl, rfl, rfl, rfl, rfl, rfl, rfl, rfl, rfl, rfl, rfl, rfl, congrArg (fun b => some (Value.bool b)) (show true = ((x.a != 0) || (x.b != 0)) by first | (rw [hg8] <;> rfl) | (simp [hg8]; done) | (simp only [nat_nlt] <;> simp)), trivial⟩ rfl))))
           ·refine J_gd rfl rfl (R_fieldAddr0 fl45_2 rfl) rfl (J_gd rfl rfl (R_load sc3 rfl (h1.one 2 rfl)) rfl (J_gd rfl rfl (R_neq rfl rfl) rfl (J_st (R_pickF rfl rfl) rfl (J_cutEnd ⟨rfl, rfl, rfl, rfl, rfl, rfl, rfl, rfl, rfl, rfl, rfl, rfl, rfl, rfl, rfl, rfl, rfl, congrArg (fun b => some (Value.bool b)) (show (x.b != 0) = ((x.a != 0) || (x.b != 0)) by first | (rw [hg8] <;> rfl) | (simp [hg8]; done) | (simp only [nat_nlt] <;> simp)), trivial⟩ rfl))))
          rintro _ rfl
          refine J_done ?_
          refine S_cond rfl (fun hc16 => ?_) (fun hc16 => ?_)
          ·refine S_seq ?_
           refine S_reg [true] rfl rfl ?_
           refine J_st (R_assign rfl) rfl (J_done ?_)
           refine S_ret (E_inB_ret (E_cut_ret (E_done1 rfl rfl E ?_)))
           exact node_k (by rw [node_0 (by assumption) (by assumption) (by assumption)]; exact kx0 (by assumption))
          ·refine S_skip ?_
           refine S_nil (E_inB ?_)
           refine S_nil (E_cutG () ⟨rfl, rfl, trivial⟩ ⟨E, (by omega), h1, (by rw [node_0 (by assumption) (by assumption) (by assumption)]; exact ky0 (by assumption) (win_kind (by simp at *; omega)))⟩)
         ·refine S_seq ?_
          refine S_reg [true] rfl rfl ?_
          refine J_st (R_assign rfl) rfl (J_done ?_)
          refine S_ret (E_inB_ret (E_cut_ret (E_done1 rfl rfl E ?_)))
          exact node_k (by rw [node_0 (by assumption) (by assumption) (by assumption), win_not (by simp at *; omega)]; rfl)
 ·clear E h1
  rintro _ w14 ⟨E, z2, h1, hkk⟩
  refine S_seq ?_
  refine S_seq ?_
  refine S_regD mixed [(0, true), (1, true), (2, true), (3, true), (4, true), (5, true), (6, true), (7, true), (8, true), (9, true), (10, true), (11, true), (12, true), (13, true), (14, true), (15, true), (16, true), (17, true), (18, true), (19, true), (20, true), (21, true), (22, true), (23, true), (24, true), (25, true), (26, true), (27, true), (28, true), (29, true), (30, true), (31, true)] (by decide +kernel) rfl (fun w15 e6 => ?_)
  replace E := E.trans e6; replace h1 := h1.ext e6
  have z8 := e6.size
  refine J_st (R_fieldAddr0 fl45_3 rfl) rfl (J_st (R_load sc29 rfl (h1.one 3 rfl)) rfl (J_st (R_len Try.underlying29 rfl (hd1.ext E).len) rfl (J_st (R_gtr rfl rfl) rfl (J_st (R_move rfl) rfl ?_))))
  refine J_cut 27 [(1, .pointer (some ⟨b1, 0, none⟩)), (2, .bool false), (89, .bool (((decide (2 < ((x.outs.length : Nat) : Int))) || ((x.kind == 8) && (decide (0 < ((x.outs.length : Nat) : Int))))) || ((((x.outs.length : Nat) : Int) == 2) && ((List.getD x.outs 0 default) == (List.getD x.outs 1 default)))))] (fun w' => w15 = w') ?_ ?_
  ·refine J_if (gd := 62) rfl rfl (fun hg9 => ?_) (fun hg9 => ?_)
   ·have hg9n : x.outs.length > 2 := by first | (have h := of_decide_eq_true hg9; omega) | (have h := hg9; simp at h; omega)
    refine J_gdno rfl rfl rfl rfl (J_gdno rfl rfl rfl rfl (J_gdno rfl rfl rfl rfl (J_gdno rfl rfl rfl rfl (J_gdx rfl rfl rfl (J_gdx rfl rfl rfl (J_gdx rfl rfl rfl (J_gdx rfl rfl rfl (J_gdno rfl rfl rfl rfl (J_st (R_pickT rfl rfl) rfl (J_st (R_move rfl) rfl (J_gdno rfl rfl rfl rfl (J_gdno rfl rfl rfl rfl (J_gdno rfl rfl rfl rfl (J_gdno rfl rfl rfl rfl (J_gdno rfl rfl rfl rfl (J_gdx rfl rfl rfl (J_gdx rfl rfl rfl (J_gdx rfl rfl rfl (J_gdx rfl rfl rfl (J_gdx rfl rfl rfl (J_gdx rfl rfl rfl (J_gdx rfl rfl rfl (J_gdx rfl rfl rfl (J_gdx rfl rfl rfl (J_gdno rfl rfl rfl rfl (J_st (R_pickT rfl rfl) rfl (J_cutEnd ⟨rfl, rfl, congrArg (fun b => some (Value.bool b)) (show true = (((decide (2 < ((x.outs.length : Nat) : Int))) || ((x.kind == 8) && (decide (0 < ((x.outs.length : Nat) : Int))))) || ((((x.outs.length : Nat) : Int) == 2) && ((List.getD x.outs 0 default) == (List.getD x.outs 1 default)))) by first | (rw [hg9] <;> rfl) | (simp [hg9]; done) | (simp only [nat_nlt] <;> simp)), trivial⟩ rfl)))))))))))))))))))))))))))
   ·have hg9n : ¬ x.outs.length > 2 := by first | (have h := of_decide_eq_false hg9; omega) | (have h := hg9; simp at h; omega)
    refine J_gd rfl rfl (R_fieldAddr0 fl45_0 rfl) rfl (J_gd rfl rfl (R_load sc3 rfl (h1.one 0 rfl)) rfl (J_gd rfl rfl (R_eql rfl rfl) rfl (J_gd rfl rfl (R_move rfl) rfl ?_)))
    refine J_if (gd := 66) rfl rfl (fun hg10 => ?_) (fun hg10 => ?_)
    ·refine J_gd rfl rfl (R_fieldAddr0 fl45_3 rfl) rfl (J_gd rfl rfl (R_load sc29 rfl (h1.one 3 rfl)) rfl (J_gd rfl rfl (R_len Try.underlying29 rfl (hd1.ext E).len) rfl (J_gd rfl rfl (R_gtr rfl rfl) rfl (J_gd rfl rfl (R_pickT rfl rfl) rfl (J_st (R_pickF rfl rfl) rfl (J_st (R_move rfl) rfl ?_))))))
     refine J_if (gd := 73) rfl rfl (fun hg11 => ?_) (fun hg11 => ?_)
     ·have hg11n : x.outs.length > 0 := by first | (have h := of_decide_eq_true hg11; omega) | (have h := hg11; simp at h; omega)
      refine J_gdno rfl rfl rfl rfl (J_gdno rfl rfl rfl rfl (J_gdno rfl rfl rfl rfl (J_gdno rfl rfl rfl rfl (J_gdno rfl rfl rfl rfl (J_gdx rfl rfl rfl (J_gdx rfl rfl rfl (J_gdx rfl rfl rfl (J_gdx rfl rfl rfl (J_gdx rfl rfl rfl (J_gdx rfl rfl rfl (J_gdx rfl rfl rfl (J_gdx rfl rfl rfl (J_gdx rfl rfl rfl (J_gdno rfl rfl rfl rfl (J_st (R_pickT rfl rfl) rfl (J_cutEnd ⟨rfl, rfl, congrArg (fun b => some (Value.bool b)) (show true = (((decide (2 < ((x.outs.length : Nat) : Int))) || ((x.kind == 8) && (decide (0 < ((x.outs.length : Nat) : Int))))) || ((((x.outs.length : Nat) : Int) == 2) && ((List.getD x.outs 0 default) == (List.getD x.outs 1 default)))) by first | (rw [hg9, hg10, hg11] <;> rfl) | (simp [hg9, hg10, hg11]; done) | (simp only [nat_nlt] <;> simp)), trivial⟩ rfl))))))))))))))))
     ·have hg11n : ¬ x.outs.length > 0 := by first | (have h := of_decide_eq_false hg11; omega) | (have h := hg11; simp at h; omega)
      refine J_gd rfl rfl (R_fieldAddr0 fl45_3 rfl) rfl (J_gd rfl rfl (R_load sc29 rfl (h1.one 3 rfl)) rfl (J_gd rfl rfl (R_len Try.underlying29 rfl (hd1.ext E).len) rfl (J_gd rfl rfl (R_eql rfl rfl) rfl (J_gd rfl rfl (R_move rfl) rfl ?_))))
      refine J_if (gd := 78) rfl rfl (fun hg12 => ?_) (fun hg12 => ?_)
      ·have hg12n : x.outs.length = 2 := by first | (have h := of_decide_eq_true hg12; omega) | (have h := hg12; simp at h; omega)
       refine J_gd rfl rfl (R_fieldAddr0 fl45_3 rfl) rfl (J_gd rfl rfl (R_load sc29 rfl (h1.one 3 rfl)) rfl (J_gd rfl rfl (R_index (i := 0) sl29 rfl rfl (hd1.rd.ext E) (by first | assumption | omega | (simp only [List.length_set]; first | assumption | omega) | (simp only [List.getElem_set_self, List.length_set]; first | assumption | omega) | (simp only [setW, setLk, List.length_set]; first | assumption | omega) | (simp; done))) rfl (J_gd rfl rfl (R_load sc3 rfl ((RdS.getD (hd1.rd.ext E) (i := 0) (by first | assumption | omega | (simp only [List.length_set]; first | assumption | omega) | (simp only [List.getElem_set_self, List.length_set]; first | assumption | omega) | (simp only [setW, setLk, List.length_set]; first | assumption | omega) | (simp; done))).one 0 rfl)) rfl (J_gd rfl rfl (R_fieldAddr0 fl45_3 rfl) rfl (J_gd rfl rfl (R_load sc29 rfl (h1.one 3 rfl)) rfl (J_gd rfl rfl (R_index (i := 1) sl29 rfl rfl (hd1.rd.ext E) (by first | assumption | omega | (simp only [List.length_set]; first | assumption | omega) | (simp only [List.getElem_set_self, List.length_set]; first | assumption | omega) | (simp only [setW, setLk, List.length_set]; first | assumption | omega) | (simp; done))) rfl (J_gd rfl rfl (R_load sc3 rfl ((RdS.getD (hd1.rd.ext E) (i := 1) (by first | assumption | omega | (simp only [List.length_set]; first | assumption | omega) | (simp only [List.getElem_set_self, List.length_set]; first | assumption | omega) | (simp only [setW, setLk, List.length_set]; first | assumption | omega) | (simp; done))).one 0 rfl)) rfl (J_gd rfl rfl (R_eql rfl rfl) rfl (J_gd rfl rfl (R_pickT rfl rfl) rfl (J_st (R_pickF rfl rfl) rfl (J_cutEnd ⟨rfl, rfl, congrArg (fun b => some (Value.bool b)) (show ((List.getD x.outs 0 default) == (List.getD x.outs 1 default)) = (((decide (2 < ((x.outs.length : Nat) : Int))) || ((x.kind == 8) && (decide (0 < ((x.outs.length : Nat) : Int))))) || ((((x.outs.length : Nat) : Int) == 2) && ((List.getD x.outs 0 default) == (List.getD x.outs 1 default)))) by first | (rw [hg9, hg10, hg11, hg12] <;> rfl) | (simp [hg9, hg10, hg11, hg12]; done) | (simp only [nat_nlt] <;> simp)), trivial⟩ rfl)))))))))))
      ·have hg12n : ¬ x.outs.length = 2 := by first | (have h := of_decide_eq_false hg12; omega) | (have h := hg12; simp at h; omega)
       refine J_gdno rfl rfl rfl rfl (J_gdno rfl rfl rfl rfl (J_gdno rfl rfl rfl rfl (J_gdno rfl rfl rfl rfl (J_gdno rfl rfl rfl rfl (J_gdno rfl rfl rfl rfl (J_gdno rfl rfl rfl rfl (J_gdno rfl rfl rfl rfl (J_gdno rfl rfl rfl rfl (J_gd rfl rfl (R_pickF rfl rfl) rfl (J_st (R_pickF rfl rfl) rfl (J_cutEnd ⟨rfl, rfl, congrArg (fun b => some (Value.bool b)) (show false = (((decide (2 < ((x.outs.length : Nat) : Int))) || ((x.kind == 8) && (decide (0 < ((x.outs.length : Nat) : Int))))) || ((((x.outs.length : Nat) : Int) == 2) && ((List.getD x.outs 0 default) == (List.getD x.outs 1 default)))) by first | (rw [hg9, hg10, hg11, hg12] <;> rfl) | (simp [hg9, hg10, hg11, hg12]; done) | (simp only [nat_nlt] <;> simp)), trivial⟩ rfl)))))))))))
    ·refine J_gdno rfl rfl rfl rfl (J_gdno rfl rfl rfl rfl (J_gdno rfl rfl rfl rfl (J_gdno rfl rfl rfl rfl (J_gd rfl rfl (R_pickF rfl rfl) rfl (J_st (R_pickF rfl rfl) rfl (J_st (R_move rfl) rfl (J_gd rfl rfl (R_fieldAddr0 fl45_3 rfl) rfl (J_gd rfl rfl (R_load sc29 rfl (h1.one 3 rfl)) rfl (J_gd rfl rfl (R_len Try.underlying29 rfl (hd1.ext E).len) rfl (J_gd rfl rfl (R_eql rfl rfl) rfl (J_gd rfl rfl (R_move rfl) rfl ?_)))))))))))
     refine J_if (gd := 78) rfl rfl (fun hg13 => ?_) (fun hg13 => ?_)
     ·have hg13n : x.outs.length = 2 := by first | (have h := of_decide_eq_true hg13; omega) | (have h := hg13; simp at h; omega)
      refine J_gd rfl rfl (R_fieldAddr0 fl45_3 rfl) rfl (J_gd rfl rfl (R_load sc29 rfl (h1.one 3 rfl)) rfl (J_gd rfl rfl (R_index (i := 0) sl29 rfl rfl (hd1.rd.ext E) (by first | assumption | omega | (simp only [List.length_set]; first | assumption | omega) | (simp only [List.getElem_set_self, List.length_set]; first | assumption | omega) | (simp only [setW, setLk, List.length_set]; first | assumption | omega) | (simp; done))) rfl (J_gd rfl rfl (R_load sc3 rfl ((RdS.getD (hd1.rd.ext E) (i := 0) (by first | assumption | omega | (simp only [List.length_set]; first | assumption | omega) | (simp only [List.getElem_set_self, List.length_set]; first | assumption | omega) | (simp only [setW, setLk, List.length_set]; first | assumption | omega) | (simp; done))).one 0 rfl)) rfl (J_gd rfl rfl (R_fieldAddr0 fl45_3 rfl) rfl (J_gd rfl rfl (R_load sc29 rfl (h1.one 3 rfl)) rfl (J_gd rfl rfl (R_index (i := 1) sl29 rfl rfl (hd1.rd.ext E) (by first | assumption | omega | (simp only [List.length_set]; first | assumption | omega) | (simp only [List.getElem_set_self, List.length_set]; first | assumption | omega) | (simp only [setW, setLk, List.length_set]; first | assumption | omega) | (simp; done))) rfl (J_gd rfl rfl (R_load sc3 rfl ((RdS.getD (hd1.rd.ext E) (i := 1) (by first | assumption | omega | (simp only [List.length_set]; first | assumption | omega) | (simp only [List.getElem_set_self, List.length_set]; first | assumption | omega) | (simp only [setW, setLk, List.length_set]; first | assumption | omega) | (simp; done))).one 0 rfl)) rfl (J_gd rfl rfl (R_eql rfl rfl) rfl (J_gd rfl rfl (R_pickT rfl rfl) rfl (J_st (R_pickF rfl rfl) rfl (J_cutEnd ⟨rfl, rfl, congrArg (fun b => some (Value.bool b)) (show ((List.getD x.outs 0 default) == (List.getD x.outs 1 default)) = (((decide (2 < ((x.outs.length : Nat) : Int))) || ((x.kind == 8) && (decide (0 < ((x.outs.length : Nat) : Int))))) || ((((x.outs.length : Nat) : Int) == 2) && ((List.getD x.outs 0 default) == (List.getD x.outs 1 default)))) by first | (rw [hg9, hg10, hg13] <;> rfl) | (simp [hg9, hg10, hg13]; done) | (simp only [nat_nlt] <;> simp)), trivial⟩ rfl)))))))))))
     ·have hg13n : ¬ x.outs.length = 2 := by first | (have h := of_decide_eq_false hg13; omega) | (have h := hg13; simp at h; omega)
      refine J_gdno rfl rfl rfl rfl (J_gdno rfl rfl rfl rfl (J_gdno rfl rfl rfl rfl (J_gdno rfl rfl rfl rfl (J_gdno rfl rfl rfl rfl (J_gdno rfl rfl rfl rfl (J_gdno rfl rfl rfl rfl (J_gdno rfl rfl rfl rfl (J_gdno rfl rfl rfl rfl (J_gd rfl rfl (R_pickF rfl rfl) rfl (J_st (R_pickF rfl rfl) rfl (J_cutEnd ⟨rfl, rfl, congrArg (fun b => some (Value.bool b)) (show false = (((decide (2 < ((x.outs.length : Nat) : Int))) || ((x.kind == 8) && (decide (0 < ((x.outs.length : Nat) : Int))))) || ((((x.outs.length : Nat) : Int) == 2) && ((List.getD x.outs 0 default) == (List.getD x.outs 1 default)))) by first | (rw [hg9, hg10, hg13] <;> rfl) | (simp [hg9, hg10, hg13]; done) | (simp only [nat_nlt] <;> simp)), trivial⟩ rfl)))))))))))
  rintro _ rfl
  refine J_done ?_
  refine S_cond rfl (fun hc17 => ?_) (fun hc17 => ?_)
  ·refine S_seq ?_
   refine S_reg [true] rfl rfl ?_
   refine J_st (R_assign rfl) rfl (J_done ?_)
   refine S_ret (E_done1 rfl rfl E ?_)
   exact node_t (by assumption)
  ·refine S_skip ?_
   refine S_seq ?_
   refine S_seq ?_
   refine S_reg [true, true, true, true] rfl rfl ?_
   refine J_st (R_fieldAddr0 fl45_3 rfl) rfl (J_st (R_load sc29 rfl (h1.one 3 rfl)) rfl (J_st (R_len Try.underlying29 rfl (hd1.ext E).len) rfl (J_st (R_move rfl) rfl (J_done ?_))))
   refine S_block ?_
   refine S_loop (fun (k : Nat) => [(2, .bool false), (91, o1), (92, .int .i64 ((x.outs.length : Nat) : Int)), (93, .int .i64 ((k : Nat) : Int))]) (fun (k : Nat) w' => Ext w w' ∧ w15.heap.size ≤ w'.heap.size ∧ Blk w' b1 ([.int .i64 x.kind, .int .i64 x.a, .int .i64 x.b, o1]) ∧ k ≤ x.outs.length ∧ (x.outs.take k).all (win · 0 7) = true) (fun (k : Nat) => x.outs.length - k) 0 ⟨rfl, rfl, rfl, rfl, trivial⟩ ⟨E, Nat.le_refl _, h1, Nat.zero_le _, rfl⟩ ?_
   clear E h1
   rintro k w17 ⟨E, z9, h1, hk, hI⟩
   refine S_seq ?_
   refine S_reg [true] rfl rfl ?_
   refine J_st (R_lss rfl rfl) rfl (J_done ?_)
   refine S_seq ?_
   refine S_cond rfl (fun hc18 => ?_) (fun hc18 => ?_)
   ·have hc18n : k < x.outs.length := by first | (have h := of_decide_eq_true hc18; omega) | (have h := hc18; simp at h; omega)
    refine S_skip ?_
    refine S_seq ?_
    refine S_block ?_
    refine S_seq ?_
    refine S_reg [true, true, true] rfl rfl ?_
    have hi1 : k < x.outs.length := (by first | assumption | omega | (simp only [List.length_set]; first | assumption | omega) | (simp only [List.getElem_set_self, List.length_set]; first | assumption | omega) | (simp only [setW, setLk, List.length_set]; first | assumption | omega) | (simp; done))
    refine J_st (R_index (i := k) sl29 rfl rfl (hd1.rd.ext E) hi1) rfl (J_st (R_load sc3 rfl (((hd1.rd.ext E).get hi1).one 0 rfl)) rfl (J_st (R_assign rfl) rfl (J_done ?_)))
    refine S_seq ?_
    refine S_reg [true, false, true] rfl rfl ?_
    refine J_st (R_move rfl) rfl ?_
    refine J_call Try.call27 rfl (c_within (x.outs[k]'hi1) 0 7 _ ) rfl (fun _ w18 e7 hv => ?_)
    subst hv
    replace E := E.trans e7; replace h1 := h1.ext e7
    have z10 := e7.size
    refine J_st (R_not rfl) rfl (J_done ?_)
    refine S_cond rfl (fun hc19 => ?_) (fun hc19 => ?_)
    ·refine S_seq ?_
     refine S_reg [true] rfl rfl ?_
     refine J_st (R_assign rfl) rfl (J_done ?_)
     refine S_ret (E_inB_ret (E_lp_ret (E_inB_ret (E_done1 rfl rfl E ?_))))
     exact node_l (by assumption)
    ·refine S_skip ?_
     refine S_nil (E_inB ?_)
     refine S_reg [true, true] rfl rfl ?_
     refine J_st (R_add rfl rfl (add_one hc18n (hd1.ext E).1.1)) rfl (J_st (R_move rfl) rfl (J_done ?_))
     refine S_nil (E_again (k + 1) (by omega) ⟨rfl, rfl, rfl, rfl, trivial⟩ ⟨E, (by omega), h1, (by omega), all_step hI (by assumption) (by simpa using (show (!(win x.outs[k] 0 7)) = false by assumption))⟩)
   ·have hc18n : ¬ k < x.outs.length := by first | (have h := of_decide_eq_false hc18; omega) | (have h := hc18; simp at h; omega)
    refine S_exit (E_lp_exit (E_inB_exit ?_))
    refine S_seq ?_
    refine S_reg [true] rfl rfl ?_
    refine J_st (R_assign rfl) rfl (J_done ?_)
    refine S_ret (E_done1 rfl rfl E ?_)
    exact node_y hkk (by assumption) hI (by omega)

set_option maxHeartbeats 4000000 in
set_option maxRecDepth 20000 in
theorem s_NodeOk (cx : List Value) (x : Node) (w : World) (hx : Dat.R w 0 w.heap.size cx x) : Ct Try.prog 62 [.agg cx.toArray] w (fun v _ => v = .bool (nodeOk x)) := by
 refine ct_of Try.func62 rfl Try.ntmps62 rfl ?_
 obtain ⟨o1, rfl, hd1⟩ := Node.op hx
 refine S_sub [(0, .agg [.int .i64 x.kind, .int .i64 x.a, .int .i64 x.b, o1].toArray)] ⟨rfl, trivial⟩ ?_
 have E : Ext w w := Ext.refl w
 refine S_seq ?_
 refine S_reg [false, true] rfl rfl ?_
 refine J_box rfl rfl (fun b1 w1 e1 s1 h1 => ?_)
 have g_b1 : w.heap.size ≤ b1 := by have := E.size; omega
 have y_b1 := h1.lt
 replace E := E.trans e1
 have z1 := e1.size
 refine J_st (R_assign rfl) rfl (J_done ?_)
 refine S_seq ?_
 refine S_reg [true, true, true, true] rfl rfl ?_
 refine J_st (R_fieldAddr0 fl45_1 rfl) rfl (J_st (R_load sc3 rfl (h1.one 1 rfl)) rfl (J_st (R_eql rfl rfl) rfl (J_st (R_assign rfl) rfl (J_done ?_))))
 refine S_seq ?_
 refine S_reg [true, true, true, true] rfl rfl ?_
 refine J_st (R_fieldAddr0 fl45_2 rfl) rfl (J_st (R_load sc3 rfl (h1.one 2 rfl)) rfl (J_st (R_eql rfl rfl) rfl (J_st (R_assign rfl) rfl (J_done ?_))))
 refine S_seq ?_
 refine S_seq ?_
 refine S_reg [true, true] rfl rfl ?_
 refine J_st (R_fieldAddr0 fl45_0 rfl) rfl (J_st (R_load sc3 rfl (h1.one 0 rfl)) rfl (J_done ?_))
 refine S_cutG (fun (xq : Bool × Bool) => let ⟨p0, q0⟩ := xq; [(1, .pointer (some ⟨b1, 0, none⟩)), (2, .bool false), (3, .bool p0), (4, .bool q0)]) (fun (xq : Bool × Bool) w' => let ⟨p0, q0⟩ := xq; Ext w w' ∧ w1.heap.size ≤ w'.heap.size ∧ Blk w' b1 ([.int .i64 x.kind, .int .i64 x.a, .int .i64 x.b, o1]) ∧ kindOk x = (win x.kind 1 8 && p0 && q0)) ?_ ?_
 ·refine S_block ?_
  refine S_seq ?_
  refine S_reg [true, true] rfl rfl ?_
  refine J_st (R_eql rfl rfl) rfl (J_st (R_assign rfl) rfl (J_done ?_))
  refine S_cond rfl (fun hc1 => ?_) (fun hc1 => ?_)
  ·refine S_reg [true, true, false, true] rfl rfl ?_
   refine J_st (R_fieldAddr0 fl45_1 rfl) rfl (J_st (R_load sc3 rfl (h1.one 1 rfl)) rfl ?_)
   refine J_call Try.call58 rfl (s_l01In x.a 0 999 _ ) rfl (fun _ w2 e2 hv => ?_)
   subst hv
   replace E := E.trans e2; replace h1 := h1.ext e2
   have z3 := e2.size
   refine J_st (R_assign rfl) rfl (J_done ?_)
   refine S_nil (E_inB ?_)
   refine S_nil (E_cutG (win x.a 0 999, x.b == 0) ⟨rfl, rfl, rfl, rfl, trivial⟩ ⟨E, (by omega), h1, (by rw [node_2 (by assumption), win_kind (n := x.kind) (by have := eq_of_beq (show (x.kind == 2) = true by assumption); omega), Bool.true_and])⟩)
  ·refine S_seq ?_
   refine S_reg [true, true] rfl rfl ?_
   refine J_st (R_eql rfl rfl) rfl (J_st (R_assign rfl) rfl (J_done ?_))
   refine S_cond rfl (fun hc2 => ?_) (fun hc2 => ?_)
   ·refine S_seq ?_
    refine S_reg [true, true, false, true] rfl rfl ?_
    refine J_st (R_fieldAddr0 fl45_1 rfl) rfl (J_st (R_load sc3 rfl (h1.one 1 rfl)) rfl ?_)
    refine J_call Try.call58 rfl (s_l01In x.a 1 10 _ ) rfl (fun _ w3 e3 hv => ?_)
    subst hv
    replace E := E.trans e3; replace h1 := h1.ext e3
    have z4 := e3.size
    refine J_st (R_assign rfl) rfl (J_done ?_)
    refine S_reg [true, true, true, true, true, false, true] rfl rfl ?_
    refine J_st (R_fieldAddr0 fl45_2 rfl) rfl (J_st (R_load sc3 rfl (h1.one 2 rfl)) rfl (J_st (R_fieldAddr0 fl45_1 rfl) rfl (J_st (R_load sc3 rfl (h1.one 1 rfl)) rfl (J_st (R_sub rfl rfl rfl) rfl ?_))))
    refine J_call Try.call58 rfl (s_l01In x.b 0 (IntKind.i64.wrap (x.a - 1)) _ ) rfl (fun _ w4 e4 hv => ?_)
    subst hv
    replace E := E.trans e4; replace h1 := h1.ext e4
    have z5 := e4.size
    refine J_st (R_assign rfl) rfl (J_done ?_)
    refine S_nil (E_inB ?_)
    refine S_nil (E_cutG (win x.a 1 10, win x.b 0 (IntKind.i64.wrap (x.a - 1))) ⟨rfl, rfl, rfl, rfl, trivial⟩ ⟨E, (by omega), h1, (by rw [node_3 (by assumption), win_kind (n := x.kind) (by have := eq_of_beq (show (x.kind == 3) = true by assumption); omega), Bool.true_and])⟩)
   ·refine S_seq ?_
    refine S_reg [true, true] rfl rfl ?_
    refine J_st (R_eql rfl rfl) rfl (J_st (R_assign rfl) rfl (J_done ?_))
    refine S_cond rfl (fun hc3 => ?_) (fun hc3 => ?_)
    ·refine S_reg [true, true, false, true] rfl rfl ?_
     refine J_st (R_fieldAddr0 fl45_1 rfl) rfl (J_st (R_load sc3 rfl (h1.one 1 rfl)) rfl ?_)
     refine J_call Try.call58 rfl (s_l01In x.a 0 99 _ ) rfl (fun _ w5 e5 hv => ?_)
     subst hv
     replace E := E.trans e5; replace h1 := h1.ext e5
     have z6 := e5.size
     refine J_st (R_assign rfl) rfl (J_done ?_)
     refine S_nil (E_inB ?_)
     refine S_nil (E_cutG (win x.a 0 99, x.b == 0) ⟨rfl, rfl, rfl, rfl, trivial⟩ ⟨E, (by omega), h1, (by rw [node_4 (by assumption), win_kind (n := x.kind) (by have := eq_of_beq (show (x.kind == 4) = true by assumption); omega), Bool.true_and])⟩)
    ·refine S_skip ?_
     refine S_nil (E_inB ?_)
     refine S_nil (E_cutG (x.a == 0, x.b == 0) ⟨rfl, rfl, rfl, rfl, trivial⟩ ⟨E, (by omega), h1, (node_0 (by assumption) (by assumption) (by assumption))⟩)
 ·clear E h1
  rintro ⟨p0, q0⟩ w6 ⟨E, z2, h1, hpq⟩
  refine S_sub [(1, .pointer (some ⟨b1, 0, none⟩)), (2, .bool false), (3, .bool p0), (4, .bool q0)] ⟨rfl, rfl, rfl, rfl, trivial⟩ ?_
  refine S_seq ?_
  refine S_seq ?_
  refine S_reg [true, true, false, true, true, true, true, true, true, true, true, true, true, true, true, true, true, true, true, true, true, true, true, true, true, true, true, true, true] rfl rfl ?_
  refine J_st (R_fieldAddr0 fl45_0 rfl) rfl (J_st (R_load sc3 rfl (h1.one 0 rfl)) rfl ?_)
  refine J_call Try.call58 rfl (s_l01In x.kind 1 8 _ ) rfl (fun _ w7 e6 hv => ?_)
  subst hv
  replace E := E.trans e6; replace h1 := h1.ext e6
  have z7 := e6.size
  refine J_st (R_not rfl) rfl (J_st (R_move rfl) rfl ?_)
  refine J_cut 24 [(1, .pointer (some ⟨b1, 0, none⟩)), (2, .bool false), (3, .bool p0), (4, .bool q0), (63, .bool (((((!(win x.kind 1 8)) || (!p0)) || (!q0)) || (decide (2 < ((x.outs.length : Nat) : Int)))) || ((x.kind == 8) && (decide (0 < ((x.outs.length : Nat) : Int))))))] (fun w' => w7 = w') ?_ ?_
  ·refine J_if (gd := 39) rfl rfl (fun hg1 => ?_) (fun hg1 => ?_)
   ·refine J_gdno rfl rfl rfl rfl (J_gdno rfl rfl rfl rfl (J_st (R_pickT rfl rfl) rfl (J_st (R_move rfl) rfl (J_gdno rfl rfl rfl rfl (J_gdno rfl rfl rfl rfl (J_st (R_pickT rfl rfl) rfl (J_st (R_move rfl) rfl (J_gdno rfl rfl rfl rfl (J_gdno rfl rfl rfl rfl (J_gdno rfl rfl rfl rfl (J_gdno rfl rfl rfl rfl (J_st (R_pickT rfl rfl) rfl (J_st (R_move rfl) rfl (J_gdno rfl rfl rfl rfl (J_gdno rfl rfl rfl rfl (J_gdno rfl rfl rfl rfl (J_gdno rfl rfl rfl rfl (J_gdx rfl rfl rfl (J_gdx rfl rfl rfl (J_gdx rfl rfl rfl (J_gdx rfl rfl rfl (J_gdno rfl rfl rfl rfl (J_st (R_pickT rfl rfl) rfl (J_cutEnd ⟨rfl, rfl, rfl, rfl, congrArg (fun b => some (Value.bool b)) (show true = (((((!(win x.kind 1 8)) || (!p0)) || (!q0)) || (decide (2 < ((x.outs.length : Nat) : Int)))) || ((x.kind == 8) && (decide (0 < ((x.outs.length : Nat) : Int))))) by first | (rw [hg1] <;> rfl) | (simp [hg1]; done) | (simp only [nat_nlt] <;> simp)), trivial⟩ rfl))))))))))))))))))))))))
   ·refine J_gd rfl rfl (R_move rfl) rfl (J_gd rfl rfl (R_not rfl) rfl (J_st (R_pickF rfl rfl) rfl (J_st (R_move rfl) rfl ?_)))
    refine J_if (gd := 43) rfl rfl (fun hg2 => ?_) (fun hg2 => ?_)
    ·refine J_gdno rfl rfl rfl rfl (J_gdno rfl rfl rfl rfl (J_st (R_pickT rfl rfl) rfl (J_st (R_move rfl) rfl (J_gdno rfl rfl rfl rfl (J_gdno rfl rfl rfl rfl (J_gdno rfl rfl rfl rfl (J_gdno rfl rfl rfl rfl (J_st (R_pickT rfl rfl) rfl (J_st (R_move rfl) rfl (J_gdno rfl rfl rfl rfl (J_gdno rfl rfl rfl rfl (J_gdno rfl rfl rfl rfl (J_gdno rfl rfl rfl rfl (J_gdx rfl rfl rfl (J_gdx rfl rfl rfl (J_gdx rfl rfl rfl (J_gdx rfl rfl rfl (J_gdno rfl rfl rfl rfl (J_st (R_pickT rfl rfl) rfl (J_cutEnd ⟨rfl, rfl, rfl, rfl, congrArg (fun b => some (Value.bool b)) (show true = (((((!(win x.kind 1 8)) || (!p0)) || (!q0)) || (decide (2 < ((x.outs.length : Nat) : Int)))) || ((x.kind == 8) && (decide (0 < ((x.outs.length : Nat) : Int))))) by first | (rw [hg1, hg2] <;> rfl) | (simp [hg1, hg2]; done) | (simp only [nat_nlt] <;> simp)), trivial⟩ rfl))))))))))))))))))))
    ·refine J_gd rfl rfl (R_move rfl) rfl (J_gd rfl rfl (R_not rfl) rfl (J_st (R_pickF rfl rfl) rfl (J_st (R_move rfl) rfl ?_)))
     refine J_if (gd := 47) rfl rfl (fun hg3 => ?_) (fun hg3 => ?_)
     ·refine J_gdno rfl rfl rfl rfl (J_gdno rfl rfl rfl rfl (J_gdno rfl rfl rfl rfl (J_gdno rfl rfl rfl rfl (J_st (R_pickT rfl rfl) rfl (J_st (R_move rfl) rfl (J_gdno rfl rfl rfl rfl (J_gdno rfl rfl rfl rfl (J_gdno rfl rfl rfl rfl (J_gdno rfl rfl rfl rfl (J_gdx rfl rfl rfl (J_gdx rfl rfl rfl (J_gdx rfl rfl rfl (J_gdx rfl rfl rfl (J_gdno rfl rfl rfl rfl (J_st (R_pickT rfl rfl) rfl (J_cutEnd ⟨rfl, rfl, rfl, rfl, congrArg (fun b => some (Value.bool b)) (show true = (((((!(win x.kind 1 8)) || (!p0)) || (!q0)) || (decide (2 < ((x.outs.length : Nat) : Int)))) || ((x.kind == 8) && (decide (0 < ((x.outs.length : Nat) : Int))))) by first | (rw [hg1, hg2, hg3] <;> rfl) | (simp [hg1, hg2, hg3]; done) | (simp only [nat_nlt] <;> simp)), trivial⟩ rfl))))))))))))))))
     ·refine J_gd rfl rfl (R_fieldAddr0 fl45_3 rfl) rfl (J_gd rfl rfl (R_load sc29 rfl (h1.one 3 rfl)) rfl (J_gd rfl rfl (R_len Try.underlying29 rfl (hd1.ext E).len) rfl (J_gd rfl rfl (R_gtr rfl rfl) rfl (J_st (R_pickF rfl rfl) rfl (J_st (R_move rfl) rfl ?_)))))
      refine J_if (gd := 53) rfl rfl (fun hg4 => ?_) (fun hg4 => ?_)
      ·have hg4n : x.outs.length > 2 := by first | (have h := of_decide_eq_true hg4; omega) | (have h := hg4; simp at h; omega)
       refine J_gdno rfl rfl rfl rfl (J_gdno rfl rfl rfl rfl (J_gdno rfl rfl rfl rfl (J_gdno rfl rfl rfl rfl (J_gdx rfl rfl rfl (J_gdx rfl rfl rfl (J_gdx rfl rfl rfl (J_gdx rfl rfl rfl (J_gdno rfl rfl rfl rfl (J_st (R_pickT rfl rfl) rfl (J_cutEnd ⟨rfl, rfl, rfl, rfl, congrArg (fun b => some (Value.bool b)) (show true = (((((!(win x.kind 1 8)) || (!p0)) || (!q0)) || (decide (2 < ((x.outs.length : Nat) : Int)))) || ((x.kind == 8) && (decide (0 < ((x.outs.length : Nat) : Int))))) by first | (rw [hg1, hg2, hg3, hg4] <;> rfl) | (simp [hg1, hg2, hg3, hg4]; done) | (simp only [nat_nlt] <;> simp)), trivial⟩ rfl))))))))))
      ·have hg4n : ¬ x.outs.length > 2 := by first | (have h := of_decide_eq_false hg4; omega) | (have h := hg4; simp at h; omega)
       refine J_gd rfl rfl (R_fieldAddr0 fl45_0 rfl) rfl (J_gd rfl rfl (R_load sc3 rfl (h1.one 0 rfl)) rfl (J_gd rfl rfl (R_eql rfl rfl) rfl (J_gd rfl rfl (R_move rfl) rfl ?_)))
       refine J_if (gd := 57) rfl rfl (fun hg5 => ?_) (fun hg5 => ?_)
       ·refine J_gd rfl rfl (R_fieldAddr0 fl45_3 rfl) rfl (J_gd rfl rfl (R_load sc29 rfl (h1.one 3 rfl)) rfl (J_gd rfl rfl (R_len Try.underlying29 rfl (hd1.ext E).len) rfl (J_gd rfl rfl (R_gtr rfl rfl) rfl (J_gd rfl rfl (R_pickT rfl rfl) rfl (J_st (R_pickF rfl rfl) rfl (J_cutEnd ⟨rfl, rfl, rfl, rfl, congrArg (fun b => some (Value.bool b)) (show (decide (0 < ((x.outs.length : Nat) : Int))) = (((((!(win x.kind 1 8)) || (!p0)) || (!q0)) || (decide (2 < ((x.outs.length : Nat) : Int)))) || ((x.kind == 8) && (decide (0 < ((x.outs.length : Nat) : Int))))) by first | (rw [hg1, hg2, hg3, hg4, hg5] <;> rfl) | (simp [hg1, hg2, hg3, hg4, hg5]; done) | (simp only [nat_nlt] <;> simp)), trivial⟩ rfl))))))
       ·refine J_gdno rfl rfl rfl rfl (J_gdno rfl rfl rfl rfl (J_gdno rfl rfl rfl rfl (J_gdno rfl rfl rfl rfl (J_gd rfl rfl (R_pickF rfl rfl) rfl (J_st (R_pickF rfl rfl) rfl (J_cutEnd ⟨rfl, rfl, rfl, rfl, congrArg (fun b => some (Value.bool b)) (show false = (((((!(win x.kind 1 8)) || (!p0)) || (!q0)) || (decide (2 < ((x.outs.length : Nat) : Int)))) || ((x.kind == 8) && (decide (0 < ((x.outs.length : Nat) : Int))))) by first | (rw [hg1, hg2, hg3, hg4, hg5] <;> rfl) | (simp [hg1, hg2, hg3, hg4, hg5]; done) | (simp only [nat_nlt] <;> simp)), trivial⟩ rfl))))))
  rintro _ rfl
  refine J_done ?_
  refine S_cond rfl (fun hc4 => ?_) (fun hc4 => ?_)
  ·refine S_seq ?_
   refine S_reg [true] rfl rfl ?_
   refine J_st (R_assign rfl) rfl (J_done ?_)
   refine S_ret (E_done1 rfl rfl E ?_)
   exact node_s hpq (by assumption)
  ·refine S_skip ?_
   refine S_seq ?_
   refine S_seq ?_
   refine S_reg [true] rfl rfl ?_
   refine J_st (R_assign rfl) rfl (J_done ?_)
   refine S_block ?_
   refine S_loop (fun (k : Nat) => [(1, .pointer (some ⟨b1, 0, none⟩)), (2, .bool false), (5, .int .i64 ((k : Nat) : Int))]) (fun (k : Nat) w' => Ext w w' ∧ w7.heap.size ≤ w'.heap.size ∧ Blk w' b1 ([.int .i64 x.kind, .int .i64 x.a, .int .i64 x.b, o1]) ∧ k ≤ x.outs.length ∧ (x.outs.take k).all (win · 0 7) = true ∧ (1 < k → ((List.getD x.outs 0 default) == (List.getD x.outs 1 default)) = false)) (fun (k : Nat) => x.outs.length - k) 0 ⟨rfl, rfl, rfl, trivial⟩ ⟨E, Nat.le_refl _, h1, Nat.zero_le _, rfl, (by omega)⟩ ?_
   clear E h1
   rintro k w9 ⟨E, z8, h1, hk, hI, hJ⟩
   refine S_seq ?_
   refine S_seq ?_
   refine S_reg [true, true, true, true, true] rfl rfl ?_
   refine J_st (R_move rfl) rfl (J_st (R_fieldAddr0 fl45_3 rfl) rfl (J_st (R_load sc29 rfl (h1.one 3 rfl)) rfl (J_st (R_len Try.underlying29 rfl (hd1.ext E).len) rfl (J_st (R_lss rfl rfl) rfl (J_done ?_)))))
   refine S_cond rfl (fun hc5 => ?_) (fun hc5 => ?_)
   ·have hc5n : k < x.outs.length := by first | (have h := of_decide_eq_true hc5; omega) | (have h := hc5; simp at h; omega)
    refine S_skip ?_
    refine S_seq ?_
    refine S_block ?_
    refine S_seq ?_
    refine S_regD mixed [(0, true), (1, true), (2, true), (3, true), (4, true), (5, false), (6, true), (7, true), (8, true), (9, true), (10, true), (11, true), (12, true), (13, true), (14, true), (15, true), (16, true), (17, true), (18, true), (19, true), (20, true), (21, true)] (by decide +kernel) rfl (fun w10 e7 => ?_)
    replace E := E.trans e7; replace h1 := h1.ext e7
    have z9 := e7.size
    refine J_st (R_fieldAddr0 fl45_3 rfl) rfl (J_st (R_load sc29 rfl (h1.one 3 rfl)) rfl (J_st (R_move rfl) rfl ?_))
    have hi1 : k < x.outs.length := (by first | assumption | omega | (simp only [List.length_set]; first | assumption | omega) | (simp only [List.getElem_set_self, List.length_set]; first | assumption | omega) | (simp only [setW, setLk, List.length_set]; first | assumption | omega) | (simp; done))
    refine J_st (R_index (i := k) sl29 rfl rfl (hd1.rd.ext E) hi1) rfl (J_st (R_load sc3 rfl (((hd1.rd.ext E).get hi1).one 0 rfl)) rfl ?_)
    refine J_call Try.call58 rfl (s_l01In (x.outs[k]'hi1) 0 7 _ ) rfl (fun _ w11 e8 hv => ?_)
    subst hv
    replace E := E.trans e8; replace h1 := h1.ext e8
    have z10 := e8.size
    refine J_st (R_not rfl) rfl (J_st (R_move rfl) rfl ?_)
    refine J_cut 14 [(1, .pointer (some ⟨b1, 0, none⟩)), (2, .bool false), (5, .int .i64 ((k : Nat) : Int)), (64, .int .i64 ((k : Nat) : Int)), (65, .pointer (some ⟨b1, 3, none⟩)), (66, o1), (67, .int .i64 ((x.outs.length : Nat) : Int)), (68, .bool (decide (((k : Nat) : Int) < ((x.outs.length : Nat) : Int)))), (92, .bool ((!(win (x.outs[k]'hi1) 0 7)) || ((decide (0 < ((k : Nat) : Int))) && ((List.getD x.outs 0 default) == (List.getD x.outs 1 default)))))] (fun w' => w11 = w') ?_ ?_
    ·refine J_if (gd := 78) rfl rfl (fun hg6 => ?_) (fun hg6 => ?_)
     ·refine J_gdno rfl rfl rfl rfl (J_gdno rfl rfl rfl rfl (J_gdno rfl rfl rfl rfl (J_gdx rfl rfl rfl (J_gdx rfl rfl rfl (J_gdx rfl rfl rfl (J_gdx rfl rfl rfl (J_gdx rfl rfl rfl (J_gdx rfl rfl rfl (J_gdx rfl rfl rfl (J_gdx rfl rfl rfl (J_gdx rfl rfl rfl (J_gdno rfl rfl rfl rfl (J_st (R_pickT rfl rfl) rfl (J_cutEnd ⟨rfl, rfl, rfl, rfl, rfl, rfl, rfl, rfl, congrArg (fun b => some (Value.bool b)) (show true = ((!(win (x.outs[k]'hi1) 0 7)) || ((decide (0 < ((k : Nat) : Int))) && ((List.getD x.outs 0 default) == (List.getD x.outs 1 default)))) by first | (rw [hg6] <;> rfl) | (simp [hg6]; done) | (simp only [nat_nlt] <;> simp)), trivial⟩ rfl))))))))))))))
     ·refine J_gd rfl rfl (R_move rfl) rfl (J_gd rfl rfl (R_gtr rfl rfl) rfl (J_gd rfl rfl (R_move rfl) rfl ?_))
      refine J_if (gd := 81) rfl rfl (fun hg7 => ?_) (fun hg7 => ?_)
      ·have hg7n : k > 0 := by first | (have h := of_decide_eq_true hg7; omega) | (have h := hg7; simp at h; omega)
       refine J_gd rfl rfl (R_fieldAddr0 fl45_3 rfl) rfl (J_gd rfl rfl (R_load sc29 rfl (h1.one 3 rfl)) rfl (J_gd rfl rfl (R_index (i := 0) sl29 rfl rfl (hd1.rd.ext E) (by first | assumption | omega | (simp only [List.length_set]; first | assumption | omega) | (simp only [List.getElem_set_self, List.length_set]; first | assumption | omega) | (simp only [setW, setLk, List.length_set]; first | assumption | omega) | (simp; done))) rfl (J_gd rfl rfl (R_load sc3 rfl ((RdS.getD (hd1.rd.ext E) (i := 0) (by first | assumption | omega | (simp only [List.length_set]; first | assumption | omega) | (simp only [List.getElem_set_self, List.length_set]; first | assumption | omega) | (simp only [setW, setLk, List.length_set]; first | assumption | omega) | (simp; done))).one 0 rfl)) rfl (J_gd rfl rfl (R_fieldAddr0 fl45_3 rfl) rfl (J_gd rfl rfl (R_load sc29 rfl (h1.one 3 rfl)) rfl (J_gd rfl rfl (R_index (i := 1) sl29 rfl rfl (hd1.rd.ext E) (by first | assumption | omega | (simp only [List.length_set]; first | assumption | omega) | (simp only [List.getElem_set_self, List.length_set]; first | assumption | omega) | (simp only [setW, setLk, List.length_set]; first | assumption | omega) | (simp; done))) rfl (J_gd rfl rfl (R_load sc3 rfl ((RdS.getD (hd1.rd.ext E) (i := 1) (by first | assumption | omega | (simp only [List.length_set]; first | assumption | omega) | (simp only [List.getElem_set_self, List.length_set]; first | assumption | omega) | (simp only [setW, setLk, List.length_set]; first | assumption | omega) | (simp; done))).one 0 rfl)) rfl (J_gd rfl rfl (R_eql rfl rfl) rfl (J_gd rfl rfl (R_pickT rfl rfl) rfl (J_st (R_pickF rfl rfl) rfl (J_cutEnd ⟨rfl, rfl, rfl, rfl, rfl, rfl, rfl, rfl, congrArg (fun b => some (Value.bool b)) (show ((List.getD x.outs 0 default) == (List.getD x.outs 1 default)) = ((!(win (x.outs[k]'hi1) 0 7)) || ((decide (0 < ((k : Nat) : Int))) && ((List.getD x.outs 0 default) == (List.getD x.outs 1 default)))) by first | (rw [hg6, hg7] <;> rfl) | (simp [hg6, hg7]; done) | (simp only [nat_nlt] <;> simp)), trivial⟩ rfl)))))))))))
      ·have hg7n : ¬ k > 0 := by first | (have h := of_decide_eq_false hg7; omega) | (have h := hg7; simp at h; omega)
       refine J_gdno rfl rfl rfl rfl (J_gdno rfl rfl rfl rfl (J_gdno rfl rfl rfl rfl (J_gdno rfl rfl rfl rfl (J_gdno rfl rfl rfl rfl (J_gdno rfl rfl rfl rfl (J_gdno rfl rfl rfl rfl (J_gdno rfl rfl rfl rfl (J_gdno rfl rfl rfl rfl (J_gd rfl rfl (R_pickF rfl rfl) rfl (J_st (R_pickF rfl rfl) rfl (J_cutEnd ⟨rfl, rfl, rfl, rfl, rfl, rfl, rfl, rfl, congrArg (fun b => some (Value.bool b)) (show false = ((!(win (x.outs[k]'hi1) 0 7)) || ((decide (0 < ((k : Nat) : Int))) && ((List.getD x.outs 0 default) == (List.getD x.outs 1 default)))) by first | (rw [hg6, hg7] <;> rfl) | (simp [hg6, hg7]; done) | (simp only [nat_nlt] <;> simp)), trivial⟩ rfl)))))))))))
    rintro _ rfl
    refine J_done ?_
    refine S_cond rfl (fun hc6 => ?_) (fun hc6 => ?_)
    ·refine S_seq ?_
     refine S_reg [true] rfl rfl ?_
     refine J_st (R_assign rfl) rfl (J_done ?_)
     refine S_ret (E_inB_ret (E_lp_ret (E_inB_ret (E_done1 rfl rfl E ?_))))
     exact node_d (by assumption) (node_p (p := p0) (q := q0) (by assumption) hpq).2
    ·refine S_skip ?_
     refine S_nil (E_inB ?_)
     refine S_reg [true, true, true] rfl rfl ?_
     refine J_st (R_move rfl) rfl (J_st (R_add rfl rfl (add_one hc5n (hd1.ext E).1.1)) rfl (J_st (R_assign rfl) rfl (J_done ?_)))
     refine S_nil (E_again (k + 1) (by omega) ⟨rfl, rfl, rfl, trivial⟩ ⟨E, (by omega), h1, (by omega), all_step hI (by assumption) (nodeL (by assumption)), nodeJ (by assumption)⟩)
   ·have hc5n : ¬ k < x.outs.length := by first | (have h := of_decide_eq_false hc5; omega) | (have h := hc5; simp at h; omega)
    refine S_exit (E_lp_exit (E_inB_exit ?_))
    refine S_seq ?_
    refine S_reg [true] rfl rfl ?_
    refine J_st (R_assign rfl) rfl (J_done ?_)
    refine S_ret (E_done1 rfl rfl E ?_)
    exact node_z (p := p0) (q := q0) (by assumption) hpq hI hJ (by omega)

set_option maxHeartbeats 4000000 in
set_option maxRecDepth 20000 in
theorem c_GraphOk (cg : List Value) (g : Graph) (w : World) (hg : Dat.R w 0 w.heap.size cg g) : Ct Try.prog 13 [.agg cg.toArray] w (fun v _ => v = .bool (graphOk g)) := by
 refine ct_of Try.func13 rfl Try.ntmps13 rfl ?_
 obtain ⟨o1, rfl, hd1⟩ := Graph.op hg
 refine S_sub [(0, .agg [o1, .int .i64 g.workers, .int .i64 g.cap].toArray)] ⟨rfl, trivial⟩ ?_
 have E : Ext w w := Ext.refl w
 refine S_seq ?_
 refine S_reg [false, true] rfl rfl ?_
 refine J_box rfl rfl (fun b1 w1 e1 s1 h1 => ?_)
 have g_b1 : w.heap.size ≤ b1 := by have := E.size; omega
 have y_b1 := h1.lt
 replace E := E.trans e1
 have z1 := e1.size
 refine J_st (R_assign rfl) rfl (J_done ?_)
 refine S_seq ?_
 refine S_seq ?_
 refine S_reg [true, true, true, false, true, true, true, true, false, true, true, true, true, true, false, true, true] rfl rfl ?_
 refine J_st (R_fieldAddr0 fl26_0 rfl) rfl (J_st (R_load sc24 rfl (h1.one 0 rfl)) rfl (J_st (R_len Try.underlying24 rfl (hd1.ext E).len) rfl ?_))
 refine J_call Try.call27 rfl (c_within ((g.nodes.length : Nat) : Int) 1 8 _ ) rfl (fun _ w2 e2 hv => ?_)
 subst hv
 replace E := E.trans e2; replace h1 := h1.ext e2
 have z2 := e2.size
 refine J_st (R_not rfl) rfl (J_st (R_move rfl) rfl ?_)
 refine J_cut 11 [(0, .agg [o1, .int .i64 g.workers, .int .i64 g.cap].toArray), (1, .pointer (some ⟨b1, 0, none⟩)), (2, .bool false), (24, .bool (((!(win ((g.nodes.length : Nat) : Int) 1 8)) || (!(win g.workers 1 4))) || (!(win g.cap 1 4))))] (fun w' => Ext w w' ∧ w2.heap.size ≤ w'.heap.size ∧ Blk w' b1 ([o1, .int .i64 g.workers, .int .i64 g.cap])) ?_ ?_
 ·refine J_if (gd := 13) rfl rfl (fun hg1 => ?_) (fun hg1 => ?_)
  ·refine J_gdno rfl rfl rfl rfl (J_gdno rfl rfl rfl rfl ?_)
   refine J_ungno rfl rfl rfl rfl ?_
   refine J_gdno rfl rfl rfl rfl (J_st (R_pickT rfl rfl) rfl (J_st (R_move rfl) rfl (J_gdno rfl rfl rfl rfl (J_gdno rfl rfl rfl rfl ?_))))
   refine J_ungno rfl rfl rfl rfl ?_
   refine J_gdno rfl rfl rfl rfl (J_st (R_pickT rfl rfl) rfl (J_cutEnd ⟨rfl, rfl, rfl, congrArg (fun b => some (Value.bool b)) (show true = (((!(win ((g.nodes.length : Nat) : Int) 1 8)) || (!(win g.workers 1 4))) || (!(win g.cap 1 4))) by first | (rw [hg1] <;> rfl) | (simp [hg1]; done) | (simp only [nat_nlt] <;> simp)), trivial⟩ ⟨E, (by omega), h1⟩))
  ·refine J_gd rfl rfl (R_fieldAddr0 fl26_1 rfl) rfl (J_gd rfl rfl (R_load sc3 rfl (h1.one 1 rfl)) rfl ?_)
   refine J_ung rfl rfl ?_
   refine J_call Try.call27 rfl (c_within g.workers 1 4 _ ) rfl (fun _ w4 e3 hv => ?_)
   subst hv
   replace E := E.trans e3; replace h1 := h1.ext e3
   have z3 := e3.size
   refine J_gd rfl rfl (R_not rfl) rfl (J_st (R_pickF rfl rfl) rfl (J_st (R_move rfl) rfl ?_))
   refine J_if (gd := 19) rfl rfl (fun hg2 => ?_) (fun hg2 => ?_)
   ·refine J_gdno rfl rfl rfl rfl (J_gdno rfl rfl rfl rfl ?_)
    refine J_ungno rfl rfl rfl rfl ?_
    refine J_gdno rfl rfl rfl rfl (J_st (R_pickT rfl rfl) rfl (J_cutEnd ⟨rfl, rfl, rfl, congrArg (fun b => some (Value.bool b)) (show true = (((!(win ((g.nodes.length : Nat) : Int) 1 8)) || (!(win g.workers 1 4))) || (!(win g.cap 1 4))) by first | (rw [hg1, hg2] <;> rfl) | (simp [hg1, hg2]; done) | (simp only [nat_nlt] <;> simp)), trivial⟩ ⟨E, (by omega), h1⟩))
   ·refine J_gd rfl rfl (R_fieldAddr0 fl26_2 rfl) rfl (J_gd rfl rfl (R_load sc3 rfl (h1.one 2 rfl)) rfl ?_)
    refine J_ung rfl rfl ?_
    refine J_call Try.call27 rfl (c_within g.cap 1 4 _ ) rfl (fun _ w5 e4 hv => ?_)
    subst hv
    replace E := E.trans e4; replace h1 := h1.ext e4
    have z4 := e4.size
    refine J_gd rfl rfl (R_not rfl) rfl (J_st (R_pickF rfl rfl) rfl (J_cutEnd ⟨rfl, rfl, rfl, congrArg (fun b => some (Value.bool b)) (show (!(win g.cap 1 4)) = (((!(win ((g.nodes.length : Nat) : Int) 1 8)) || (!(win g.workers 1 4))) || (!(win g.cap 1 4))) by first | (rw [hg1, hg2] <;> rfl) | (simp [hg1, hg2]; done) | (simp only [nat_nlt] <;> simp)), trivial⟩ ⟨E, (by omega), h1⟩))
 clear E h1
 rintro w3 ⟨E, z5, h1⟩
 refine J_done ?_
 refine S_cond rfl (fun hc1 => ?_) (fun hc1 => ?_)
 ·refine S_seq ?_
  refine S_reg [true] rfl rfl ?_
  refine J_st (R_assign rfl) rfl (J_done ?_)
  refine S_ret (E_done1 rfl rfl E ?_)
  exact graph_h (by assumption)
 ·refine S_skip ?_
  refine S_seq ?_
  refine S_seq ?_
  refine S_reg [true, true, true, true] rfl rfl ?_
  refine J_st (R_fieldAddr0 fl26_0 rfl) rfl (J_st (R_load sc24 rfl (h1.one 0 rfl)) rfl (J_st (R_len Try.underlying24 rfl (hd1.ext E).len) rfl (J_st (R_move rfl) rfl (J_done ?_))))
  refine S_block ?_
  refine S_loop (fun (i : Nat) => [(1, .pointer (some ⟨b1, 0, none⟩)), (2, .bool false), (26, o1), (27, .int .i64 ((g.nodes.length : Nat) : Int)), (28, .int .i64 ((i : Nat) : Int))]) (fun (i : Nat) w' => Ext w w' ∧ w3.heap.size ≤ w'.heap.size ∧ Blk w' b1 ([o1, .int .i64 g.workers, .int .i64 g.cap]) ∧ i ≤ g.nodes.length ∧ (∀ j, j < i → nodeAtOk g j (List.getD g.nodes j default) = true)) (fun (i : Nat) => g.nodes.length - i) 0 ⟨rfl, rfl, rfl, rfl, rfl, trivial⟩ ⟨E, Nat.le_refl _, h1, Nat.zero_le _, (fun j hj => by omega)⟩ ?_
  clear E h1
  rintro i w6 ⟨E, z6, h1, hle, hp⟩
  refine S_seq ?_
  refine S_reg [true] rfl rfl ?_
  refine J_st (R_lss rfl rfl) rfl (J_done ?_)
  refine S_seq ?_
  refine S_cond rfl (fun hc2 => ?_) (fun hc2 => ?_)
  ·have hc2n : i < g.nodes.length := by first | (have h := of_decide_eq_true hc2; omega) | (have h := hc2; simp at h; omega)
   refine S_skip ?_
   refine S_seq ?_
   refine S_block ?_
   refine S_seq ?_
   refine S_reg [true, true, true, false, true, false] rfl rfl ?_
   refine J_st (R_move rfl) rfl ?_
   have hi1 : i < g.nodes.length := (by first | assumption | omega | (simp only [List.length_set]; first | assumption | omega) | (simp only [List.getElem_set_self, List.length_set]; first | assumption | omega) | (simp only [setW, setLk, List.length_set]; first | assumption | omega) | (simp; done))
   obtain ⟨_, hr1, ha1⟩ := RdD.get hd1 hi1
   obtain ⟨o2, rfl, hd2⟩ := Node.op hr1
   replace ha1 : At w (sblk o1) (soff o1 + i * 4) [.int .i64 ((g.nodes[i]'hi1).kind), .int .i64 ((g.nodes[i]'hi1).a), .int .i64 ((g.nodes[i]'hi1).b), o2] := ha1
   refine J_st (R_index (i := i) sl24 rfl rfl (hd1.ext E).1 hi1) rfl (J_st (R_loadS st45 rfl (ha1.ext E) rfl) rfl ?_)
   refine J_alloc st45 rfl (fun b2 w7 e5 s2 h2 => ?_)
   have g_b2 : w.heap.size ≤ b2 := by have := E.size; omega
   have y_b2 := h2.lt
   replace E := E.trans e5; replace h1 := h1.ext e5
   have z7 := e5.size
   refine J_st (R_assign rfl) rfl ?_
   refine J_storeS' (cs' := [.int .i64 ((g.nodes[i]'hi1).kind), .int .i64 ((g.nodes[i]'hi1).a), .int .i64 ((g.nodes[i]'hi1).b), o2]) st45 rfl rfl rfl (all_cons rfl (all_cons rfl (all_cons rfl (all_cons (RdD.one (hd2.ext E)) rfl)))) h2 (Nat.le_of_ble_eq_true rfl) rfl (fun w8 m1 h2' => ?_)
   replace h2 := h2'
   replace E := E.step m1 (fun g hg => by cases hg; omega); replace h1 := h1.mod m1 (fun g hg => by cases hg; omega)
   have z8 := m1.size
   refine J_done ?_
   refine S_seq ?_
   refine S_seq ?_
   refine S_reg [true, false, true, true, true, true, true, true, true, true, true] rfl rfl ?_
   refine J_st (R_loadS st45 rfl h2.at rfl) rfl ?_
   refine J_call Try.call28 rfl (c_NodeOk [.int .i64 ((g.nodes[i]'hi1).kind), .int .i64 ((g.nodes[i]'hi1).a), .int .i64 ((g.nodes[i]'hi1).b), o2] (g.nodes[i]'hi1) _ (Node.mkR (g.nodes[i]'hi1) (RdD.any (hd2.ext E)))) rfl (fun _ w9 e6 hv => ?_)
   subst hv
   replace E := E.trans e6; replace h1 := h1.ext e6; replace h2 := h2.ext e6
   have z9 := e6.size
   refine J_st (R_not rfl) rfl (J_st (R_move rfl) rfl ?_)
   refine J_cut 7 [(1, .pointer (some ⟨b1, 0, none⟩)), (2, .bool false), (3, .int .i64 ((i : Nat) : Int)), (4, .pointer (some ⟨b2, 0, none⟩)), (26, o1), (27, .int .i64 ((g.nodes.length : Nat) : Int)), (28, .int .i64 ((i : Nat) : Int)), (29, .bool (decide (((i : Nat) : Int) < ((g.nodes.length : Nat) : Int)))), (30, .int .i64 ((i : Nat) : Int)), (31, .pointer (some ⟨sblk o1, soff o1 + i * 4, none⟩)), (32, .agg [.int .i64 ((g.nodes[i]'hi1).kind), .int .i64 ((g.nodes[i]'hi1).a), .int .i64 ((g.nodes[i]'hi1).b), o2].toArray), (43, .bool ((!(nodeOk (g.nodes[i]'hi1))) || (!((((g.nodes[i]'hi1).kind) == 1) == (((i : Nat) : Int) == 0)))))] (fun w' => w9 = w') ?_ ?_
   ·refine J_if (gd := 36) rfl rfl (fun hg3 => ?_) (fun hg3 => ?_)
    ·refine J_gdno rfl rfl rfl rfl (J_gdno rfl rfl rfl rfl (J_gdno rfl rfl rfl rfl (J_gdno rfl rfl rfl rfl (J_gdno rfl rfl rfl rfl (J_gdno rfl rfl rfl rfl (J_st (R_pickT rfl rfl) rfl (J_cutEnd ⟨rfl, rfl, rfl, rfl, rfl, rfl, rfl, rfl, rfl, rfl, rfl, congrArg (fun b => some (Value.bool b)) (show true = ((!(nodeOk (g.nodes[i]'hi1))) || (!((((g.nodes[i]'hi1).kind) == 1) == (((i : Nat) : Int) == 0)))) by first | (rw [hg3] <;> rfl) | (simp [hg3]; done) | (simp only [nat_nlt] <;> simp)), trivial⟩ rfl)))))))
    ·refine J_gd rfl rfl (R_fieldAddr0 fl45_0 rfl) rfl (J_gd rfl rfl (R_load sc3 rfl (h2.one 0 rfl)) rfl (J_gd rfl rfl (R_eql rfl rfl) rfl (J_gd rfl rfl (R_move rfl) rfl (J_gd rfl rfl (R_eql rfl rfl) rfl (J_gd rfl rfl (R_neqB (Try.underlying4) rfl rfl) rfl (J_st (R_pickF rfl rfl) rfl (J_cutEnd ⟨rfl, rfl, rfl, rfl, rfl, rfl, rfl, rfl, rfl, rfl, rfl, congrArg (fun b => some (Value.bool b)) (show (!((((g.nodes[i]'hi1).kind) == 1) == (((i : Nat) : Int) == 0))) = ((!(nodeOk (g.nodes[i]'hi1))) || (!((((g.nodes[i]'hi1).kind) == 1) == (((i : Nat) : Int) == 0)))) by first | (rw [hg3] <;> rfl) | (simp [hg3]; done) | (simp only [nat_nlt] <;> simp)), trivial⟩ rfl)))))))
   rintro _ rfl
   refine J_done ?_
   refine S_cond rfl (fun hc3 => ?_) (fun hc3 => ?_)
   ·refine S_seq ?_
    refine S_reg [true] rfl rfl ?_
    refine J_st (R_assign rfl) rfl (J_done ?_)
    refine S_ret (E_inB_ret (E_lp_ret (E_inB_ret (E_done1 rfl rfl E ?_))))
    exact graph_a (by assumption)
   ·refine S_skip ?_
    refine S_seq ?_
    refine S_reg [true, true, true, true] rfl rfl ?_
    refine J_st (R_fieldAddr0 fl45_3 rfl) rfl (J_st (R_load sc29 rfl (h2.one 3 rfl)) rfl (J_st (R_len Try.underlying29 rfl (hd2.ext E).len) rfl (J_st (R_move rfl) rfl (J_done ?_))))
    refine S_block ?_
    refine S_loop (fun (k : Nat) => [(1, .pointer (some ⟨b1, 0, none⟩)), (2, .bool false), (3, .int .i64 ((i : Nat) : Int)), (4, .pointer (some ⟨b2, 0, none⟩)), (26, o1), (27, .int .i64 ((g.nodes.length : Nat) : Int)), (28, .int .i64 ((i : Nat) : Int)), (45, o2), (46, .int .i64 ((((g.nodes[i]'hi1).outs).length : Nat) : Int)), (47, .int .i64 ((k : Nat) : Int))]) (fun (k : Nat) w' => Ext w w' ∧ w9.heap.size ≤ w'.heap.size ∧ Blk w' b1 ([o1, .int .i64 g.workers, .int .i64 g.cap]) ∧ Blk w' b2 [.int .i64 ((g.nodes[i]'hi1).kind), .int .i64 ((g.nodes[i]'hi1).a), .int .i64 ((g.nodes[i]'hi1).b), o2] ∧ k ≤ (g.nodes[i]'hi1).outs.length ∧ ((g.nodes[i]'hi1).outs.take k).all (fun to => !edgeBad g i (g.nodes[i]'hi1) to) = true) (fun (k : Nat) => (g.nodes[i]'hi1).outs.length - k) 0 ⟨rfl, rfl, rfl, rfl, rfl, rfl, rfl, rfl, rfl, rfl, trivial⟩ ⟨E, Nat.le_refl _, h1, h2, Nat.zero_le _, rfl⟩ ?_
    clear E h1 h2
    rintro k w11 ⟨E, z10, h1, h2, hk, hI⟩
    refine S_seq ?_
    refine S_reg [true] rfl rfl ?_
    refine J_st (R_lss rfl rfl) rfl (J_done ?_)
    refine S_seq ?_
    refine S_cond rfl (fun hc4 => ?_) (fun hc4 => ?_)
    ·have hc4n : k < ((g.nodes[i]'hi1).outs).length := by first | (have h := of_decide_eq_true hc4; omega) | (have h := hc4; simp at h; omega)
     refine S_skip ?_
     refine S_seq ?_
     refine S_block ?_
     refine S_seq ?_
     refine S_reg [true, true, true] rfl rfl ?_
     have hi2 : k < ((g.nodes[i]'hi1).outs).length := (by first | assumption | omega | (simp only [List.length_set]; first | assumption | omega) | (simp only [List.getElem_set_self, List.length_set]; first | assumption | omega) | (simp only [setW, setLk, List.length_set]; first | assumption | omega) | (simp; done))
     refine J_st (R_index (i := k) sl29 rfl rfl (hd2.rd.ext E) hi2) rfl (J_st (R_load sc3 rfl (((hd2.rd.ext E).get hi2).one 0 rfl)) rfl (J_st (R_assign rfl) rfl (J_done ?_)))
     refine S_seq ?_
     refine S_seq ?_
     refine S_reg [true, true, true, true, true] rfl rfl ?_
     refine J_st (R_move rfl) rfl (J_st (R_fieldAddr0 fl26_0 rfl) rfl (J_st (R_load sc24 rfl (h1.one 0 rfl)) rfl (J_st (R_len Try.underlying24 rfl (hd1.ext E).len) rfl (J_st (R_geq rfl rfl) rfl (J_done ?_)))))
     refine S_cond rfl (fun hc5 => ?_) (fun hc5 => ?_)
     ·refine S_seq ?_
      refine S_reg [true] rfl rfl ?_
      refine J_st (R_assign rfl) rfl (J_done ?_)
      refine S_ret (E_inB_ret (E_lp_ret (E_inB_ret (E_inB_ret (E_lp_ret (E_inB_ret (E_done1 rfl rfl E ?_)))))))
      exact graph_e (edge_a (by assumption))
     ·have hto := graph_to (h1 := hi1) (h2 := hi2) (by assumption)
      have htl := Int.not_le.1 (of_decide_eq_false hc5)
      refine S_skip ?_
      refine S_seq ?_
      refine S_reg [true, true, true, true, true, true, true] rfl rfl ?_
      refine J_st (R_fieldAddr0 fl26_0 rfl) rfl (J_st (R_load sc24 rfl (h1.one 0 rfl)) rfl (J_st (R_move rfl) rfl ?_))
      have hi3 : (Int.toNat (((g.nodes[i]'hi1).outs)[k]'hi2)) < g.nodes.length := (by first | assumption | omega | (simp only [List.length_set]; first | assumption | omega) | (simp only [List.getElem_set_self, List.length_set]; first | assumption | omega) | (simp only [setW, setLk, List.length_set]; first | assumption | omega) | (simp; done))
      obtain ⟨_, hr2, ha2⟩ := RdD.get hd1 hi3
      obtain ⟨o3, rfl, hd3⟩ := Node.op hr2
      replace ha2 : At w (sblk o1) (soff o1 + (Int.toNat (((g.nodes[i]'hi1).outs)[k]'hi2)) * 4) [.int .i64 ((g.nodes[(Int.toNat (((g.nodes[i]'hi1).outs)[k]'hi2))]'hi3).kind), .int .i64 ((g.nodes[(Int.toNat (((g.nodes[i]'hi1).outs)[k]'hi2))]'hi3).a), .int .i64 ((g.nodes[(Int.toNat (((g.nodes[i]'hi1).outs)[k]'hi2))]'hi3).b), o3] := ha2
      refine J_st (R_indexZ (i := (Int.toNat (((g.nodes[i]'hi1).outs)[k]'hi2))) sl24 rfl rfl (hd1.ext E).1 (by omega) hi3) rfl (J_st (R_fieldAddr fl45_0 rfl) rfl (J_st (R_load sc3 rfl ((ha2.ext E).one 0 rfl)) rfl (J_st (R_assign rfl) rfl (J_done ?_))))
      refine S_seq ?_
      refine S_reg [true, true, true, true, true, true, true, true, true, true, true, true, true, true, true, true, true, true, true, true, true, true, true, true, true, true] rfl rfl ?_
      refine J_st (R_fieldAddr0 fl45_0 rfl) rfl (J_st (R_load sc3 rfl (h2.one 0 rfl)) rfl (J_st (R_eql rfl rfl) rfl (J_st (R_move rfl) rfl ?_)))
      refine J_cut 22 [(1, .pointer (some ⟨b1, 0, none⟩)), (2, .bool false), (3, .int .i64 ((i : Nat) : Int)), (4, .pointer (some ⟨b2, 0, none⟩)), (6, .int .i64 (((g.nodes[i]'hi1).outs)[k]'hi2)), (7, .int .i64 ((g.nodes[(Int.toNat (((g.nodes[i]'hi1).outs)[k]'hi2))]'hi3).kind)), (26, o1), (27, .int .i64 ((g.nodes.length : Nat) : Int)), (28, .int .i64 ((i : Nat) : Int)), (45, o2), (46, .int .i64 ((((g.nodes[i]'hi1).outs).length : Nat) : Int)), (47, .int .i64 ((k : Nat) : Int)), (48, .bool (decide (((k : Nat) : Int) < ((((g.nodes[i]'hi1).outs).length : Nat) : Int)))), (49, .pointer (some ⟨sblk o2, soff o2 + k * 1, none⟩)), (50, .int .i64 (((g.nodes[i]'hi1).outs)[k]'hi2)), (51, .int .i64 (((g.nodes[i]'hi1).outs)[k]'hi2)), (52, .pointer (some ⟨b1, 0, none⟩)), (53, o1), (54, .int .i64 ((g.nodes.length : Nat) : Int)), (55, .bool (decide (((g.nodes.length : Nat) : Int) ≤ (((g.nodes[i]'hi1).outs)[k]'hi2)))), (56, .pointer (some ⟨b1, 0, none⟩)), (57, o1), (58, .int .i64 (((g.nodes[i]'hi1).outs)[k]'hi2)), (59, .pointer (some ⟨sblk o1, soff o1 + (Int.toNat (((g.nodes[i]'hi1).outs)[k]'hi2)) * 4, none⟩)), (60, .pointer (some ⟨(sblk o1), soff o1 + (Int.toNat (((g.nodes[i]'hi1).outs)[k]'hi2)) * 4 + 0, none⟩)), (61, .int .i64 ((g.nodes[(Int.toNat (((g.nodes[i]'hi1).outs)[k]'hi2))]'hi3).kind)), (87, .bool (((((g.nodes[i]'hi1).kind) == 7) && ((decide (((i : Nat) : Int) < (((g.nodes[i]'hi1).outs)[k]'hi2))) || ((((g.nodes[(Int.toNat (((g.nodes[i]'hi1).outs)[k]'hi2))]'hi3).kind) != 5) && (((g.nodes[(Int.toNat (((g.nodes[i]'hi1).outs)[k]'hi2))]'hi3).kind) != 6)))) || ((((g.nodes[i]'hi1).kind) != 7) && (decide ((((g.nodes[i]'hi1).outs)[k]'hi2) ≤ ((i : Nat) : Int))))))] (fun w' => w11 = w') ?_ ?_
      ·refine J_if (gd := 65) rfl rfl (fun hg4 => ?_) (fun hg4 => ?_)
       ·refine J_gd rfl rfl (R_move rfl) rfl (J_gd rfl rfl (R_move rfl) rfl (J_gd rfl rfl (R_gtr rfl rfl) rfl (J_gd rfl rfl (R_move rfl) rfl ?_)))
        refine J_if (gd := 69) rfl rfl (fun hg5 => ?_) (fun hg5 => ?_)
        ·refine J_gdno rfl rfl rfl rfl (J_gdno rfl rfl rfl rfl (J_gdno rfl rfl rfl rfl (J_gdx rfl rfl rfl (J_gdx rfl rfl rfl (J_gdno rfl rfl rfl rfl (J_gd rfl rfl (R_pickT rfl rfl) rfl (J_st (R_pickT rfl rfl) rfl (J_st (R_move rfl) rfl (J_gdno rfl rfl rfl rfl (J_gdno rfl rfl rfl rfl (J_gdno rfl rfl rfl rfl (J_gdno rfl rfl rfl rfl (J_gdx rfl rfl rfl (J_gdx rfl rfl rfl (J_gdx rfl rfl rfl (J_gdno rfl rfl rfl rfl (J_st (R_pickT rfl rfl) rfl (J_cutEnd ⟨rfl, rfl, rfl, rfl, rfl, rfl, rfl, rfl, rfl, rfl, rfl, rfl, rfl, rfl, rfl, rfl, rfl, rfl, rfl, rfl, rfl, rfl, rfl, rfl, rfl, rfl, congrArg (fun b => some (Value.bool b)) (show true = (((((g.nodes[i]'hi1).kind) == 7) && ((decide (((i : Nat) : Int) < (((g.nodes[i]'hi1).outs)[k]'hi2))) || ((((g.nodes[(Int.toNat (((g.nodes[i]'hi1).outs)[k]'hi2))]'hi3).kind) != 5) && (((g.nodes[(Int.toNat (((g.nodes[i]'hi1).outs)[k]'hi2))]'hi3).kind) != 6)))) || ((((g.nodes[i]'hi1).kind) != 7) && (decide ((((g.nodes[i]'hi1).outs)[k]'hi2) ≤ ((i : Nat) : Int))))) by first | (rw [hg4, hg5] <;> rfl) | (simp [hg4, hg5]; done) | (simp only [nat_nlt] <;> simp)), trivial⟩ rfl))))))))))))))))))
        ·refine J_gd rfl rfl (R_move rfl) rfl (J_gd rfl rfl (R_neq rfl rfl) rfl (J_gd rfl rfl (R_move rfl) rfl ?_))
         refine J_if (gd := 72) rfl rfl (fun hg6 => ?_) (fun hg6 => ?_)
         ·refine J_gd rfl rfl (R_move rfl) rfl (J_gd rfl rfl (R_neq rfl rfl) rfl (J_gd rfl rfl (R_pickT rfl rfl) rfl (J_gd rfl rfl (R_pickF rfl rfl) rfl (J_st (R_pickT rfl rfl) rfl (J_st (R_move rfl) rfl ?_)))))
          refine J_if (gd := 78) rfl rfl (fun hg7 => ?_) (fun hg7 => ?_)
          ·refine J_gdno rfl rfl rfl rfl (J_gdno rfl rfl rfl rfl (J_gdno rfl rfl rfl rfl (J_gdno rfl rfl rfl rfl (J_gdx rfl rfl rfl (J_gdx rfl rfl rfl (J_gdx rfl rfl rfl (J_gdno rfl rfl rfl rfl (J_st (R_pickT rfl rfl) rfl (J_cutEnd ⟨rfl, rfl, rfl, rfl, rfl, rfl, rfl, rfl, rfl, rfl, rfl, rfl, rfl, rfl, rfl, rfl, rfl, rfl, rfl, rfl, rfl, rfl, rfl, rfl, rfl, rfl, congrArg (fun b => some (Value.bool b)) (show true = (((((g.nodes[i]'hi1).kind) == 7) && ((decide (((i : Nat) : Int) < (((g.nodes[i]'hi1).outs)[k]'hi2))) || ((((g.nodes[(Int.toNat (((g.nodes[i]'hi1).outs)[k]'hi2))]'hi3).kind) != 5) && (((g.nodes[(Int.toNat (((g.nodes[i]'hi1).outs)[k]'hi2))]'hi3).kind) != 6)))) || ((((g.nodes[i]'hi1).kind) != 7) && (decide ((((g.nodes[i]'hi1).outs)[k]'hi2) ≤ ((i : Nat) : Int))))) by first | (rw [hg4, hg5, hg6, hg7] <;> rfl) | (simp [hg4, hg5, hg6, hg7]; done) | (simp only [nat_nlt] <;> simp)), trivial⟩ rfl)))))))))
          ·refine J_gd rfl rfl (R_fieldAddr0 fl45_0 rfl) rfl (J_gd rfl rfl (R_load sc3 rfl (h2.one 0 rfl)) rfl (J_gd rfl rfl (R_neq rfl rfl) rfl (J_gd rfl rfl (R_move rfl) rfl ?_)))
           refine J_if (gd := 82) rfl rfl (fun hg8 => ?_) (fun hg8 => ?_)
           ·refine J_gd rfl rfl (R_move rfl) rfl (J_gd rfl rfl (R_move rfl) rfl (J_gd rfl rfl (R_leq rfl rfl) rfl (J_gd rfl rfl (R_pickT rfl rfl) rfl (J_st (R_pickF rfl rfl) rfl (J_cutEnd ⟨rfl, rfl, rfl, rfl, rfl, rfl, rfl, rfl, rfl, rfl, rfl, rfl, rfl, rfl, rfl, rfl, rfl, rfl, rfl, rfl, rfl, rfl, rfl, rfl, rfl, rfl, congrArg (fun b => some (Value.bool b)) (show (decide ((((g.nodes[i]'hi1).outs)[k]'hi2) ≤ ((i : Nat) : Int))) = (((((g.nodes[i]'hi1).kind) == 7) && ((decide (((i : Nat) : Int) < (((g.nodes[i]'hi1).outs)[k]'hi2))) || ((((g.nodes[(Int.toNat (((g.nodes[i]'hi1).outs)[k]'hi2))]'hi3).kind) != 5) && (((g.nodes[(Int.toNat (((g.nodes[i]'hi1).outs)[k]'hi2))]'hi3).kind) != 6)))) || ((((g.nodes[i]'hi1).kind) != 7) && (decide ((((g.nodes[i]'hi1).outs)[k]'hi2) ≤ ((i : Nat) : Int))))) by first | (rw [hg4, hg5, hg6, hg7, hg8] <;> rfl) | (simp [hg4, hg5, hg6, hg7, hg8]; done) | (simp only [nat_nlt] <;> simp)), trivial⟩ rfl)))))
           ·refine J_gdno rfl rfl rfl rfl (J_gdno rfl rfl rfl rfl (J_gdno rfl rfl rfl rfl (J_gd rfl rfl (R_pickF rfl rfl) rfl (J_st (R_pickF rfl rfl) rfl (J_cutEnd ⟨rfl, rfl, rfl, rfl, rfl, rfl, rfl, rfl, rfl, rfl, rfl, rfl, rfl, rfl, rfl, rfl, rfl, rfl, rfl, rfl, rfl, rfl, rfl, rfl, rfl, rfl, congrArg (fun b => some (Value.bool b)) (show false = (((((g.nodes[i]'hi1).kind) == 7) && ((decide (((i : Nat) : Int) < (((g.nodes[i]'hi1).outs)[k]'hi2))) || ((((g.nodes[(Int.toNat (((g.nodes[i]'hi1).outs)[k]'hi2))]'hi3).kind) != 5) && (((g.nodes[(Int.toNat (((g.nodes[i]'hi1).outs)[k]'hi2))]'hi3).kind) != 6)))) || ((((g.nodes[i]'hi1).kind) != 7) && (decide ((((g.nodes[i]'hi1).outs)[k]'hi2) ≤ ((i : Nat) : Int))))) by first | (rw [hg4, hg5, hg6, hg7, hg8] <;> rfl) | (simp [hg4, hg5, hg6, hg7, hg8]; done) | (simp only [nat_nlt] <;> simp)), trivial⟩ rfl)))))
         ·refine J_gdno rfl rfl rfl rfl (J_gdno rfl rfl rfl rfl (J_gd rfl rfl (R_pickF rfl rfl) rfl (J_gd rfl rfl (R_pickF rfl rfl) rfl (J_st (R_pickT rfl rfl) rfl (J_st (R_move rfl) rfl (J_gd rfl rfl (R_fieldAddr0 fl45_0 rfl) rfl (J_gd rfl rfl (R_load sc3 rfl (h2.one 0 rfl)) rfl (J_gd rfl rfl (R_neq rfl rfl) rfl (J_gd rfl rfl (R_move rfl) rfl ?_)))))))))
          refine J_if (gd := 82) rfl rfl (fun hg9 => ?_) (fun hg9 => ?_)
          ·refine J_gd rfl rfl (R_move rfl) rfl (J_gd rfl rfl (R_move rfl) rfl (J_gd rfl rfl (R_leq rfl rfl) rfl (J_gd rfl rfl (R_pickT rfl rfl) rfl (J_st (R_pickF rfl rfl) rfl (J_cutEnd ⟨rfl, rfl, rfl, rfl, rfl, rfl, rfl, rfl, rfl, rfl, rfl, rfl, rfl, rfl, rfl, rfl, rfl, rfl, rfl, rfl, rfl, rfl, rfl, rfl, rfl, rfl, congrArg (fun b => some (Value.bool b)) (show (decide ((((g.nodes[i]'hi1).outs)[k]'hi2) ≤ ((i : Nat) : Int))) = (((((g.nodes[i]'hi1).kind) == 7) && ((decide (((i : Nat) : Int) < (((g.nodes[i]'hi1).outs)[k]'hi2))) || ((((g.nodes[(Int.toNat (((g.nodes[i]'hi1).outs)[k]'hi2))]'hi3).kind) != 5) && (((g.nodes[(Int.toNat (((g.nodes[i]'hi1).outs)[k]'hi2))]'hi3).kind) != 6)))) || ((((g.nodes[i]'hi1).kind) != 7) && (decide ((((g.nodes[i]'hi1).outs)[k]'hi2) ≤ ((i : Nat) : Int))))) by first | (rw [hg4, hg5, hg6, hg9] <;> rfl) | (simp [hg4, hg5, hg6, hg9]; done) | (simp only [nat_nlt] <;> simp)), trivial⟩ rfl)))))
          ·refine J_gdno rfl rfl rfl rfl (J_gdno rfl rfl rfl rfl (J_gdno rfl rfl rfl rfl (J_gd rfl rfl (R_pickF rfl rfl) rfl (J_st (R_pickF rfl rfl) rfl (J_cutEnd ⟨rfl, rfl, rfl, rfl, rfl, rfl, rfl, rfl, rfl, rfl, rfl, rfl, rfl, rfl, rfl, rfl, rfl, rfl, rfl, rfl, rfl, rfl, rfl, rfl, rfl, rfl, congrArg (fun b => some (Value.bool b)) (show false = (((((g.nodes[i]'hi1).kind) == 7) && ((decide (((i : Nat) : Int) < (((g.nodes[i]'hi1).outs)[k]'hi2))) || ((((g.nodes[(Int.toNat (((g.nodes[i]'hi1).outs)[k]'hi2))]'hi3).kind) != 5) && (((g.nodes[(Int.toNat (((g.nodes[i]'hi1).outs)[k]'hi2))]'hi3).kind) != 6)))) || ((((g.nodes[i]'hi1).kind) != 7) && (decide ((((g.nodes[i]'hi1).outs)[k]'hi2) ≤ ((i : Nat) : Int))))) by first | (rw [hg4, hg5, hg6, hg9] <;> rfl) | (simp [hg4, hg5, hg6, hg9]; done) | (simp only [nat_nlt] <;> simp)), trivial⟩ rfl)))))
       ·refine J_gdno rfl rfl rfl rfl (J_gdno rfl rfl rfl rfl (J_gdno rfl rfl rfl rfl (J_gdno rfl rfl rfl rfl (J_gdx rfl rfl rfl (J_gdx rfl rfl rfl (J_gdx rfl rfl rfl (J_gdx rfl rfl rfl (J_gdx rfl rfl rfl (J_gdx rfl rfl rfl (J_gdno rfl rfl rfl rfl (J_st (R_pickF rfl rfl) rfl (J_st (R_move rfl) rfl (J_gd rfl rfl (R_fieldAddr0 fl45_0 rfl) rfl (J_gd rfl rfl (R_load sc3 rfl (h2.one 0 rfl)) rfl (J_gd rfl rfl (R_neq rfl rfl) rfl (J_gd rfl rfl (R_move rfl) rfl ?_))))))))))))))))
        refine J_if (gd := 82) rfl rfl (fun hg10 => ?_) (fun hg10 => ?_)
        ·refine J_gd rfl rfl (R_move rfl) rfl (J_gd rfl rfl (R_move rfl) rfl (J_gd rfl rfl (R_leq rfl rfl) rfl (J_gd rfl rfl (R_pickT rfl rfl) rfl (J_st (R_pickF rfl rfl) rfl (J_cutEnd ⟨rfl, rfl, rfl, rfl, rfl, rfl, rfl, rfl, rfl, rfl, rfl, rfl, rfl, rfl, rfl, rfl, rfl, rfl, rfl, rfl, rfl, rfl, rfl, rfl, rfl, rfl, congrArg (fun b => some (Value.bool b)) (show (decide ((((g.nodes[i]'hi1).outs)[k]'hi2) ≤ ((i : Nat) : Int))) = (((((g.nodes[i]'hi1).kind) == 7) && ((decide (((i : Nat) : Int) < (((g.nodes[i]'hi1).outs)[k]'hi2))) || ((((g.nodes[(Int.toNat (((g.nodes[i]'hi1).outs)[k]'hi2))]'hi3).kind) != 5) && (((g.nodes[(Int.toNat (((g.nodes[i]'hi1).outs)[k]'hi2))]'hi3).kind) != 6)))) || ((((g.nodes[i]'hi1).kind) != 7) && (decide ((((g.nodes[i]'hi1).outs)[k]'hi2) ≤ ((i : Nat) : Int))))) by first | (rw [hg4, hg10] <;> rfl) | (simp [hg4, hg10]; done) | (simp only [nat_nlt] <;> simp)), trivial⟩ rfl)))))
        ·refine J_gdno rfl rfl rfl rfl (J_gdno rfl rfl rfl rfl (J_gdno rfl rfl rfl rfl (J_gd rfl rfl (R_pickF rfl rfl) rfl (J_st (R_pickF rfl rfl) rfl (J_cutEnd ⟨rfl, rfl, rfl, rfl, rfl, rfl, rfl, rfl, rfl, rfl, rfl, rfl, rfl, rfl, rfl, rfl, rfl, rfl, rfl, rfl, rfl, rfl, rfl, rfl, rfl, rfl, congrArg (fun b => some (Value.bool b)) (show false = (((((g.nodes[i]'hi1).kind) == 7) && ((decide (((i : Nat) : Int) < (((g.nodes[i]'hi1).outs)[k]'hi2))) || ((((g.nodes[(Int.toNat (((g.nodes[i]'hi1).outs)[k]'hi2))]'hi3).kind) != 5) && (((g.nodes[(Int.toNat (((g.nodes[i]'hi1).outs)[k]'hi2))]'hi3).kind) != 6)))) || ((((g.nodes[i]'hi1).kind) != 7) && (decide ((((g.nodes[i]'hi1).outs)[k]'hi2) ≤ ((i : Nat) : Int))))) by first | (rw [hg4, hg10] <;> rfl) | (simp [hg4, hg10]; done) | (simp only [nat_nlt] <;> simp)), trivial⟩ rfl)))))
      rintro _ rfl
      refine J_done ?_
      refine S_cond rfl (fun hc6 => ?_) (fun hc6 => ?_)
      ·refine S_seq ?_
       refine S_reg [true] rfl rfl ?_
       refine J_st (R_assign rfl) rfl (J_done ?_)
       refine S_ret (E_inB_ret (E_lp_ret (E_inB_ret (E_inB_ret (E_lp_ret (E_inB_ret (E_done1 rfl rfl E ?_)))))))
       exact graph_e (edge_b (congrArg Node.kind (getD_at _)).symm (by assumption))
      ·refine S_skip ?_
       refine S_nil (E_inB ?_)
       refine S_reg [true, true] rfl rfl ?_
       refine J_st (R_add rfl rfl (add_one hc4n (hd2.ext E).1.1)) rfl (J_st (R_move rfl) rfl (J_done ?_))
       refine S_nil (E_again (k + 1) (by omega) ⟨rfl, rfl, rfl, rfl, rfl, rfl, rfl, rfl, rfl, rfl, trivial⟩ ⟨E, (by omega), h1, h2, (by omega), all_step hI (by assumption) (edge_n (congrArg Node.kind (getD_at _)).symm (by assumption) (by assumption))⟩)
    ·have hc4n : ¬ k < ((g.nodes[i]'hi1).outs).length := by first | (have h := of_decide_eq_false hc4; omega) | (have h := hc4; simp at h; omega)
     refine S_exit (E_lp_exit (E_inB_exit ?_))
     refine S_nil (E_inB ?_)
     refine S_reg [true, true] rfl rfl ?_
     refine J_st (R_add rfl rfl (add_one hc2n (hd1.ext E).1.1)) rfl (J_st (R_move rfl) rfl (J_done ?_))
     refine S_nil (E_again (i + 1) (by omega) ⟨rfl, rfl, rfl, rfl, rfl, trivial⟩ ⟨E, (by omega), h1, (by omega), graph_s (h1 := hi1) (by assumption) hI (by omega) hp⟩)
  ·have hc2n : ¬ i < g.nodes.length := by first | (have h := of_decide_eq_false hc2; omega) | (have h := hc2; simp at h; omega)
   refine S_exit (E_lp_exit (E_inB_exit ?_))
   refine S_seq ?_
   refine S_reg [true] rfl rfl ?_
   refine J_st (R_assign rfl) rfl (J_done ?_)
   refine S_ret (E_done1 rfl rfl E ?_)
   exact graph_y (by assumption) hp (by omega)

set_option maxHeartbeats 4000000 in
set_option maxRecDepth 20000 in
theorem s_GraphOk (cg : List Value) (g : Graph) (w : World) (hg : Dat.R w 0 w.heap.size cg g) : Ct Try.prog 56 [.agg cg.toArray] w (fun v _ => v = .bool (graphOk g)) := by
 refine ct_of Try.func56 rfl Try.ntmps56 rfl ?_
 obtain ⟨o1, rfl, hd1⟩ := Graph.op hg
 refine S_sub [(0, .agg [o1, .int .i64 g.workers, .int .i64 g.cap].toArray)] ⟨rfl, trivial⟩ ?_
 have E : Ext w w := Ext.refl w
 refine S_seq ?_
 refine S_reg [false, true] rfl rfl ?_
 refine J_box rfl rfl (fun b1 w1 e1 s1 h1 => ?_)
 have g_b1 : w.heap.size ≤ b1 := by have := E.size; omega
 have y_b1 := h1.lt
 replace E := E.trans e1
 have z1 := e1.size
 refine J_st (R_assign rfl) rfl (J_done ?_)
 refine S_seq ?_
 refine S_seq ?_
 refine S_reg [true, true, true, false, true, true, true, true, false, true, true, true, true, true, false, true, true] rfl rfl ?_
 refine J_st (R_fieldAddr0 fl26_0 rfl) rfl (J_st (R_load sc24 rfl (h1.one 0 rfl)) rfl (J_st (R_len Try.underlying24 rfl (hd1.ext E).len) rfl ?_))
 refine J_call Try.call58 rfl (s_l01In ((g.nodes.length : Nat) : Int) 1 8 _ ) rfl (fun _ w2 e2 hv => ?_)
 subst hv
 replace E := E.trans e2; replace h1 := h1.ext e2
 have z2 := e2.size
 refine J_st (R_not rfl) rfl (J_st (R_move rfl) rfl ?_)
 refine J_cut 11 [(0, .agg [o1, .int .i64 g.workers, .int .i64 g.cap].toArray), (1, .pointer (some ⟨b1, 0, none⟩)), (2, .bool false), (24, .bool (((!(win ((g.nodes.length : Nat) : Int) 1 8)) || (!(win g.workers 1 4))) || (!(win g.cap 1 4))))] (fun w' => Ext w w' ∧ w2.heap.size ≤ w'.heap.size ∧ Blk w' b1 ([o1, .int .i64 g.workers, .int .i64 g.cap])) ?_ ?_
 ·refine J_if (gd := 13) rfl rfl (fun hg1 => ?_) (fun hg1 => ?_)
  ·refine J_gdno rfl rfl rfl rfl (J_gdno rfl rfl rfl rfl ?_)
   refine J_ungno rfl rfl rfl rfl ?_
   refine J_gdno rfl rfl rfl rfl (J_st (R_pickT rfl rfl) rfl (J_st (R_move rfl) rfl (J_gdno rfl rfl rfl rfl (J_gdno rfl rfl rfl rfl ?_))))
   refine J_ungno rfl rfl rfl rfl ?_
   refine J_gdno rfl rfl rfl rfl (J_st (R_pickT rfl rfl) rfl (J_cutEnd ⟨rfl, rfl, rfl, congrArg (fun b => some (Value.bool b)) (show true = (((!(win ((g.nodes.length : Nat) : Int) 1 8)) || (!(win g.workers 1 4))) || (!(win g.cap 1 4))) by first | (rw [hg1] <;> rfl) | (simp [hg1]; done) | (simp only [nat_nlt] <;> simp)), trivial⟩ ⟨E, (by omega), h1⟩))
  ·refine J_gd rfl rfl (R_fieldAddr0 fl26_1 rfl) rfl (J_gd rfl rfl (R_load sc3 rfl (h1.one 1 rfl)) rfl ?_)
   refine J_ung rfl rfl ?_
   refine J_call Try.call58 rfl (s_l01In g.workers 1 4 _ ) rfl (fun _ w4 e3 hv => ?_)
   subst hv
   replace E := E.trans e3; replace h1 := h1.ext e3
   have z3 := e3.size
   refine J_gd rfl rfl (R_not rfl) rfl (J_st (R_pickF rfl rfl) rfl (J_st (R_move rfl) rfl ?_))
   refine J_if (gd := 19) rfl rfl (fun hg2 => ?_) (fun hg2 => ?_)
   ·refine J_gdno rfl rfl rfl rfl (J_gdno rfl rfl rfl rfl ?_)
    refine J_ungno rfl rfl rfl rfl ?_
    refine J_gdno rfl rfl rfl rfl (J_st (R_pickT rfl rfl) rfl (J_cutEnd ⟨rfl, rfl, rfl, congrArg (fun b => some (Value.bool b)) (show true = (((!(win ((g.nodes.length : Nat) : Int) 1 8)) || (!(win g.workers 1 4))) || (!(win g.cap 1 4))) by first | (rw [hg1, hg2] <;> rfl) | (simp [hg1, hg2]; done) | (simp only [nat_nlt] <;> simp)), trivial⟩ ⟨E, (by omega), h1⟩))
   ·refine J_gd rfl rfl (R_fieldAddr0 fl26_2 rfl) rfl (J_gd rfl rfl (R_load sc3 rfl (h1.one 2 rfl)) rfl ?_)
    refine J_ung rfl rfl ?_
    refine J_call Try.call58 rfl (s_l01In g.cap 1 4 _ ) rfl (fun _ w5 e4 hv => ?_)
    subst hv
    replace E := E.trans e4; replace h1 := h1.ext e4
    have z4 := e4.size
    refine J_gd rfl rfl (R_not rfl) rfl (J_st (R_pickF rfl rfl) rfl (J_cutEnd ⟨rfl, rfl, rfl, congrArg (fun b => some (Value.bool b)) (show (!(win g.cap 1 4)) = (((!(win ((g.nodes.length : Nat) : Int) 1 8)) || (!(win g.workers 1 4))) || (!(win g.cap 1 4))) by first | (rw [hg1, hg2] <;> rfl) | (simp [hg1, hg2]; done) | (simp only [nat_nlt] <;> simp)), trivial⟩ ⟨E, (by omega), h1⟩))
 clear E h1
 rintro w3 ⟨E, z5, h1⟩
 refine J_done ?_
 refine S_cond rfl (fun hc1 => ?_) (fun hc1 => ?_)
 ·refine S_seq ?_
  refine S_reg [true] rfl rfl ?_
  refine J_st (R_assign rfl) rfl (J_done ?_)
  refine S_ret (E_done1 rfl rfl E ?_)
  exact graph_h (by assumption)
 ·refine S_skip ?_
  refine S_seq ?_
  refine S_seq ?_
  refine S_reg [true] rfl rfl ?_
  refine J_st (R_assign rfl) rfl (J_done ?_)
  refine S_block ?_
  refine S_loop (fun (i : Nat) => [(1, .pointer (some ⟨b1, 0, none⟩)), (2, .bool false), (3, .int .i64 ((i : Nat) : Int))]) (fun (i : Nat) w' => Ext w w' ∧ w3.heap.size ≤ w'.heap.size ∧ Blk w' b1 ([o1, .int .i64 g.workers, .int .i64 g.cap]) ∧ i ≤ g.nodes.length ∧ (∀ j, j < i → nodeAtOk g j (List.getD g.nodes j default) = true)) (fun (i : Nat) => g.nodes.length - i) 0 ⟨rfl, rfl, rfl, trivial⟩ ⟨E, Nat.le_refl _, h1, Nat.zero_le _, (fun j hj => by omega)⟩ ?_
  clear E h1
  rintro i w6 ⟨E, z6, h1, hle, hp⟩
  refine S_seq ?_
  refine S_seq ?_
  refine S_reg [true, true, true, true, true] rfl rfl ?_
  refine J_st (R_move rfl) rfl (J_st (R_fieldAddr0 fl26_0 rfl) rfl (J_st (R_load sc24 rfl (h1.one 0 rfl)) rfl (J_st (R_len Try.underlying24 rfl (hd1.ext E).len) rfl (J_st (R_lss rfl rfl) rfl (J_done ?_)))))
  refine S_cond rfl (fun hc2 => ?_) (fun hc2 => ?_)
  ·have hc2n : i < g.nodes.length := by first | (have h := of_decide_eq_true hc2; omega) | (have h := hc2; simp at h; omega)
   refine S_skip ?_
   refine S_seq ?_
   refine S_block ?_
   refine S_seq ?_
   refine S_reg [true, true, true, true, true, false, false] rfl rfl ?_
   refine J_st (R_fieldAddr0 fl26_0 rfl) rfl (J_st (R_load sc24 rfl (h1.one 0 rfl)) rfl (J_st (R_move rfl) rfl ?_))
   have hi1 : i < g.nodes.length := (by first | assumption | omega | (simp only [List.length_set]; first | assumption | omega) | (simp only [List.getElem_set_self, List.length_set]; first | assumption | omega) | (simp only [setW, setLk, List.length_set]; first | assumption | omega) | (simp; done))
   obtain ⟨_, hr1, ha1⟩ := RdD.get hd1 hi1
   obtain ⟨o2, rfl, hd2⟩ := Node.op hr1
   replace ha1 : At w (sblk o1) (soff o1 + i * 4) [.int .i64 ((g.nodes[i]'hi1).kind), .int .i64 ((g.nodes[i]'hi1).a), .int .i64 ((g.nodes[i]'hi1).b), o2] := ha1
   refine J_st (R_index (i := i) sl24 rfl rfl (hd1.ext E).1 hi1) rfl (J_st (R_loadS st45 rfl (ha1.ext E) rfl) rfl ?_)
   refine J_alloc st45 rfl (fun b2 w7 e5 s2 h2 => ?_)
   have g_b2 : w.heap.size ≤ b2 := by have := E.size; omega
   have y_b2 := h2.lt
   replace E := E.trans e5; replace h1 := h1.ext e5
   have z7 := e5.size
   refine J_storeS' (cs' := [.int .i64 ((g.nodes[i]'hi1).kind), .int .i64 ((g.nodes[i]'hi1).a), .int .i64 ((g.nodes[i]'hi1).b), o2]) st45 rfl rfl rfl (all_cons rfl (all_cons rfl (all_cons rfl (all_cons (RdD.one (hd2.ext E)) rfl)))) h2 (Nat.le_of_ble_eq_true rfl) rfl (fun w8 m1 h2' => ?_)
   replace h2 := h2'
   replace E := E.step m1 (fun g hg => by cases hg; omega); replace h1 := h1.mod m1 (fun g hg => by cases hg; omega)
   have z8 := m1.size
   refine J_done ?_
   refine S_seq ?_
   refine S_seq ?_
   refine S_reg [true, false, true, true, true, true, true, true, true, true, true] rfl rfl ?_
   refine J_st (R_loadS st45 rfl h2.at rfl) rfl ?_
   refine J_call Try.call62 rfl (s_NodeOk [.int .i64 ((g.nodes[i]'hi1).kind), .int .i64 ((g.nodes[i]'hi1).a), .int .i64 ((g.nodes[i]'hi1).b), o2] (g.nodes[i]'hi1) _ (Node.mkR (g.nodes[i]'hi1) (RdD.any (hd2.ext E)))) rfl (fun _ w9 e6 hv => ?_)
   subst hv
   replace E := E.trans e6; replace h1 := h1.ext e6; replace h2 := h2.ext e6
   have z9 := e6.size
   refine J_st (R_not rfl) rfl (J_st (R_move rfl) rfl ?_)
   refine J_cut 7 [(1, .pointer (some ⟨b1, 0, none⟩)), (2, .bool false), (3, .int .i64 ((i : Nat) : Int)), (4, .pointer (some ⟨b2, 0, none⟩)), (25, .int .i64 ((i : Nat) : Int)), (26, .pointer (some ⟨b1, 0, none⟩)), (27, o1), (28, .int .i64 ((g.nodes.length : Nat) : Int)), (29, .bool (decide (((i : Nat) : Int) < ((g.nodes.length : Nat) : Int)))), (32, .pointer (some ⟨b1, 0, none⟩)), (33, o1), (34, .int .i64 ((i : Nat) : Int)), (35, .pointer (some ⟨sblk o1, soff o1 + i * 4, none⟩)), (36, .agg [.int .i64 ((g.nodes[i]'hi1).kind), .int .i64 ((g.nodes[i]'hi1).a), .int .i64 ((g.nodes[i]'hi1).b), o2].toArray), (47, .bool ((!(nodeOk (g.nodes[i]'hi1))) || (!((((g.nodes[i]'hi1).kind) == 1) == (((i : Nat) : Int) == 0)))))] (fun w' => w9 = w') ?_ ?_
   ·refine J_if (gd := 40) rfl rfl (fun hg3 => ?_) (fun hg3 => ?_)
    ·refine J_gdno rfl rfl rfl rfl (J_gdno rfl rfl rfl rfl (J_gdno rfl rfl rfl rfl (J_gdno rfl rfl rfl rfl (J_gdno rfl rfl rfl rfl (J_gdno rfl rfl rfl rfl (J_st (R_pickT rfl rfl) rfl (J_cutEnd ⟨rfl, rfl, rfl, rfl, rfl, rfl, rfl, rfl, rfl, rfl, rfl, rfl, rfl, rfl, congrArg (fun b => some (Value.bool b)) (show true = ((!(nodeOk (g.nodes[i]'hi1))) || (!((((g.nodes[i]'hi1).kind) == 1) == (((i : Nat) : Int) == 0)))) by first | (rw [hg3] <;> rfl) | (simp [hg3]; done) | (simp only [nat_nlt] <;> simp)), trivial⟩ rfl)))))))
    ·refine J_gd rfl rfl (R_fieldAddr0 fl45_0 rfl) rfl (J_gd rfl rfl (R_load sc3 rfl (h2.one 0 rfl)) rfl (J_gd rfl rfl (R_eql rfl rfl) rfl (J_gd rfl rfl (R_move rfl) rfl (J_gd rfl rfl (R_eql rfl rfl) rfl (J_gd rfl rfl (R_neqB (Try.underlying4) rfl rfl) rfl (J_st (R_pickF rfl rfl) rfl (J_cutEnd ⟨rfl, rfl, rfl, rfl, rfl, rfl, rfl, rfl, rfl, rfl, rfl, rfl, rfl, rfl, congrArg (fun b => some (Value.bool b)) (show (!((((g.nodes[i]'hi1).kind) == 1) == (((i : Nat) : Int) == 0))) = ((!(nodeOk (g.nodes[i]'hi1))) || (!((((g.nodes[i]'hi1).kind) == 1) == (((i : Nat) : Int) == 0)))) by first | (rw [hg3] <;> rfl) | (simp [hg3]; done) | (simp only [nat_nlt] <;> simp)), trivial⟩ rfl)))))))
   rintro _ rfl
   refine J_done ?_
   refine S_cond rfl (fun hc3 => ?_) (fun hc3 => ?_)
   ·refine S_seq ?_
    refine S_reg [true] rfl rfl ?_
    refine J_st (R_assign rfl) rfl (J_done ?_)
    refine S_ret (E_inB_ret (E_lp_ret (E_inB_ret (E_done1 rfl rfl E ?_))))
    exact graph_a (by assumption)
   ·refine S_skip ?_
    refine S_seq ?_
    refine S_reg [true] rfl rfl ?_
    refine J_st (R_assign rfl) rfl (J_done ?_)
    refine S_block ?_
    refine S_loop (fun (k : Nat) => [(1, .pointer (some ⟨b1, 0, none⟩)), (2, .bool false), (3, .int .i64 ((i : Nat) : Int)), (4, .pointer (some ⟨b2, 0, none⟩)), (5, .int .i64 ((k : Nat) : Int))]) (fun (k : Nat) w' => Ext w w' ∧ w9.heap.size ≤ w'.heap.size ∧ Blk w' b1 ([o1, .int .i64 g.workers, .int .i64 g.cap]) ∧ Blk w' b2 [.int .i64 ((g.nodes[i]'hi1).kind), .int .i64 ((g.nodes[i]'hi1).a), .int .i64 ((g.nodes[i]'hi1).b), o2] ∧ k ≤ (g.nodes[i]'hi1).outs.length ∧ ((g.nodes[i]'hi1).outs.take k).all (fun to => !edgeBad g i (g.nodes[i]'hi1) to) = true) (fun (k : Nat) => (g.nodes[i]'hi1).outs.length - k) 0 ⟨rfl, rfl, rfl, rfl, rfl, trivial⟩ ⟨E, Nat.le_refl _, h1, h2, Nat.zero_le _, rfl⟩ ?_
    clear E h1 h2
    rintro k w11 ⟨E, z10, h1, h2, hk, hI⟩
    refine S_seq ?_
    refine S_seq ?_
    refine S_reg [true, true, true, true, true] rfl rfl ?_
    refine J_st (R_move rfl) rfl (J_st (R_fieldAddr0 fl45_3 rfl) rfl (J_st (R_load sc29 rfl (h2.one 3 rfl)) rfl (J_st (R_len Try.underlying29 rfl (hd2.ext E).len) rfl (J_st (R_lss rfl rfl) rfl (J_done ?_)))))
    refine S_cond rfl (fun hc4 => ?_) (fun hc4 => ?_)
    ·have hc4n : k < ((g.nodes[i]'hi1).outs).length := by first | (have h := of_decide_eq_true hc4; omega) | (have h := hc4; simp at h; omega)
     refine S_skip ?_
     refine S_seq ?_
     refine S_block ?_
     refine S_seq ?_
     refine S_reg [true, true, true, true, true, true] rfl rfl ?_
     refine J_st (R_fieldAddr0 fl45_3 rfl) rfl (J_st (R_load sc29 rfl (h2.one 3 rfl)) rfl (J_st (R_move rfl) rfl ?_))
     have hi2 : k < ((g.nodes[i]'hi1).outs).length := (by first | assumption | omega | (simp only [List.length_set]; first | assumption | omega) | (simp only [List.getElem_set_self, List.length_set]; first | assumption | omega) | (simp only [setW, setLk, List.length_set]; first | assumption | omega) | (simp; done))
     refine J_st (R_index (i := k) sl29 rfl rfl (hd2.rd.ext E) hi2) rfl (J_st (R_load sc3 rfl (((hd2.rd.ext E).get hi2).one 0 rfl)) rfl (J_st (R_assign rfl) rfl (J_done ?_)))
     refine S_seq ?_
     refine S_seq ?_
     refine S_reg [true, true, true, true, true, true, true, true, true, true, true, true, true, true, true] rfl rfl ?_
     refine J_st (R_move rfl) rfl (J_st (R_fieldAddr0 fl26_0 rfl) rfl (J_st (R_load sc24 rfl (h1.one 0 rfl)) rfl (J_st (R_len Try.underlying24 rfl (hd1.ext E).len) rfl (J_st (R_geq rfl rfl) rfl (J_st (R_move rfl) rfl ?_)))))
     refine J_cut 9 [(1, .pointer (some ⟨b1, 0, none⟩)), (2, .bool false), (3, .int .i64 ((i : Nat) : Int)), (4, .pointer (some ⟨b2, 0, none⟩)), (5, .int .i64 ((k : Nat) : Int)), (6, .int .i64 (((g.nodes[i]'hi1).outs)[k]'hi2)), (48, .int .i64 ((k : Nat) : Int)), (49, .pointer (some ⟨b2, 3, none⟩)), (50, o2), (51, .int .i64 ((((g.nodes[i]'hi1).outs).length : Nat) : Int)), (52, .bool (decide (((k : Nat) : Int) < ((((g.nodes[i]'hi1).outs).length : Nat) : Int)))), (55, .pointer (some ⟨b2, 3, none⟩)), (56, o2), (57, .int .i64 ((k : Nat) : Int)), (58, .pointer (some ⟨sblk o2, soff o2 + k * 1, none⟩)), (59, .int .i64 (((g.nodes[i]'hi1).outs)[k]'hi2)), (74, .bool ((decide (((g.nodes.length : Nat) : Int) ≤ (((g.nodes[i]'hi1).outs)[k]'hi2))) || ((((g.nodes[i]'hi1).kind) != 7) && (decide ((((g.nodes[i]'hi1).outs)[k]'hi2) ≤ ((i : Nat) : Int))))))] (fun w' => w11 = w') ?_ ?_
     ·refine J_if (gd := 65) rfl rfl (fun hg4 => ?_) (fun hg4 => ?_)
      ·refine J_gdno rfl rfl rfl rfl (J_gdno rfl rfl rfl rfl (J_gdno rfl rfl rfl rfl (J_gdno rfl rfl rfl rfl (J_gdx rfl rfl rfl (J_gdx rfl rfl rfl (J_gdx rfl rfl rfl (J_gdno rfl rfl rfl rfl (J_st (R_pickT rfl rfl) rfl (J_cutEnd ⟨rfl, rfl, rfl, rfl, rfl, rfl, rfl, rfl, rfl, rfl, rfl, rfl, rfl, rfl, rfl, rfl, congrArg (fun b => some (Value.bool b)) (show true = ((decide (((g.nodes.length : Nat) : Int) ≤ (((g.nodes[i]'hi1).outs)[k]'hi2))) || ((((g.nodes[i]'hi1).kind) != 7) && (decide ((((g.nodes[i]'hi1).outs)[k]'hi2) ≤ ((i : Nat) : Int))))) by first | (rw [hg4] <;> rfl) | (simp [hg4]; done) | (simp only [nat_nlt] <;> simp)), trivial⟩ rfl)))))))))
      ·have hto := graph_to (h1 := hi1) (h2 := hi2) (by assumption)
       have htl := Int.not_le.1 (of_decide_eq_false hg4)
       refine J_gd rfl rfl (R_fieldAddr0 fl45_0 rfl) rfl (J_gd rfl rfl (R_load sc3 rfl (h2.one 0 rfl)) rfl (J_gd rfl rfl (R_neq rfl rfl) rfl (J_gd rfl rfl (R_move rfl) rfl ?_)))
       refine J_if (gd := 69) rfl rfl (fun hg5 => ?_) (fun hg5 => ?_)
       ·refine J_gd rfl rfl (R_move rfl) rfl (J_gd rfl rfl (R_move rfl) rfl (J_gd rfl rfl (R_leq rfl rfl) rfl (J_gd rfl rfl (R_pickT rfl rfl) rfl (J_st (R_pickF rfl rfl) rfl (J_cutEnd ⟨rfl, rfl, rfl, rfl, rfl, rfl, rfl, rfl, rfl, rfl, rfl, rfl, rfl, rfl, rfl, rfl, congrArg (fun b => some (Value.bool b)) (show (decide ((((g.nodes[i]'hi1).outs)[k]'hi2) ≤ ((i : Nat) : Int))) = ((decide (((g.nodes.length : Nat) : Int) ≤ (((g.nodes[i]'hi1).outs)[k]'hi2))) || ((((g.nodes[i]'hi1).kind) != 7) && (decide ((((g.nodes[i]'hi1).outs)[k]'hi2) ≤ ((i : Nat) : Int))))) by first | (rw [hg4, hg5] <;> rfl) | (simp [hg4, hg5]; done) | (simp only [nat_nlt] <;> simp)), trivial⟩ rfl)))))
       ·refine J_gdno rfl rfl rfl rfl (J_gdno rfl rfl rfl rfl (J_gdno rfl rfl rfl rfl (J_gd rfl rfl (R_pickF rfl rfl) rfl (J_st (R_pickF rfl rfl) rfl (J_cutEnd ⟨rfl, rfl, rfl, rfl, rfl, rfl, rfl, rfl, rfl, rfl, rfl, rfl, rfl, rfl, rfl, rfl, congrArg (fun b => some (Value.bool b)) (show false = ((decide (((g.nodes.length : Nat) : Int) ≤ (((g.nodes[i]'hi1).outs)[k]'hi2))) || ((((g.nodes[i]'hi1).kind) != 7) && (decide ((((g.nodes[i]'hi1).outs)[k]'hi2) ≤ ((i : Nat) : Int))))) by first | (rw [hg4, hg5] <;> rfl) | (simp [hg4, hg5]; done) | (simp only [nat_nlt] <;> simp)), trivial⟩ rfl)))))
     rintro _ rfl
     refine J_done ?_
     refine S_cond rfl (fun hc5 => ?_) (fun hc5 => ?_)
     ·refine S_seq ?_
      refine S_reg [true] rfl rfl ?_
      refine J_st (R_assign rfl) rfl (J_done ?_)
      refine S_ret (E_inB_ret (E_lp_ret (E_inB_ret (E_inB_ret (E_lp_ret (E_inB_ret (E_done1 rfl rfl E ?_)))))))
      exact graph_e (edge_s1 (by assumption))
     ·have hto := graph_to (h1 := hi1) (h2 := hi2) (by assumption)
      have htl := edge_lt hc5
      refine S_skip ?_
      refine S_seq ?_
      refine S_reg [true, true, true, true, true, true, true] rfl rfl ?_
      refine J_st (R_fieldAddr0 fl26_0 rfl) rfl (J_st (R_load sc24 rfl (h1.one 0 rfl)) rfl (J_st (R_move rfl) rfl ?_))
      have hi3 : (Int.toNat (((g.nodes[i]'hi1).outs)[k]'hi2)) < g.nodes.length := (by first | assumption | omega | (simp only [List.length_set]; first | assumption | omega) | (simp only [List.getElem_set_self, List.length_set]; first | assumption | omega) | (simp only [setW, setLk, List.length_set]; first | assumption | omega) | (simp; done))
      obtain ⟨_, hr2, ha2⟩ := RdD.get hd1 hi3
      obtain ⟨o3, rfl, hd3⟩ := Node.op hr2
      replace ha2 : At w (sblk o1) (soff o1 + (Int.toNat (((g.nodes[i]'hi1).outs)[k]'hi2)) * 4) [.int .i64 ((g.nodes[(Int.toNat (((g.nodes[i]'hi1).outs)[k]'hi2))]'hi3).kind), .int .i64 ((g.nodes[(Int.toNat (((g.nodes[i]'hi1).outs)[k]'hi2))]'hi3).a), .int .i64 ((g.nodes[(Int.toNat (((g.nodes[i]'hi1).outs)[k]'hi2))]'hi3).b), o3] := ha2
      refine J_st (R_indexZ (i := (Int.toNat (((g.nodes[i]'hi1).outs)[k]'hi2))) sl24 rfl rfl (hd1.ext E).1 (by omega) hi3) rfl (J_st (R_fieldAddr fl45_0 rfl) rfl (J_st (R_load sc3 rfl ((ha2.ext E).one 0 rfl)) rfl (J_st (R_assign rfl) rfl (J_done ?_))))
      refine S_seq ?_
      refine S_reg [true, true, true, true, true, true, true, true, true, true, true, true, true, true, true, true] rfl rfl ?_
      refine J_st (R_fieldAddr0 fl45_0 rfl) rfl (J_st (R_load sc3 rfl (h2.one 0 rfl)) rfl (J_st (R_eql rfl rfl) rfl (J_st (R_move rfl) rfl ?_)))
      refine J_cut 12 [(1, .pointer (some ⟨b1, 0, none⟩)), (2, .bool false), (3, .int .i64 ((i : Nat) : Int)), (4, .pointer (some ⟨b2, 0, none⟩)), (5, .int .i64 ((k : Nat) : Int)), (6, .int .i64 (((g.nodes[i]'hi1).outs)[k]'hi2)), (7, .int .i64 ((g.nodes[(Int.toNat (((g.nodes[i]'hi1).outs)[k]'hi2))]'hi3).kind)), (48, .int .i64 ((k : Nat) : Int)), (49, .pointer (some ⟨b2, 3, none⟩)), (50, o2), (51, .int .i64 ((((g.nodes[i]'hi1).outs).length : Nat) : Int)), (52, .bool (decide (((k : Nat) : Int) < ((((g.nodes[i]'hi1).outs).length : Nat) : Int)))), (55, .pointer (some ⟨b2, 3, none⟩)), (56, o2), (57, .int .i64 ((k : Nat) : Int)), (58, .pointer (some ⟨sblk o2, soff o2 + k * 1, none⟩)), (59, .int .i64 (((g.nodes[i]'hi1).outs)[k]'hi2)), (74, .bool ((decide (((g.nodes.length : Nat) : Int) ≤ (((g.nodes[i]'hi1).outs)[k]'hi2))) || ((((g.nodes[i]'hi1).kind) != 7) && (decide ((((g.nodes[i]'hi1).outs)[k]'hi2) ≤ ((i : Nat) : Int)))))), (75, .pointer (some ⟨b1, 0, none⟩)), (76, o1), (77, .int .i64 (((g.nodes[i]'hi1).outs)[k]'hi2)), (78, .pointer (some ⟨sblk o1, soff o1 + (Int.toNat (((g.nodes[i]'hi1).outs)[k]'hi2)) * 4, none⟩)), (79, .pointer (some ⟨(sblk o1), soff o1 + (Int.toNat (((g.nodes[i]'hi1).outs)[k]'hi2)) * 4 + 0, none⟩)), (80, .int .i64 ((g.nodes[(Int.toNat (((g.nodes[i]'hi1).outs)[k]'hi2))]'hi3).kind)), (96, .bool ((((g.nodes[i]'hi1).kind) == 7) && ((decide (((i : Nat) : Int) < (((g.nodes[i]'hi1).outs)[k]'hi2))) || ((((g.nodes[(Int.toNat (((g.nodes[i]'hi1).outs)[k]'hi2))]'hi3).kind) != 5) && (((g.nodes[(Int.toNat (((g.nodes[i]'hi1).outs)[k]'hi2))]'hi3).kind) != 6)))))] (fun w' => w11 = w') ?_ ?_
      ·refine J_if (gd := 84) rfl rfl (fun hg6 => ?_) (fun hg6 => ?_)
       ·refine J_gd rfl rfl (R_move rfl) rfl (J_gd rfl rfl (R_move rfl) rfl (J_gd rfl rfl (R_gtr rfl rfl) rfl (J_gd rfl rfl (R_move rfl) rfl ?_)))
        refine J_if (gd := 88) rfl rfl (fun hg7 => ?_) (fun hg7 => ?_)
        ·refine J_gdno rfl rfl rfl rfl (J_gdno rfl rfl rfl rfl (J_gdno rfl rfl rfl rfl (J_gdx rfl rfl rfl (J_gdx rfl rfl rfl (J_gdno rfl rfl rfl rfl (J_gd rfl rfl (R_pickT rfl rfl) rfl (J_st (R_pickT rfl rfl) rfl (J_cutEnd ⟨rfl, rfl, rfl, rfl, rfl, rfl, rfl, rfl, rfl, rfl, rfl, rfl, rfl, rfl, rfl, rfl, rfl, rfl, rfl, rfl, rfl, rfl, rfl, rfl, congrArg (fun b => some (Value.bool b)) (show true = ((((g.nodes[i]'hi1).kind) == 7) && ((decide (((i : Nat) : Int) < (((g.nodes[i]'hi1).outs)[k]'hi2))) || ((((g.nodes[(Int.toNat (((g.nodes[i]'hi1).outs)[k]'hi2))]'hi3).kind) != 5) && (((g.nodes[(Int.toNat (((g.nodes[i]'hi1).outs)[k]'hi2))]'hi3).kind) != 6)))) by first | (rw [hg6, hg7] <;> rfl) | (simp [hg6, hg7]; done) | (simp only [nat_nlt] <;> simp)), trivial⟩ rfl))))))))
        ·refine J_gd rfl rfl (R_move rfl) rfl (J_gd rfl rfl (R_neq rfl rfl) rfl (J_gd rfl rfl (R_move rfl) rfl ?_))
         refine J_if (gd := 91) rfl rfl (fun hg8 => ?_) (fun hg8 => ?_)
         ·refine J_gd rfl rfl (R_move rfl) rfl (J_gd rfl rfl (R_neq rfl rfl) rfl (J_gd rfl rfl (R_pickT rfl rfl) rfl (J_gd rfl rfl (R_pickF rfl rfl) rfl (J_st (R_pickT rfl rfl) rfl (J_cutEnd ⟨rfl, rfl, rfl, rfl, rfl, rfl, rfl, rfl, rfl, rfl, rfl, rfl, rfl, rfl, rfl, rfl, rfl, rfl, rfl, rfl, rfl, rfl, rfl, rfl, congrArg (fun b => some (Value.bool b)) (show (((g.nodes[(Int.toNat (((g.nodes[i]'hi1).outs)[k]'hi2))]'hi3).kind) != 6) = ((((g.nodes[i]'hi1).kind) == 7) && ((decide (((i : Nat) : Int) < (((g.nodes[i]'hi1).outs)[k]'hi2))) || ((((g.nodes[(Int.toNat (((g.nodes[i]'hi1).outs)[k]'hi2))]'hi3).kind) != 5) && (((g.nodes[(Int.toNat (((g.nodes[i]'hi1).outs)[k]'hi2))]'hi3).kind) != 6)))) by first | (rw [hg6, hg7, hg8] <;> rfl) | (simp [hg6, hg7, hg8]; done) | (simp only [nat_nlt] <;> simp)), trivial⟩ rfl)))))
         ·refine J_gdno rfl rfl rfl rfl (J_gdno rfl rfl rfl rfl (J_gd rfl rfl (R_pickF rfl rfl) rfl (J_gd rfl rfl (R_pickF rfl rfl) rfl (J_st (R_pickT rfl rfl) rfl (J_cutEnd ⟨rfl, rfl, rfl, rfl, rfl, rfl, rfl, rfl, rfl, rfl, rfl, rfl, rfl, rfl, rfl, rfl, rfl, rfl, rfl, rfl, rfl, rfl, rfl, rfl, congrArg (fun b => some (Value.bool b)) (show false = ((((g.nodes[i]'hi1).kind) == 7) && ((decide (((i : Nat) : Int) < (((g.nodes[i]'hi1).outs)[k]'hi2))) || ((((g.nodes[(Int.toNat (((g.nodes[i]'hi1).outs)[k]'hi2))]'hi3).kind) != 5) && (((g.nodes[(Int.toNat (((g.nodes[i]'hi1).outs)[k]'hi2))]'hi3).kind) != 6)))) by first | (rw [hg6, hg7, hg8] <;> rfl) | (simp [hg6, hg7, hg8]; done) | (simp only [nat_nlt] <;> simp)), trivial⟩ rfl)))))
       ·refine J_gdno rfl rfl rfl rfl (J_gdno rfl rfl rfl rfl (J_gdno rfl rfl rfl rfl (J_gdno rfl rfl rfl rfl (J_gdx rfl rfl rfl (J_gdx rfl rfl rfl (J_gdx rfl rfl rfl (J_gdx rfl rfl rfl (J_gdx rfl rfl rfl (J_gdx rfl rfl rfl (J_gdno rfl rfl rfl rfl (J_st (R_pickF rfl rfl) rfl (J_cutEnd ⟨rfl, rfl, rfl, rfl, rfl, rfl, rfl, rfl, rfl, rfl, rfl, rfl, rfl, rfl, rfl, rfl, rfl, rfl, rfl, rfl, rfl, rfl, rfl, rfl, congrArg (fun b => some (Value.bool b)) (show false = ((((g.nodes[i]'hi1).kind) == 7) && ((decide (((i : Nat) : Int) < (((g.nodes[i]'hi1).outs)[k]'hi2))) || ((((g.nodes[(Int.toNat (((g.nodes[i]'hi1).outs)[k]'hi2))]'hi3).kind) != 5) && (((g.nodes[(Int.toNat (((g.nodes[i]'hi1).outs)[k]'hi2))]'hi3).kind) != 6)))) by first | (rw [hg6] <;> rfl) | (simp [hg6]; done) | (simp only [nat_nlt] <;> simp)), trivial⟩ rfl))))))))))))
      rintro _ rfl
      refine J_done ?_
      refine S_cond rfl (fun hc6 => ?_) (fun hc6 => ?_)
      ·refine S_seq ?_
       refine S_reg [true] rfl rfl ?_
       refine J_st (R_assign rfl) rfl (J_done ?_)
       refine S_ret (E_inB_ret (E_lp_ret (E_inB_ret (E_inB_ret (E_lp_ret (E_inB_ret (E_done1 rfl rfl E ?_)))))))
       exact graph_e (edge_s2 (congrArg Node.kind (getD_at _)).symm (by assumption))
      ·refine S_skip ?_
       refine S_nil (E_inB ?_)
       refine S_reg [true, true, true] rfl rfl ?_
       refine J_st (R_move rfl) rfl (J_st (R_add rfl rfl (add_one hc4n (hd2.ext E).1.1)) rfl (J_st (R_assign rfl) rfl (J_done ?_)))
       refine S_nil (E_again (k + 1) (by omega) ⟨rfl, rfl, rfl, rfl, rfl, trivial⟩ ⟨E, (by omega), h1, h2, (by omega), all_step hI (by assumption) (edge_sn (congrArg Node.kind (getD_at _)).symm (by assumption) (by assumption))⟩)
    ·have hc4n : ¬ k < ((g.nodes[i]'hi1).outs).length := by first | (have h := of_decide_eq_false hc4; omega) | (have h := hc4; simp at h; omega)
     refine S_exit (E_lp_exit (E_inB_exit ?_))
     refine S_nil (E_inB ?_)
     refine S_reg [true, true, true] rfl rfl ?_
     refine J_st (R_move rfl) rfl (J_st (R_add rfl rfl (add_one hc2n (hd1.ext E).1.1)) rfl (J_st (R_assign rfl) rfl (J_done ?_)))
     refine S_nil (E_again (i + 1) (by omega) ⟨rfl, rfl, rfl, trivial⟩ ⟨E, (by omega), h1, (by omega), graph_s (h1 := hi1) (by assumption) hI (by omega) hp⟩)
  ·have hc2n : ¬ i < g.nodes.length := by first | (have h := of_decide_eq_false hc2; omega) | (have h := hc2; simp at h; omega)
   refine S_exit (E_lp_exit (E_inB_exit ?_))
   refine S_seq ?_
   refine S_reg [true] rfl rfl ?_
   refine J_st (R_assign rfl) rfl (J_done ?_)
   refine S_ret (E_done1 rfl rfl E ?_)
   exact graph_y (by assumption) hp (by omega)

set_option maxRecDepth 20000 in
theorem c_IndexFuncDone (vxs : Value) (xs : List Done) (fp : Value) (p : Done → Bool) (w : World) (hxs : RdS w vxs xs) (hp : PredF Try.prog w fp p) : Ct Try.prog 54 [vxs, fp] w (fun v _ => v = .int .i64 (findI xs p)) := by
 refine ct_of Try.func54 rfl Try.ntmps54 rfl ?_
 obtain ⟨fid, fs, fc, rfl, hcf, hpf⟩ := hp
 refine S_sub [(0, vxs), (1, .func (.func fid) fs.toArray fc.toArray)] ⟨rfl, rfl, trivial⟩ ?_
 have E : Ext w w := Ext.refl w
 refine S_seq ?_
 refine S_reg [true] rfl rfl ?_
 refine J_st (R_assign rfl) rfl (J_done ?_)
 refine S_seq ?_
 refine S_seq ?_
 refine S_reg [true, true, true] rfl rfl ?_
 refine J_st (R_move rfl) rfl (J_st (R_len Try.underlying31 rfl (hxs.ext E).len) rfl (J_st (R_move rfl) rfl (J_done ?_)))
 refine S_block ?_
 refine S_loop (fun (k : Nat) => [(0, vxs), (1, .func (.func fid) fs.toArray fc.toArray), (4, .int .i64 0), (7, .int .i64 ((xs.length : Nat) : Int)), (8, .int .i64 ((k : Nat) : Int))]) (fun (k : Nat) w' => Ext w w' ∧ w.heap.size ≤ w'.heap.size ∧ k ≤ xs.length ∧ (xs.take k).any p = false) (fun (k : Nat) => xs.length - k) 0 ⟨rfl, rfl, rfl, rfl, rfl, trivial⟩ ⟨E, Nat.le_refl _, Nat.zero_le _, rfl⟩ ?_
 clear E
 rintro k w1 ⟨E, z1, hk, hI⟩
 refine S_seq ?_
 refine S_reg [true] rfl rfl ?_
 refine J_st (R_lss rfl rfl) rfl (J_done ?_)
 refine S_seq ?_
 refine S_cond rfl (fun hc1 => ?_) (fun hc1 => ?_)
 ·have hc1n : k < xs.length := by first | (have h := of_decide_eq_true hc1; omega) | (have h := hc1; simp at h; omega)
  refine S_skip ?_
  refine S_seq ?_
  refine S_block ?_
  refine S_seq ?_
  refine S_reg [true, true] rfl rfl ?_
  refine J_st (R_move rfl) rfl (J_st (R_assign rfl) rfl (J_done ?_))
  refine S_seq ?_
  refine S_reg [true, true, true, true, true, false] rfl rfl ?_
  refine J_st (R_move rfl) rfl (J_st (R_move rfl) rfl (J_st (R_move rfl) rfl ?_))
  have hi1 : k < xs.length := (by first | assumption | omega | (simp only [List.length_set]; first | assumption | omega) | (simp only [List.getElem_set_self, List.length_set]; first | assumption | omega) | (simp only [setW, setLk, List.length_set]; first | assumption | omega) | (simp; done))
  refine J_st (R_index (i := k) sl31 rfl rfl (hxs.ext E) hi1) rfl (J_st (R_loadS st68 rfl ((hxs.ext E).get hi1) rfl) rfl ?_)
  refine J_callV (fs := fs) (cs := fc) hcf rfl rfl (hpf (xs[k]'hi1) _ E) rfl (fun _ w2 e1 hv => ?_)
  subst hv
  replace E := E.trans e1
  have z2 := e1.size
  refine J_done ?_
  refine S_cond rfl (fun hc2 => ?_) (fun hc2 => ?_)
  ·refine S_seq ?_
   refine S_reg [true, true] rfl rfl ?_
   refine J_st (R_move rfl) rfl (J_st (R_assign rfl) rfl (J_done ?_))
   refine S_ret (E_inB_ret (E_lp_ret (E_inB_ret (E_done1 rfl rfl E ?_))))
   exact find_yes hI (by assumption) hc2
  ·refine S_skip ?_
   refine S_nil (E_inB ?_)
   refine S_reg [true, true] rfl rfl ?_
   refine J_st (R_add rfl rfl (add_one hc1n hxs.1)) rfl (J_st (R_move rfl) rfl (J_done ?_))
   refine S_nil (E_again (k + 1) (by omega) ⟨rfl, rfl, rfl, rfl, rfl, trivial⟩ ⟨E, (by omega), (by omega), any_step hI (by assumption) hc2⟩)
 ·have hc1n : ¬ k < xs.length := by first | (have h := of_decide_eq_false hc1; omega) | (have h := hc1; simp at h; omega)
  refine S_exit (E_lp_exit (E_inB_exit ?_))
  refine S_seq ?_
  refine S_reg [true] rfl rfl ?_
  refine J_st (R_assign rfl) rfl (J_done ?_)
  refine S_ret (E_done1 rfl rfl E ?_)
  exact find_no hI (by omega)

set_option maxRecDepth 20000 in
theorem c_ContainsFuncDone (vxs : Value) (xs : List Done) (fp : Value) (p : Done → Bool) (w : World) (hxs : RdS w vxs xs) (hp : PredF Try.prog w fp p) : Ct Try.prog 41 [vxs, fp] w (fun v _ => v = .bool (xs.any p)) := by
 refine ct_of Try.func41 rfl Try.ntmps41 rfl ?_
 obtain ⟨fid, fs, fc, rfl, hcf, hpf⟩ := hp
 refine S_sub [(0, vxs), (1, .func (.func fid) fs.toArray fc.toArray)] ⟨rfl, rfl, trivial⟩ ?_
 have E : Ext w w := Ext.refl w
 refine S_seq ?_
 refine S_reg [true] rfl rfl ?_
 refine J_st (R_assign rfl) rfl (J_done ?_)
 refine S_seq ?_
 refine S_reg [true, true, false, true, true] rfl rfl ?_
 refine J_st (R_move rfl) rfl (J_st (R_move rfl) rfl ?_)
 refine J_call Try.call54 (by rfl) (c_IndexFuncDone vxs xs (.func (.func fid) fs.toArray fc.toArray) (p) _ (hxs.ext E) ⟨fid, fs, fc, rfl, hcf, fun y w' e => hpf y w' (E.trans e)⟩) rfl (fun _ w1 e1 hv => ?_)
 subst hv
 replace E := E.trans e1
 have z1 := e1.size
 refine J_st (R_geq rfl rfl) rfl (J_st (R_assign rfl) rfl (J_done ?_))
 refine S_ret (E_done1 rfl rfl E ?_)
 exact any_find

set_option maxRecDepth 20000 in
theorem c_doneAt1 (r : Done) (be : Nat) (e : Int) (w : World) (he : At w be 0 [.int .i64 e]) : Ct Try.prog 42 [.agg (Enc.enc r).toArray, .pointer (some ⟨be, 0, none⟩)] w (fun v _ => v = .bool (r.epoch == e)) := by
 refine ct_of Try.func42 rfl Try.ntmps42 rfl ?_
 refine S_sub [(0, .agg (Enc.enc r).toArray), (1, .pointer (some ⟨be, 0, none⟩))] ⟨rfl, rfl, trivial⟩ ?_
 have E : Ext w w := Ext.refl w
 refine S_seq ?_
 refine S_reg [false, true] rfl rfl ?_
 refine J_box rfl rfl (fun b1 w1 e1 s1 h1 => ?_)
 have g_b1 : w.heap.size ≤ b1 := by have := E.size; omega
 have y_b1 := h1.lt
 replace E := E.trans e1
 have z1 := e1.size
 refine J_st (R_assign rfl) rfl (J_done ?_)
 refine S_seq ?_
 refine S_reg [true, true, true, true, true] rfl rfl ?_
 refine J_st (R_fieldAddr0 fl68_0 rfl) rfl (J_st (R_load sc3 rfl (h1.one 0 rfl)) rfl (J_st (R_load sc3 rfl ((he.ext E).one 0 rfl)) rfl (J_st (R_eql rfl rfl) rfl (J_st (R_assign rfl) rfl (J_done ?_)))))
 refine S_ret (E_done1 rfl rfl E ?_)
 rfl

set_option maxRecDepth 20000 in
theorem c_doneAt (vxs : Value) (xs : List Done) (e : Int) (w : World) (hxs : RdS w vxs xs) : Ct Try.prog 31 [vxs, .int .i64 e] w (fun v _ => v = .bool (xs.any (fun d => d.epoch == e))) := by
 refine ct_of Try.func31 rfl Try.ntmps31 rfl ?_
 refine S_sub [(0, vxs), (1, .int .i64 e)] ⟨rfl, rfl, trivial⟩ ?_
 have E : Ext w w := Ext.refl w
 refine S_seq ?_
 refine S_reg [false, true] rfl rfl ?_
 refine J_box1 rfl rfl rfl (fun b1 w1 e1 s1 h1 => ?_)
 have g_b1 : w.heap.size ≤ b1 := by have := E.size; omega
 have y_b1 := h1.lt
 replace E := E.trans e1
 have z1 := e1.size
 refine J_st (R_assign rfl) rfl (J_done ?_)
 refine S_seq ?_
 refine S_reg [true, true, false, true] rfl rfl ?_
 refine J_st (R_move rfl) rfl (J_st (R_makeFunc rfl rfl) rfl ?_)
 refine J_call Try.call41 (by rfl) (c_ContainsFuncDone vxs xs (.func (.func 42) [].toArray [.pointer (some ⟨b1, 0, none⟩)].toArray) ((fun (y : Done) => y.epoch == e)) _ (hxs.ext E) ⟨42, [], [.pointer (some ⟨b1, 0, none⟩)], rfl, Try.call42, fun y wX eX => c_doneAt1 y b1 e wX (At.ext (Blk.at h1) eX)⟩) rfl (fun _ w2 e2 hv => ?_)
 subst hv
 replace E := E.trans e2; replace h1 := h1.ext e2
 have z2 := e2.size
 refine J_st (R_assign rfl) rfl (J_done ?_)
 refine S_ret (E_done1 rfl rfl E ?_)
 rfl

set_option maxRecDepth 20000 in
theorem c_StampOk (s : Stamp) (w : World)  : Ct Try.prog 51 [.agg (Enc.enc s).toArray] w (fun v _ => v = .bool (stampOk s)) := by
 refine ct_of Try.func51 rfl Try.ntmps51 rfl ?_
 refine S_sub [(0, .agg (Enc.enc s).toArray)] ⟨rfl, trivial⟩ ?_
 have E : Ext w w := Ext.refl w
 refine S_seq ?_
 refine S_reg [false, true] rfl rfl ?_
 refine J_box rfl rfl (fun b1 w1 e1 s1 h1 => ?_)
 have g_b1 : w.heap.size ≤ b1 := by have := E.size; omega
 have y_b1 := h1.lt
 replace E := E.trans e1
 have z1 := e1.size
 refine J_st (R_assign rfl) rfl (J_done ?_)
 refine S_seq ?_
 refine S_reg [true, true, false, true, true, true, false, true, true] rfl rfl ?_
 refine J_st (R_fieldAddr0 fl41_0 rfl) rfl (J_st (R_load sc3 rfl (h1.one 0 rfl)) rfl ?_)
 refine J_call Try.call27 rfl (c_within s.epoch 0 3 _ ) rfl (fun _ w2 e2 hv => ?_)
 subst hv
 replace E := E.trans e2; replace h1 := h1.ext e2
 have z2 := e2.size
 refine J_st (R_move rfl) rfl ?_
 refine J_cut 4 [(0, .agg (Enc.enc s).toArray), (1, .pointer (some ⟨b1, 0, none⟩)), (2, .bool false), (10, .bool ((win s.epoch 0 3) && (win s.turn 0 6)))] (fun w' => Ext w w' ∧ w2.heap.size ≤ w'.heap.size ∧ Blk w' b1 (Enc.enc s)) ?_ ?_
 ·refine J_if (gd := 6) rfl rfl (fun hg1 => ?_) (fun hg1 => ?_)
  ·refine J_gd rfl rfl (R_fieldAddr0 fl41_1 rfl) rfl (J_gd rfl rfl (R_load sc3 rfl (h1.one 1 rfl)) rfl ?_)
   refine J_ung rfl rfl ?_
   refine J_call Try.call27 rfl (c_within s.turn 0 6 _ ) rfl (fun _ w4 e3 hv => ?_)
   subst hv
   replace E := E.trans e3; replace h1 := h1.ext e3
   have z3 := e3.size
   refine J_st (R_pickT rfl rfl) rfl (J_cutEnd ⟨rfl, rfl, rfl, congrArg (fun b => some (Value.bool b)) (show (win s.turn 0 6) = ((win s.epoch 0 3) && (win s.turn 0 6)) by first | (rw [hg1] <;> rfl) | (simp [hg1]; done) | (simp only [nat_nlt] <;> simp)), trivial⟩ ⟨E, (by omega), h1⟩)
  ·refine J_gdno rfl rfl rfl rfl (J_gdno rfl rfl rfl rfl ?_)
   refine J_ungno rfl rfl rfl rfl ?_
   refine J_st (R_pickF rfl rfl) rfl (J_cutEnd ⟨rfl, rfl, rfl, congrArg (fun b => some (Value.bool b)) (show false = ((win s.epoch 0 3) && (win s.turn 0 6)) by first | (rw [hg1] <;> rfl) | (simp [hg1]; done) | (simp only [nat_nlt] <;> simp)), trivial⟩ ⟨E, (by omega), h1⟩)
 clear E h1
 rintro w3 ⟨E, z4, h1⟩
 refine J_st (R_assign rfl) rfl (J_done ?_)
 refine S_ret (E_done1 rfl rfl E ?_)
 rfl

set_option maxRecDepth 20000 in
theorem s_StampOk (s : Stamp) (w : World)  : Ct Try.prog 73 [.agg (Enc.enc s).toArray] w (fun v _ => v = .bool (stampOk s)) := by
 refine ct_of Try.func73 rfl Try.ntmps73 rfl ?_
 refine S_sub [(0, .agg (Enc.enc s).toArray)] ⟨rfl, trivial⟩ ?_
 have E : Ext w w := Ext.refl w
 refine S_seq ?_
 refine S_reg [false, true] rfl rfl ?_
 refine J_box rfl rfl (fun b1 w1 e1 s1 h1 => ?_)
 have g_b1 : w.heap.size ≤ b1 := by have := E.size; omega
 have y_b1 := h1.lt
 replace E := E.trans e1
 have z1 := e1.size
 refine J_st (R_assign rfl) rfl (J_done ?_)
 refine S_seq ?_
 refine S_reg [true, true, false, true, true, true, false, true, true] rfl rfl ?_
 refine J_st (R_fieldAddr0 fl41_0 rfl) rfl (J_st (R_load sc3 rfl (h1.one 0 rfl)) rfl ?_)
 refine J_call Try.call58 rfl (s_l01In s.epoch 0 3 _ ) rfl (fun _ w2 e2 hv => ?_)
 subst hv
 replace E := E.trans e2; replace h1 := h1.ext e2
 have z2 := e2.size
 refine J_st (R_move rfl) rfl ?_
 refine J_cut 4 [(0, .agg (Enc.enc s).toArray), (1, .pointer (some ⟨b1, 0, none⟩)), (2, .bool false), (10, .bool ((win s.epoch 0 3) && (win s.turn 0 6)))] (fun w' => Ext w w' ∧ w2.heap.size ≤ w'.heap.size ∧ Blk w' b1 (Enc.enc s)) ?_ ?_
 ·refine J_if (gd := 6) rfl rfl (fun hg1 => ?_) (fun hg1 => ?_)
  ·refine J_gd rfl rfl (R_fieldAddr0 fl41_1 rfl) rfl (J_gd rfl rfl (R_load sc3 rfl (h1.one 1 rfl)) rfl ?_)
   refine J_ung rfl rfl ?_
   refine J_call Try.call58 rfl (s_l01In s.turn 0 6 _ ) rfl (fun _ w4 e3 hv => ?_)
   subst hv
   replace E := E.trans e3; replace h1 := h1.ext e3
   have z3 := e3.size
   refine J_st (R_pickT rfl rfl) rfl (J_cutEnd ⟨rfl, rfl, rfl, congrArg (fun b => some (Value.bool b)) (show (win s.turn 0 6) = ((win s.epoch 0 3) && (win s.turn 0 6)) by first | (rw [hg1] <;> rfl) | (simp [hg1]; done) | (simp only [nat_nlt] <;> simp)), trivial⟩ ⟨E, (by omega), h1⟩)
  ·refine J_gdno rfl rfl rfl rfl (J_gdno rfl rfl rfl rfl ?_)
   refine J_ungno rfl rfl rfl rfl ?_
   refine J_st (R_pickF rfl rfl) rfl (J_cutEnd ⟨rfl, rfl, rfl, congrArg (fun b => some (Value.bool b)) (show false = ((win s.epoch 0 3) && (win s.turn 0 6)) by first | (rw [hg1] <;> rfl) | (simp [hg1]; done) | (simp only [nat_nlt] <;> simp)), trivial⟩ ⟨E, (by omega), h1⟩)
 clear E h1
 rintro w3 ⟨E, z4, h1⟩
 refine J_st (R_assign rfl) rfl (J_done ?_)
 refine S_ret (E_done1 rfl rfl E ?_)
 rfl

set_option maxRecDepth 20000 in
theorem c_itemOk (a : Int) (b : Int) (w : World)  : Ct Try.prog 52 [.int .i64 a, .int .i64 b] w (fun v _ => v = .bool (win a 0 99 && win b 0 999)) := by
 refine ct_of Try.func52 rfl Try.ntmps52 rfl ?_
 refine S_sub [(0, .int .i64 a), (1, .int .i64 b)] ⟨rfl, rfl, trivial⟩ ?_
 have E : Ext w w := Ext.refl w
 refine S_seq ?_
 refine S_reg [true] rfl rfl ?_
 refine J_st (R_assign rfl) rfl (J_done ?_)
 refine S_seq ?_
 refine S_reg [true, false, true, true, false, true, true] rfl rfl ?_
 refine J_st (R_move rfl) rfl ?_
 refine J_call Try.call27 rfl (c_within a 0 99 _ ) rfl (fun _ w1 e1 hv => ?_)
 subst hv
 replace E := E.trans e1
 have z1 := e1.size
 refine J_st (R_move rfl) rfl ?_
 refine J_cut 3 [(0, .int .i64 a), (1, .int .i64 b), (4, .bool false), (10, .bool ((win a 0 99) && (win b 0 999)))] (fun w' => Ext w w' ∧ w1.heap.size ≤ w'.heap.size) ?_ ?_
 ·refine J_if (gd := 7) rfl rfl (fun hg1 => ?_) (fun hg1 => ?_)
  ·refine J_gd rfl rfl (R_move rfl) rfl ?_
   refine J_ung rfl rfl ?_
   refine J_call Try.call27 rfl (c_within b 0 999 _ ) rfl (fun _ w3 e2 hv => ?_)
   subst hv
   replace E := E.trans e2
   have z2 := e2.size
   refine J_st (R_pickT rfl rfl) rfl (J_cutEnd ⟨rfl, rfl, rfl, congrArg (fun b => some (Value.bool b)) (show (win b 0 999) = ((win a 0 99) && (win b 0 999)) by first | (rw [hg1] <;> rfl) | (simp [hg1]; done) | (simp only [nat_nlt] <;> simp)), trivial⟩ ⟨E, (by omega)⟩)
  ·refine J_gdno rfl rfl rfl rfl ?_
   refine J_ungno rfl rfl rfl rfl ?_
   refine J_st (R_pickF rfl rfl) rfl (J_cutEnd ⟨rfl, rfl, rfl, congrArg (fun b => some (Value.bool b)) (show false = ((win a 0 99) && (win b 0 999)) by first | (rw [hg1] <;> rfl) | (simp [hg1]; done) | (simp only [nat_nlt] <;> simp)), trivial⟩ ⟨E, (by omega)⟩)
 clear E
 rintro w2 ⟨E, z3⟩
 refine J_st (R_assign rfl) rfl (J_done ?_)
 refine S_ret (E_done1 rfl rfl E ?_)
 rfl

set_option maxRecDepth 20000 in
theorem c_RecordOk (r : Record) (w : World)  : Ct Try.prog 38 [.agg (Enc.enc r).toArray] w (fun v _ => v = .bool (recordOk r)) := by
 refine ct_of Try.func38 rfl Try.ntmps38 rfl ?_
 refine S_sub [(0, .agg (Enc.enc r).toArray)] ⟨rfl, trivial⟩ ?_
 have E : Ext w w := Ext.refl w
 refine S_seq ?_
 refine S_reg [false, true] rfl rfl ?_
 refine J_box rfl rfl (fun b1 w1 e1 s1 h1 => ?_)
 have g_b1 : w.heap.size ≤ b1 := by have := E.size; omega
 have y_b1 := h1.lt
 replace E := E.trans e1
 have z1 := e1.size
 refine J_st (R_assign rfl) rfl (J_done ?_)
 refine S_seq ?_
 refine S_reg [true, true, false, true, true, true, false, true, true, true, true, true, true, false, true, true] rfl rfl ?_
 refine J_st (R_fieldAddr0 fl43_0 rfl) rfl (J_st (R_load sc3 rfl (h1.one 0 rfl)) rfl ?_)
 refine J_call Try.call27 rfl (c_within r.op 0 7 _ ) rfl (fun _ w2 e2 hv => ?_)
 subst hv
 replace E := E.trans e2; replace h1 := h1.ext e2
 have z2 := e2.size
 refine J_st (R_move rfl) rfl ?_
 refine J_cut 11 [(0, .agg (Enc.enc r).toArray), (1, .pointer (some ⟨b1, 0, none⟩)), (2, .bool false), (17, .bool (((win r.op 0 7) && (stampOk r.stamp)) && (win r.key 0 99 && win r.val 0 999)))] (fun w' => Ext w w' ∧ w2.heap.size ≤ w'.heap.size ∧ Blk w' b1 (Enc.enc r)) ?_ ?_
 ·refine J_if (gd := 6) rfl rfl (fun hg1 => ?_) (fun hg1 => ?_)
  ·refine J_gd rfl rfl (R_fieldAddr0 fl43_1 rfl) rfl (J_gd rfl rfl (R_loadS st41 rfl (h1.part 1 [.int .i64 r.stamp.epoch, .int .i64 r.stamp.turn] rfl) rfl) rfl ?_)
   refine J_ung rfl rfl ?_
   refine J_call Try.call51 rfl (c_StampOk r.stamp _ ) rfl (fun _ w4 e3 hv => ?_)
   subst hv
   replace E := E.trans e3; replace h1 := h1.ext e3
   have z3 := e3.size
   refine J_st (R_pickT rfl rfl) rfl (J_st (R_move rfl) rfl ?_)
   refine J_if (gd := 11) rfl rfl (fun hg2 => ?_) (fun hg2 => ?_)
   ·refine J_gd rfl rfl (R_fieldAddr0 fl43_2 rfl) rfl (J_gd rfl rfl (R_load sc3 rfl (h1.one 3 rfl)) rfl (J_gd rfl rfl (R_fieldAddr0 fl43_3 rfl) rfl (J_gd rfl rfl (R_load sc3 rfl (h1.one 4 rfl)) rfl ?_)))
    refine J_ung rfl rfl ?_
    refine J_call Try.call52 rfl (c_itemOk r.key r.val _ ) rfl (fun _ w5 e4 hv => ?_)
    subst hv
    replace E := E.trans e4; replace h1 := h1.ext e4
    have z4 := e4.size
    refine J_st (R_pickT rfl rfl) rfl (J_cutEnd ⟨rfl, rfl, rfl, congrArg (fun b => some (Value.bool b)) (show (win r.key 0 99 && win r.val 0 999) = (((win r.op 0 7) && (stampOk r.stamp)) && (win r.key 0 99 && win r.val 0 999)) by first | (rw [hg1, hg2] <;> rfl) | (simp [hg1, hg2]; done) | (simp only [nat_nlt] <;> simp)), trivial⟩ ⟨E, (by omega), h1⟩)
   ·refine J_gdno rfl rfl rfl rfl (J_gdno rfl rfl rfl rfl (J_gdno rfl rfl rfl rfl (J_gdno rfl rfl rfl rfl ?_)))
    refine J_ungno rfl rfl rfl rfl ?_
    refine J_st (R_pickF rfl rfl) rfl (J_cutEnd ⟨rfl, rfl, rfl, congrArg (fun b => some (Value.bool b)) (show false = (((win r.op 0 7) && (stampOk r.stamp)) && (win r.key 0 99 && win r.val 0 999)) by first | (rw [hg1, hg2] <;> rfl) | (simp [hg1, hg2]; done) | (simp only [nat_nlt] <;> simp)), trivial⟩ ⟨E, (by omega), h1⟩)
  ·refine J_gdno rfl rfl rfl rfl (J_gdno rfl rfl rfl rfl ?_)
   refine J_ungno rfl rfl rfl rfl ?_
   refine J_st (R_pickF rfl rfl) rfl (J_st (R_move rfl) rfl (J_gdno rfl rfl rfl rfl (J_gdno rfl rfl rfl rfl (J_gdno rfl rfl rfl rfl (J_gdno rfl rfl rfl rfl ?_)))))
   refine J_ungno rfl rfl rfl rfl ?_
   refine J_st (R_pickF rfl rfl) rfl (J_cutEnd ⟨rfl, rfl, rfl, congrArg (fun b => some (Value.bool b)) (show false = (((win r.op 0 7) && (stampOk r.stamp)) && (win r.key 0 99 && win r.val 0 999)) by first | (rw [hg1] <;> rfl) | (simp [hg1]; done) | (simp only [nat_nlt] <;> simp)), trivial⟩ ⟨E, (by omega), h1⟩)
 clear E h1
 rintro w3 ⟨E, z5, h1⟩
 refine J_st (R_assign rfl) rfl (J_done ?_)
 refine S_ret (E_done1 rfl rfl E ?_)
 rfl

set_option maxRecDepth 20000 in
theorem s_RecordOk (r : Record) (w : World)  : Ct Try.prog 66 [.agg (Enc.enc r).toArray] w (fun v _ => v = .bool (recordOk r)) := by
 refine ct_of Try.func66 rfl Try.ntmps66 rfl ?_
 refine S_sub [(0, .agg (Enc.enc r).toArray)] ⟨rfl, trivial⟩ ?_
 have E : Ext w w := Ext.refl w
 refine S_seq ?_
 refine S_reg [false, true] rfl rfl ?_
 refine J_box rfl rfl (fun b1 w1 e1 s1 h1 => ?_)
 have g_b1 : w.heap.size ≤ b1 := by have := E.size; omega
 have y_b1 := h1.lt
 replace E := E.trans e1
 have z1 := e1.size
 refine J_st (R_assign rfl) rfl (J_done ?_)
 refine S_seq ?_
 refine S_reg [true, true, false, true, true, true, false, true, true, true, true, false, true, true, true, true, false, true, true] rfl rfl ?_
 refine J_st (R_fieldAddr0 fl43_0 rfl) rfl (J_st (R_load sc3 rfl (h1.one 0 rfl)) rfl ?_)
 refine J_call Try.call58 rfl (s_l01In r.op 0 7 _ ) rfl (fun _ w2 e2 hv => ?_)
 subst hv
 replace E := E.trans e2; replace h1 := h1.ext e2
 have z2 := e2.size
 refine J_st (R_move rfl) rfl ?_
 refine J_cut 14 [(0, .agg (Enc.enc r).toArray), (1, .pointer (some ⟨b1, 0, none⟩)), (2, .bool false), (20, .bool ((((win r.op 0 7) && (stampOk r.stamp)) && (win r.key 0 99)) && (win r.val 0 999)))] (fun w' => Ext w w' ∧ w2.heap.size ≤ w'.heap.size ∧ Blk w' b1 (Enc.enc r)) ?_ ?_
 ·refine J_if (gd := 6) rfl rfl (fun hg1 => ?_) (fun hg1 => ?_)
  ·refine J_gd rfl rfl (R_fieldAddr0 fl43_1 rfl) rfl (J_gd rfl rfl (R_loadS st41 rfl (h1.part 1 [.int .i64 r.stamp.epoch, .int .i64 r.stamp.turn] rfl) rfl) rfl ?_)
   refine J_ung rfl rfl ?_
   refine J_call Try.call73 rfl (s_StampOk r.stamp _ ) rfl (fun _ w4 e3 hv => ?_)
   subst hv
   replace E := E.trans e3; replace h1 := h1.ext e3
   have z3 := e3.size
   refine J_st (R_pickT rfl rfl) rfl (J_st (R_move rfl) rfl ?_)
   refine J_if (gd := 11) rfl rfl (fun hg2 => ?_) (fun hg2 => ?_)
   ·refine J_gd rfl rfl (R_fieldAddr0 fl43_2 rfl) rfl (J_gd rfl rfl (R_load sc3 rfl (h1.one 3 rfl)) rfl ?_)
    refine J_ung rfl rfl ?_
    refine J_call Try.call58 rfl (s_l01In r.key 0 99 _ ) rfl (fun _ w5 e4 hv => ?_)
    subst hv
    replace E := E.trans e4; replace h1 := h1.ext e4
    have z4 := e4.size
    refine J_st (R_pickT rfl rfl) rfl (J_st (R_move rfl) rfl ?_)
    refine J_if (gd := 16) rfl rfl (fun hg3 => ?_) (fun hg3 => ?_)
    ·refine J_gd rfl rfl (R_fieldAddr0 fl43_3 rfl) rfl (J_gd rfl rfl (R_load sc3 rfl (h1.one 4 rfl)) rfl ?_)
     refine J_ung rfl rfl ?_
     refine J_call Try.call58 rfl (s_l01In r.val 0 999 _ ) rfl (fun _ w6 e5 hv => ?_)
     subst hv
     replace E := E.trans e5; replace h1 := h1.ext e5
     have z5 := e5.size
     refine J_st (R_pickT rfl rfl) rfl (J_cutEnd ⟨rfl, rfl, rfl, congrArg (fun b => some (Value.bool b)) (show (win r.val 0 999) = ((((win r.op 0 7) && (stampOk r.stamp)) && (win r.key 0 99)) && (win r.val 0 999)) by first | (rw [hg1, hg2, hg3] <;> rfl) | (simp [hg1, hg2, hg3]; done) | (simp only [nat_nlt] <;> simp)), trivial⟩ ⟨E, (by omega), h1⟩)
    ·refine J_gdno rfl rfl rfl rfl (J_gdno rfl rfl rfl rfl ?_)
     refine J_ungno rfl rfl rfl rfl ?_
     refine J_st (R_pickF rfl rfl) rfl (J_cutEnd ⟨rfl, rfl, rfl, congrArg (fun b => some (Value.bool b)) (show false = ((((win r.op 0 7) && (stampOk r.stamp)) && (win r.key 0 99)) && (win r.val 0 999)) by first | (rw [hg1, hg2, hg3] <;> rfl) | (simp [hg1, hg2, hg3]; done) | (simp only [nat_nlt] <;> simp)), trivial⟩ ⟨E, (by omega), h1⟩)
   ·refine J_gdno rfl rfl rfl rfl (J_gdno rfl rfl rfl rfl ?_)
    refine J_ungno rfl rfl rfl rfl ?_
    refine J_st (R_pickF rfl rfl) rfl (J_st (R_move rfl) rfl (J_gdno rfl rfl rfl rfl (J_gdno rfl rfl rfl rfl ?_)))
    refine J_ungno rfl rfl rfl rfl ?_
    refine J_st (R_pickF rfl rfl) rfl (J_cutEnd ⟨rfl, rfl, rfl, congrArg (fun b => some (Value.bool b)) (show false = ((((win r.op 0 7) && (stampOk r.stamp)) && (win r.key 0 99)) && (win r.val 0 999)) by first | (rw [hg1, hg2] <;> rfl) | (simp [hg1, hg2]; done) | (simp only [nat_nlt] <;> simp)), trivial⟩ ⟨E, (by omega), h1⟩)
  ·refine J_gdno rfl rfl rfl rfl (J_gdno rfl rfl rfl rfl ?_)
   refine J_ungno rfl rfl rfl rfl ?_
   refine J_st (R_pickF rfl rfl) rfl (J_st (R_move rfl) rfl (J_gdno rfl rfl rfl rfl (J_gdno rfl rfl rfl rfl ?_)))
   refine J_ungno rfl rfl rfl rfl ?_
   refine J_st (R_pickF rfl rfl) rfl (J_st (R_move rfl) rfl (J_gdno rfl rfl rfl rfl (J_gdno rfl rfl rfl rfl ?_)))
   refine J_ungno rfl rfl rfl rfl ?_
   refine J_st (R_pickF rfl rfl) rfl (J_cutEnd ⟨rfl, rfl, rfl, congrArg (fun b => some (Value.bool b)) (show false = ((((win r.op 0 7) && (stampOk r.stamp)) && (win r.key 0 99)) && (win r.val 0 999)) by first | (rw [hg1] <;> rfl) | (simp [hg1]; done) | (simp only [nat_nlt] <;> simp)), trivial⟩ ⟨E, (by omega), h1⟩)
 clear E h1
 rintro w3 ⟨E, z6, h1⟩
 refine J_st (R_assign rfl) rfl (J_done ?_)
 refine S_ret (E_done1 rfl rfl E ?_)
 simp [recordOk, Bool.and_assoc]

set_option maxRecDepth 20000 in
theorem c_isNode (cg : List Value) (g : Graph) (op : Int) (w : World) (hg : Dat.R w 0 w.heap.size cg g) : Ct Try.prog 39 [.agg cg.toArray, .int .i64 op] w (fun v _ => v = .bool (isNodeM g op)) := by
 refine ct_of Try.func39 rfl Try.ntmps39 rfl ?_
 obtain ⟨o1, rfl, hd1⟩ := Graph.op hg
 refine S_sub [(0, .agg [o1, .int .i64 g.workers, .int .i64 g.cap].toArray), (1, .int .i64 op)] ⟨rfl, rfl, trivial⟩ ?_
 have E : Ext w w := Ext.refl w
 refine S_seq ?_
 refine S_reg [false, true] rfl rfl ?_
 refine J_box rfl rfl (fun b1 w1 e1 s1 h1 => ?_)
 have g_b1 : w.heap.size ≤ b1 := by have := E.size; omega
 have y_b1 := h1.lt
 replace E := E.trans e1
 have z1 := e1.size
 refine J_st (R_assign rfl) rfl (J_done ?_)
 refine S_seq ?_
 refine S_reg [true, true, true, true, true, false, true] rfl rfl ?_
 refine J_st (R_move rfl) rfl (J_st (R_fieldAddr0 fl26_0 rfl) rfl (J_st (R_load sc24 rfl (h1.one 0 rfl)) rfl (J_st (R_len Try.underlying24 rfl (hd1.ext E).len) rfl (J_st (R_sub rfl rfl rfl) rfl ?_))))
 refine J_call Try.call27 rfl (c_within op 0 (IntKind.i64.wrap (((g.nodes.length : Nat) : Int) - 1)) _ ) rfl (fun _ w2 e2 hv => ?_)
 subst hv
 replace E := E.trans e2; replace h1 := h1.ext e2
 have z2 := e2.size
 refine J_st (R_assign rfl) rfl (J_done ?_)
 refine S_ret (E_done1 rfl rfl E ?_)
 have a1 := hd1.1.1
 unfold maxLen at a1
 rw [wrap_in (by omega) (by omega)]; rfl

set_option maxRecDepth 20000 in
theorem s_NextTurn (s : Stamp) (w : World)  : Ct Try.prog 70 [.agg (Enc.enc s).toArray] w (fun v _ => v = .tuple [.agg (Enc.enc ((nextT s).1)).toArray, .bool ((nextT s).2)].toArray) := by
 refine ct_of Try.func70 rfl Try.ntmps70 rfl ?_
 refine S_sub [(0, .agg (Enc.enc s).toArray)] ⟨rfl, trivial⟩ ?_
 have E : Ext w w := Ext.refl w
 refine S_seq ?_
 refine S_reg [false, false, true] rfl rfl ?_
 refine J_box rfl rfl (fun b1 w1 e1 s1 h1 => ?_)
 have g_b1 : w.heap.size ≤ b1 := by have := E.size; omega
 have y_b1 := h1.lt
 replace E := E.trans e1
 have z1 := e1.size
 refine J_alloc st41 rfl (fun b2 w2 e2 s2 h2 => ?_)
 have g_b2 : w.heap.size ≤ b2 := by have := E.size; omega
 have y_b2 := h2.lt
 replace E := E.trans e2; replace h1 := h1.ext e2
 have z2 := e2.size
 refine J_st (R_assign rfl) rfl (J_done ?_)
 refine S_seq ?_
 refine S_seq ?_
 refine S_reg [true, false, true, true, true, true, true, true] rfl rfl ?_
 refine J_st (R_loadS st41 rfl h1.at rfl) rfl ?_
 refine J_call Try.call73 rfl (s_StampOk s _ ) rfl (fun _ w3 e3 hv => ?_)
 subst hv
 replace E := E.trans e3; replace h1 := h1.ext e3; replace h2 := h2.ext e3
 have z3 := e3.size
 refine J_st (R_not rfl) rfl (J_st (R_move rfl) rfl ?_)
 refine J_cut 4 [(0, .agg (Enc.enc s).toArray), (1, .pointer (some ⟨b1, 0, none⟩)), (2, .pointer (some ⟨b2, 0, none⟩)), (3, .bool false), (11, .bool ((!(stampOk s)) || (decide (6 ≤ s.turn))))] (fun w' => w3 = w') ?_ ?_
 ·refine J_if (gd := 7) rfl rfl (fun hg1 => ?_) (fun hg1 => ?_)
  ·refine J_gdno rfl rfl rfl rfl (J_gdno rfl rfl rfl rfl (J_gdno rfl rfl rfl rfl (J_st (R_pickT rfl rfl) rfl (J_cutEnd ⟨rfl, rfl, rfl, rfl, congrArg (fun b => some (Value.bool b)) (show true = ((!(stampOk s)) || (decide (6 ≤ s.turn))) by first | (rw [hg1] <;> rfl) | (simp [hg1]; done) | (simp only [nat_nlt] <;> simp)), trivial⟩ rfl))))
  ·refine J_gd rfl rfl (R_fieldAddr0 fl41_1 rfl) rfl (J_gd rfl rfl (R_load sc3 rfl (h1.one 1 rfl)) rfl (J_gd rfl rfl (R_geq rfl rfl) rfl (J_st (R_pickF rfl rfl) rfl (J_cutEnd ⟨rfl, rfl, rfl, rfl, congrArg (fun b => some (Value.bool b)) (show (decide (6 ≤ s.turn)) = ((!(stampOk s)) || (decide (6 ≤ s.turn))) by first | (rw [hg1] <;> rfl) | (simp [hg1]; done) | (simp only [nat_nlt] <;> simp)), trivial⟩ rfl))))
 rintro _ rfl
 refine J_done ?_
 refine S_cond rfl (fun hc1 => ?_) (fun hc1 => ?_)
 ·refine S_seq ?_
  refine S_reg [true, false, true] rfl rfl ?_
  refine J_st (R_loadS st41 rfl h1.at rfl) rfl ?_
  refine J_storeS' (cs' := [.int .i64 s.epoch, .int .i64 s.turn]) st41 rfl rfl rfl rfl h2 (Nat.le_of_ble_eq_true rfl) rfl (fun w5 m1 h2' => ?_)
  replace h2 := h2'
  replace E := E.step m1 (fun g hg => by cases hg; omega); replace h1 := h1.mod m1 (fun g hg => by cases hg; omega)
  have z4 := m1.size
  refine J_st (R_assign rfl) rfl (J_done ?_)
  refine S_ret (E_doneN (l := [.cell 2 41, .tmp 3]) (vs := [.agg (Enc.enc s).toArray, .bool false]) rfl ⟨.cell rfl (run_loadVar_st st41 h2.at rfl), .tmp rfl, trivial⟩ rfl E ?_)
  simp only [nextT, if_pos (nt_ge hc1)]
 ·refine S_skip ?_
  refine S_seq ?_
  refine S_reg [true, true, true, true, false] rfl rfl ?_
  refine J_st (R_fieldAddr0 fl41_1 rfl) rfl (J_st (R_load sc3 rfl (h1.one 1 rfl)) rfl (J_st (R_add rfl rfl rfl) rfl (J_st (R_fieldAddr0 fl41_1 rfl) rfl ?_)))
  refine J_store' (cs' := [.int .i64 s.epoch, .int .i64 (IntKind.i64.wrap (s.turn + 1))]) sc3 rfl rfl rfl h1 (Nat.le_of_ble_eq_true rfl) rfl (fun w6 m2 h1' => ?_)
  replace h1 := h1'
  replace E := E.step m2 (fun g hg => by cases hg; omega); replace h2 := h2.mod m2 (fun g hg => by cases hg; omega)
  have z5 := m2.size
  refine J_done ?_
  refine S_seq ?_
  refine S_reg [true, false, true] rfl rfl ?_
  refine J_st (R_loadS st41 rfl h1.at rfl) rfl ?_
  refine J_storeS' (cs' := [.int .i64 ((⟨s.epoch, IntKind.i64.wrap (s.turn + 1)⟩ : Stamp).epoch), .int .i64 ((⟨s.epoch, IntKind.i64.wrap (s.turn + 1)⟩ : Stamp).turn)]) st41 rfl rfl rfl rfl h2 (Nat.le_of_ble_eq_true rfl) rfl (fun w7 m3 h2' => ?_)
  replace h2 := h2'
  replace E := E.step m3 (fun g hg => by cases hg; omega); replace h1 := h1.mod m3 (fun g hg => by cases hg; omega)
  have z6 := m3.size
  refine J_st (R_assign rfl) rfl (J_done ?_)
  refine S_ret (E_doneN (l := [.cell 2 41, .tmp 3]) (vs := [.agg (Enc.enc (⟨s.epoch, IntKind.i64.wrap (s.turn + 1)⟩ : Stamp)).toArray, .bool true]) rfl ⟨.cell rfl (run_loadVar_st st41 h2.at rfl), .tmp rfl, trivial⟩ rfl E ?_)
  replace hc1 := nt_lt hc1
  simp only [nextT, if_neg (Bool.eq_false_iff.1 hc1)]
  simp only [Bool.or_eq_false_iff, Bool.not_eq_false'] at hc1
  have ht := win_hi hc1.1
  rw [wrap_in (by omega) (by omega)]

set_option maxRecDepth 20000 in
theorem c_opsOk (cg : List Value) (g : Graph) (vxs : Value) (xs : List Record) (w : World) (hg : Dat.R w 0 w.heap.size cg g) (hxs : RdS w vxs xs) : Ct Try.prog 29 [.agg cg.toArray, vxs] w (fun v _ => v = .bool (xs.all (opOk g))) := by
 refine ct_of Try.func29 rfl Try.ntmps29 rfl ?_
 obtain ⟨o1, rfl, hd1⟩ := Graph.op hg
 refine S_sub [(0, .agg [o1, .int .i64 g.workers, .int .i64 g.cap].toArray), (1, vxs)] ⟨rfl, rfl, trivial⟩ ?_
 have E : Ext w w := Ext.refl w
 refine S_seq ?_
 refine S_reg [false, true] rfl rfl ?_
 refine J_box rfl rfl (fun b1 w1 e1 s1 h1 => ?_)
 have g_b1 : w.heap.size ≤ b1 := by have := E.size; omega
 have y_b1 := h1.lt
 replace E := E.trans e1
 have z1 := e1.size
 refine J_st (R_assign rfl) rfl (J_done ?_)
 refine S_seq ?_
 refine S_seq ?_
 refine S_reg [true, true, true] rfl rfl ?_
 refine J_st (R_move rfl) rfl (J_st (R_len Try.underlying27 rfl (hxs.ext E).len) rfl (J_st (R_move rfl) rfl (J_done ?_)))
 refine S_block ?_
 refine S_loop (fun (k : Nat) => [(2, .pointer (some ⟨b1, 0, none⟩)), (4, .bool false), (7, vxs), (8, .int .i64 ((xs.length : Nat) : Int)), (9, .int .i64 ((k : Nat) : Int))]) (fun (k : Nat) w' => Ext w w' ∧ w1.heap.size ≤ w'.heap.size ∧ Blk w' b1 ([o1, .int .i64 g.workers, .int .i64 g.cap]) ∧ k ≤ xs.length ∧ (xs.take k).all (opOk g) = true) (fun (k : Nat) => xs.length - k) 0 ⟨rfl, rfl, rfl, rfl, rfl, trivial⟩ ⟨E, Nat.le_refl _, h1, Nat.zero_le _, rfl⟩ ?_
 clear E h1
 rintro k w2 ⟨E, z2, h1, hk, hI⟩
 refine S_seq ?_
 refine S_reg [true] rfl rfl ?_
 refine J_st (R_lss rfl rfl) rfl (J_done ?_)
 refine S_seq ?_
 refine S_cond rfl (fun hc1 => ?_) (fun hc1 => ?_)
 ·have hc1n : k < xs.length := by first | (have h := of_decide_eq_true hc1; omega) | (have h := hc1; simp at h; omega)
  refine S_skip ?_
  refine S_seq ?_
  refine S_block ?_
  refine S_seq ?_
  refine S_reg [true, true, false, false] rfl rfl ?_
  have hi1 : k < xs.length := (by first | assumption | omega | (simp only [List.length_set]; first | assumption | omega) | (simp only [List.getElem_set_self, List.length_set]; first | assumption | omega) | (simp only [setW, setLk, List.length_set]; first | assumption | omega) | (simp; done))
  refine J_st (R_index (i := k) sl27 rfl rfl (hxs.ext E) hi1) rfl (J_st (R_loadS st43 rfl ((hxs.ext E).get hi1) rfl) rfl ?_)
  refine J_alloc st43 rfl (fun b2 w3 e2 s2 h2 => ?_)
  have g_b2 : w.heap.size ≤ b2 := by have := E.size; omega
  have y_b2 := h2.lt
  replace E := E.trans e2; replace h1 := h1.ext e2
  have z3 := e2.size
  refine J_storeS' (cs' := [.int .i64 ((xs[k]'hi1).op), .int .i64 (((xs[k]'hi1).stamp).epoch), .int .i64 (((xs[k]'hi1).stamp).turn), .int .i64 ((xs[k]'hi1).key), .int .i64 ((xs[k]'hi1).val)]) st43 rfl rfl rfl rfl h2 (Nat.le_of_ble_eq_true rfl) rfl (fun w4 m1 h2' => ?_)
  replace h2 := h2'
  replace E := E.step m1 (fun g hg => by cases hg; omega); replace h1 := h1.mod m1 (fun g hg => by cases hg; omega)
  have z4 := m1.size
  refine J_done ?_
  refine S_seq ?_
  refine S_reg [true, false, true, true, true, true, true, false, true, true] rfl rfl ?_
  refine J_st (R_loadS st43 rfl h2.at rfl) rfl ?_
  refine J_call Try.call38 rfl (c_RecordOk (xs[k]'hi1) _ ) rfl (fun _ w5 e3 hv => ?_)
  subst hv
  replace E := E.trans e3; replace h1 := h1.ext e3; replace h2 := h2.ext e3
  have z5 := e3.size
  refine J_st (R_not rfl) rfl (J_st (R_move rfl) rfl ?_)
  refine J_cut 6 [(2, .pointer (some ⟨b1, 0, none⟩)), (4, .bool false), (6, .pointer (some ⟨b2, 0, none⟩)), (7, vxs), (8, .int .i64 ((xs.length : Nat) : Int)), (9, .int .i64 ((k : Nat) : Int)), (10, .bool (decide (((k : Nat) : Int) < ((xs.length : Nat) : Int)))), (11, .pointer (some ⟨sblk vxs, soff vxs + k * 5, none⟩)), (12, .agg (Enc.enc (xs[k]'hi1)).toArray), (22, .bool ((!(recordOk (xs[k]'hi1))) || (!(isNodeM g ((xs[k]'hi1).op)))))] (fun w' => Ext w w' ∧ w5.heap.size ≤ w'.heap.size ∧ Blk w' b1 ([o1, .int .i64 g.workers, .int .i64 g.cap]) ∧ Blk w' b2 [.int .i64 ((xs[k]'hi1).op), .int .i64 (((xs[k]'hi1).stamp).epoch), .int .i64 (((xs[k]'hi1).stamp).turn), .int .i64 ((xs[k]'hi1).key), .int .i64 ((xs[k]'hi1).val)]) ?_ ?_
  ·refine J_if (gd := 16) rfl rfl (fun hg1 => ?_) (fun hg1 => ?_)
   ·refine J_gdno rfl rfl rfl rfl (J_gdno rfl rfl rfl rfl (J_gdno rfl rfl rfl rfl ?_))
    refine J_ungno rfl rfl rfl rfl ?_
    refine J_gdno rfl rfl rfl rfl (J_st (R_pickT rfl rfl) rfl (J_cutEnd ⟨rfl, rfl, rfl, rfl, rfl, rfl, rfl, rfl, rfl, congrArg (fun b => some (Value.bool b)) (show true = ((!(recordOk (xs[k]'hi1))) || (!(isNodeM g ((xs[k]'hi1).op)))) by first | (rw [hg1] <;> rfl) | (simp [hg1]; done) | (simp only [nat_nlt] <;> simp)), trivial⟩ ⟨E, (by omega), h1, h2⟩))
   ·refine J_gd rfl rfl (R_loadS st26 rfl h1.at rfl) rfl (J_gd rfl rfl (R_fieldAddr0 fl43_0 rfl) rfl (J_gd rfl rfl (R_load sc3 rfl (h2.one 0 rfl)) rfl ?_))
    refine J_ung rfl rfl ?_
    refine J_call Try.call39 rfl (c_isNode [o1, .int .i64 g.workers, .int .i64 g.cap] g ((xs[k]'hi1).op) _ (Graph.mkR g (RdD.any (hd1.ext E)))) rfl (fun _ w7 e4 hv => ?_)
    subst hv
    replace E := E.trans e4; replace h1 := h1.ext e4; replace h2 := h2.ext e4
    have z6 := e4.size
    refine J_gd rfl rfl (R_not rfl) rfl (J_st (R_pickF rfl rfl) rfl (J_cutEnd ⟨rfl, rfl, rfl, rfl, rfl, rfl, rfl, rfl, rfl, congrArg (fun b => some (Value.bool b)) (show (!(isNodeM g ((xs[k]'hi1).op))) = ((!(recordOk (xs[k]'hi1))) || (!(isNodeM g ((xs[k]'hi1).op)))) by first | (rw [hg1] <;> rfl) | (simp [hg1]; done) | (simp only [nat_nlt] <;> simp)), trivial⟩ ⟨E, (by omega), h1, h2⟩))
  clear E h1 h2
  rintro w6 ⟨E, z7, h1, h2⟩
  refine J_done ?_
  refine S_cond rfl (fun hc2 => ?_) (fun hc2 => ?_)
  ·refine S_seq ?_
   refine S_reg [true] rfl rfl ?_
   refine J_st (R_assign rfl) rfl (J_done ?_)
   refine S_ret (E_inB_ret (E_lp_ret (E_inB_ret (E_done1 rfl rfl E ?_))))
   exact all_no (by assumption) (kx hc2)
  ·refine S_skip ?_
   refine S_nil (E_inB ?_)
   refine S_reg [true, true] rfl rfl ?_
   refine J_st (R_add rfl rfl (add_one hc1n hxs.1)) rfl (J_st (R_move rfl) rfl (J_done ?_))
   refine S_nil (E_again (k + 1) (by omega) ⟨rfl, rfl, rfl, rfl, rfl, trivial⟩ ⟨E, (by omega), h1, (by omega), all_step hI (by assumption) (ky hc2)⟩)
 ·have hc1n : ¬ k < xs.length := by first | (have h := of_decide_eq_false hc1; omega) | (have h := hc1; simp at h; omega)
  refine S_exit (E_lp_exit (E_inB_exit ?_))
  refine S_seq ?_
  refine S_reg [true] rfl rfl ?_
  refine J_st (R_assign rfl) rfl (J_done ?_)
  refine S_ret (E_done1 rfl rfl E ?_)
  exact all_yes hI (by omega)

set_option maxRecDepth 20000 in
theorem s_l12Records (cg : List Value) (g : Graph) (vxs : Value) (xs : List Record) (w : World) (hg : Dat.R w 0 w.heap.size cg g) (hxs : RdS w vxs xs) : Ct Try.prog 63 [.agg cg.toArray, vxs] w (fun v _ => v = .bool (xs.all (opOk g))) := by
 refine ct_of Try.func63 rfl Try.ntmps63 rfl ?_
 obtain ⟨o1, rfl, hd1⟩ := Graph.op hg
 refine S_sub [(0, .agg [o1, .int .i64 g.workers, .int .i64 g.cap].toArray), (1, vxs)] ⟨rfl, rfl, trivial⟩ ?_
 have E : Ext w w := Ext.refl w
 refine S_seq ?_
 refine S_reg [false, true] rfl rfl ?_
 refine J_box rfl rfl (fun b1 w1 e1 s1 h1 => ?_)
 have g_b1 : w.heap.size ≤ b1 := by have := E.size; omega
 have y_b1 := h1.lt
 replace E := E.trans e1
 have z1 := e1.size
 refine J_st (R_assign rfl) rfl (J_done ?_)
 refine S_seq ?_
 refine S_seq ?_
 refine S_reg [true] rfl rfl ?_
 refine J_st (R_assign rfl) rfl (J_done ?_)
 refine S_block ?_
 refine S_loop (fun (k : Nat) => [(1, vxs), (2, .pointer (some ⟨b1, 0, none⟩)), (4, .bool false), (5, .int .i64 ((k : Nat) : Int))]) (fun (k : Nat) w' => Ext w w' ∧ w1.heap.size ≤ w'.heap.size ∧ Blk w' b1 ([o1, .int .i64 g.workers, .int .i64 g.cap]) ∧ k ≤ xs.length ∧ (xs.take k).all (opOk g) = true) (fun (k : Nat) => xs.length - k) 0 ⟨rfl, rfl, rfl, rfl, trivial⟩ ⟨E, Nat.le_refl _, h1, Nat.zero_le _, rfl⟩ ?_
 clear E h1
 rintro k w2 ⟨E, z2, h1, hk, hI⟩
 refine S_seq ?_
 refine S_seq ?_
 refine S_reg [true, true, true, true] rfl rfl ?_
 refine J_st (R_move rfl) rfl (J_st (R_move rfl) rfl (J_st (R_len Try.underlying27 rfl (hxs.ext E).len) rfl (J_st (R_lss rfl rfl) rfl (J_done ?_))))
 refine S_cond rfl (fun hc1 => ?_) (fun hc1 => ?_)
 ·have hc1n : k < xs.length := by first | (have h := of_decide_eq_true hc1; omega) | (have h := hc1; simp at h; omega)
  refine S_skip ?_
  refine S_seq ?_
  refine S_block ?_
  refine S_seq ?_
  refine S_regD mixed [(0, true), (1, true), (2, true), (3, true), (4, false), (5, true), (6, true), (7, true), (8, true), (9, true), (10, true), (11, true), (12, true), (13, true), (14, true), (15, true), (16, true)] (by decide +kernel) rfl (fun w3 e2 => ?_)
  replace E := E.trans e2; replace h1 := h1.ext e2
  have z3 := e2.size
  refine J_st (R_move rfl) rfl (J_st (R_move rfl) rfl ?_)
  have hi1 : k < xs.length := (by first | assumption | omega | (simp only [List.length_set]; first | assumption | omega) | (simp only [List.getElem_set_self, List.length_set]; first | assumption | omega) | (simp only [setW, setLk, List.length_set]; first | assumption | omega) | (simp; done))
  refine J_st (R_index (i := k) sl27 rfl rfl (hxs.ext E) hi1) rfl (J_st (R_loadS st43 rfl ((hxs.ext E).get hi1) rfl) rfl ?_)
  refine J_call Try.call66 rfl (s_RecordOk (xs[k]'hi1) _ ) rfl (fun _ w4 e3 hv => ?_)
  subst hv
  replace E := E.trans e3; replace h1 := h1.ext e3
  have z4 := e3.size
  refine J_st (R_not rfl) rfl (J_st (R_move rfl) rfl ?_)
  refine J_cut 10 [(1, vxs), (2, .pointer (some ⟨b1, 0, none⟩)), (4, .bool false), (5, .int .i64 ((k : Nat) : Int)), (6, .int .i64 ((k : Nat) : Int)), (7, vxs), (8, .int .i64 ((xs.length : Nat) : Int)), (9, .bool (decide (((k : Nat) : Int) < ((xs.length : Nat) : Int)))), (28, .bool ((!(recordOk (xs[k]'hi1))) || (decide (((g.nodes.length : Nat) : Int) ≤ ((xs[k]'hi1).op)))))] (fun w' => w4 = w') ?_ ?_
  ·refine J_if (gd := 18) rfl rfl (fun hg1 => ?_) (fun hg1 => ?_)
   ·refine J_gdno rfl rfl rfl rfl (J_gdno rfl rfl rfl rfl (J_gdno rfl rfl rfl rfl (J_gdno rfl rfl rfl rfl (J_gdno rfl rfl rfl rfl (J_gdno rfl rfl rfl rfl (J_gdno rfl rfl rfl rfl (J_gdno rfl rfl rfl rfl (J_gdno rfl rfl rfl rfl (J_st (R_pickT rfl rfl) rfl (J_cutEnd ⟨rfl, rfl, rfl, rfl, rfl, rfl, rfl, rfl, congrArg (fun b => some (Value.bool b)) (show true = ((!(recordOk (xs[k]'hi1))) || (decide (((g.nodes.length : Nat) : Int) ≤ ((xs[k]'hi1).op)))) by first | (rw [hg1] <;> rfl) | (simp [hg1]; done) | (simp only [nat_nlt] <;> simp)), trivial⟩ rfl))))))))))
   ·refine J_gd rfl rfl (R_move rfl) rfl (J_gd rfl rfl (R_move rfl) rfl (J_gd rfl rfl (R_index (i := k) sl27 rfl rfl (hxs.ext E) hi1) rfl (J_gd rfl rfl (R_fieldAddr fl43_0 rfl) rfl (J_gd rfl rfl (R_load sc3 rfl (((hxs.ext E).get hi1).one 0 rfl)) rfl (J_gd rfl rfl (R_fieldAddr0 fl26_0 rfl) rfl (J_gd rfl rfl (R_load sc24 rfl (h1.one 0 rfl)) rfl (J_gd rfl rfl (R_len Try.underlying24 rfl (hd1.ext E).len) rfl (J_gd rfl rfl (R_geq rfl rfl) rfl (J_st (R_pickF rfl rfl) rfl (J_cutEnd ⟨rfl, rfl, rfl, rfl, rfl, rfl, rfl, rfl, congrArg (fun b => some (Value.bool b)) (show (decide (((g.nodes.length : Nat) : Int) ≤ ((xs[k]'hi1).op))) = ((!(recordOk (xs[k]'hi1))) || (decide (((g.nodes.length : Nat) : Int) ≤ ((xs[k]'hi1).op)))) by first | (rw [hg1] <;> rfl) | (simp [hg1]; done) | (simp only [nat_nlt] <;> simp)), trivial⟩ rfl))))))))))
  rintro _ rfl
  refine J_done ?_
  refine S_cond rfl (fun hc2 => ?_) (fun hc2 => ?_)
  ·refine S_seq ?_
   refine S_reg [true] rfl rfl ?_
   refine J_st (R_assign rfl) rfl (J_done ?_)
   refine S_ret (E_inB_ret (E_lp_ret (E_inB_ret (E_done1 rfl rfl E ?_))))
   exact all_no (by assumption) (op_no hc2)
  ·refine S_skip ?_
   refine S_nil (E_inB ?_)
   refine S_reg [true, true, true] rfl rfl ?_
   refine J_st (R_move rfl) rfl (J_st (R_add rfl rfl (add_one hc1n hxs.1)) rfl (J_st (R_assign rfl) rfl (J_done ?_)))
   refine S_nil (E_again (k + 1) (by omega) ⟨rfl, rfl, rfl, rfl, trivial⟩ ⟨E, (by omega), h1, (by omega), all_step hI (by assumption) (op_yes hc2)⟩)
 ·have hc1n : ¬ k < xs.length := by first | (have h := of_decide_eq_false hc1; omega) | (have h := hc1; simp at h; omega)
  refine S_exit (E_lp_exit (E_inB_exit ?_))
  refine S_seq ?_
  refine S_reg [true] rfl rfl ?_
  refine J_st (R_assign rfl) rfl (J_done ?_)
  refine S_ret (E_done1 rfl rfl E ?_)
  exact all_yes hI (by omega)

set_option maxHeartbeats 4000000 in
set_option maxRecDepth 20000 in
theorem c_WorkerOk (cg : List Value) (g : Graph) (cx : List Value) (x : Worker) (w : World) (hg : Dat.R w 0 w.heap.size cg g) (hx : Dat.R w 0 w.heap.size cx x) : Ct Try.prog 14 [.agg cg.toArray, .agg cx.toArray] w (fun v _ => v = .bool (workerOk g x)) := by
 refine ct_of Try.func14 rfl Try.ntmps14 rfl ?_
 obtain ⟨o1, rfl, hd1⟩ := Graph.op hg
 obtain ⟨o2, o3, o4, o5, o6, o7, o8, o9, rfl, hd2, hd3, hd4, hd5, hd6, hd7, hd8, hd9⟩ := Worker.op hx
 refine S_sub [(0, .agg [o1, .int .i64 g.workers, .int .i64 g.cap].toArray), (1, .agg [o2, o3, o4, o5, o6, o7, o8, o9].toArray)] ⟨rfl, rfl, trivial⟩ ?_
 have E : Ext w w := Ext.refl w
 refine S_seq ?_
 refine S_reg [false, false, true] rfl rfl ?_
 refine J_box rfl rfl (fun b1 w1 e1 s1 h1 => ?_)
 have g_b1 : w.heap.size ≤ b1 := by have := E.size; omega
 have y_b1 := h1.lt
 replace E := E.trans e1
 have z1 := e1.size
 refine J_box rfl rfl (fun b2 w2 e2 s2 h2 => ?_)
 have g_b2 : w.heap.size ≤ b2 := by have := E.size; omega
 have y_b2 := h2.lt
 replace E := E.trans e2; replace h1 := h1.ext e2
 have z2 := e2.size
 refine J_st (R_assign rfl) rfl (J_done ?_)
 refine S_seq ?_
 refine S_seq ?_
 refine S_reg [true, true, true, false, true, true, true, true, true, false, true, true, true, true, true, true, false, true, true, true, true, true, false, true, true] rfl rfl ?_
 refine J_st (R_loadS st26 rfl h1.at rfl) rfl (J_st (R_fieldAddr0 fl33_0 rfl) rfl (J_st (R_load sc27 rfl (h2.one 0 rfl)) rfl ?_))
 refine J_call Try.call29 rfl (c_opsOk [o1, .int .i64 g.workers, .int .i64 g.cap] g o2 x.queue _ (Graph.mkR g (RdD.any (hd1.ext E))) (hd2.rd.ext E)) rfl (fun _ w3 e3 hv => ?_)
 subst hv
 replace E := E.trans e3; replace h1 := h1.ext e3; replace h2 := h2.ext e3
 have z3 := e3.size
 refine J_st (R_not rfl) rfl (J_st (R_move rfl) rfl ?_)
 refine J_cut 19 [(0, .agg [o1, .int .i64 g.workers, .int .i64 g.cap].toArray), (1, .agg [o2, o3, o4, o5, o6, o7, o8, o9].toArray), (2, .pointer (some ⟨b1, 0, none⟩)), (3, .pointer (some ⟨b2, 0, none⟩)), (4, .bool false), (35, .bool ((((!(x.queue.all (opOk g))) || (!(x.staged.all (opOk g)))) || (!(x.inputs.all (opOk g)))) || (!((adj x.cells).all cellLt))))] (fun w' => Ext w w' ∧ w3.heap.size ≤ w'.heap.size ∧ Blk w' b1 ([o1, .int .i64 g.workers, .int .i64 g.cap]) ∧ Blk w' b2 ([o2, o3, o4, o5, o6, o7, o8, o9])) ?_ ?_
 ·refine J_if (gd := 16) rfl rfl (fun hg1 => ?_) (fun hg1 => ?_)
  ·refine J_gdno rfl rfl rfl rfl (J_gdno rfl rfl rfl rfl (J_gdno rfl rfl rfl rfl ?_))
   refine J_ungno rfl rfl rfl rfl ?_
   refine J_gdno rfl rfl rfl rfl (J_st (R_pickT rfl rfl) rfl (J_st (R_move rfl) rfl (J_gdno rfl rfl rfl rfl (J_gdno rfl rfl rfl rfl (J_gdno rfl rfl rfl rfl ?_)))))
   refine J_ungno rfl rfl rfl rfl ?_
   refine J_gdno rfl rfl rfl rfl (J_st (R_pickT rfl rfl) rfl (J_st (R_move rfl) rfl (J_gdno rfl rfl rfl rfl (J_gdno rfl rfl rfl rfl ?_))))
   refine J_ungno rfl rfl rfl rfl ?_
   refine J_gdno rfl rfl rfl rfl (J_st (R_pickT rfl rfl) rfl (J_cutEnd ⟨rfl, rfl, rfl, rfl, rfl, congrArg (fun b => some (Value.bool b)) (show true = ((((!(x.queue.all (opOk g))) || (!(x.staged.all (opOk g)))) || (!(x.inputs.all (opOk g)))) || (!((adj x.cells).all cellLt))) by first | (rw [hg1] <;> rfl) | (simp [hg1]; done) | (simp only [nat_nlt] <;> simp)), trivial⟩ ⟨E, (by omega), h1, h2⟩))
  ·refine J_gd rfl rfl (R_loadS st26 rfl h1.at rfl) rfl (J_gd rfl rfl (R_fieldAddr0 fl33_1 rfl) rfl (J_gd rfl rfl (R_load sc27 rfl (h2.one 1 rfl)) rfl ?_))
   refine J_ung rfl rfl ?_
   refine J_call Try.call29 rfl (c_opsOk [o1, .int .i64 g.workers, .int .i64 g.cap] g o3 x.staged _ (Graph.mkR g (RdD.any (hd1.ext E))) (hd3.rd.ext E)) rfl (fun _ w5 e4 hv => ?_)
   subst hv
   replace E := E.trans e4; replace h1 := h1.ext e4; replace h2 := h2.ext e4
   have z4 := e4.size
   refine J_gd rfl rfl (R_not rfl) rfl (J_st (R_pickF rfl rfl) rfl (J_st (R_move rfl) rfl ?_))
   refine J_if (gd := 23) rfl rfl (fun hg2 => ?_) (fun hg2 => ?_)
   ·refine J_gdno rfl rfl rfl rfl (J_gdno rfl rfl rfl rfl (J_gdno rfl rfl rfl rfl ?_))
    refine J_ungno rfl rfl rfl rfl ?_
    refine J_gdno rfl rfl rfl rfl (J_st (R_pickT rfl rfl) rfl (J_st (R_move rfl) rfl (J_gdno rfl rfl rfl rfl (J_gdno rfl rfl rfl rfl ?_))))
    refine J_ungno rfl rfl rfl rfl ?_
    refine J_gdno rfl rfl rfl rfl (J_st (R_pickT rfl rfl) rfl (J_cutEnd ⟨rfl, rfl, rfl, rfl, rfl, congrArg (fun b => some (Value.bool b)) (show true = ((((!(x.queue.all (opOk g))) || (!(x.staged.all (opOk g)))) || (!(x.inputs.all (opOk g)))) || (!((adj x.cells).all cellLt))) by first | (rw [hg1, hg2] <;> rfl) | (simp [hg1, hg2]; done) | (simp only [nat_nlt] <;> simp)), trivial⟩ ⟨E, (by omega), h1, h2⟩))
   ·refine J_gd rfl rfl (R_loadS st26 rfl h1.at rfl) rfl (J_gd rfl rfl (R_fieldAddr0 fl33_2 rfl) rfl (J_gd rfl rfl (R_load sc27 rfl (h2.one 2 rfl)) rfl ?_))
    refine J_ung rfl rfl ?_
    refine J_call Try.call29 rfl (c_opsOk [o1, .int .i64 g.workers, .int .i64 g.cap] g o4 x.inputs _ (Graph.mkR g (RdD.any (hd1.ext E))) (hd4.rd.ext E)) rfl (fun _ w6 e5 hv => ?_)
    subst hv
    replace E := E.trans e5; replace h1 := h1.ext e5; replace h2 := h2.ext e5
    have z5 := e5.size
    refine J_gd rfl rfl (R_not rfl) rfl (J_st (R_pickF rfl rfl) rfl (J_st (R_move rfl) rfl ?_))
    refine J_if (gd := 30) rfl rfl (fun hg3 => ?_) (fun hg3 => ?_)
    ·refine J_gdno rfl rfl rfl rfl (J_gdno rfl rfl rfl rfl ?_)
     refine J_ungno rfl rfl rfl rfl ?_
     refine J_gdno rfl rfl rfl rfl (J_st (R_pickT rfl rfl) rfl (J_cutEnd ⟨rfl, rfl, rfl, rfl, rfl, congrArg (fun b => some (Value.bool b)) (show true = ((((!(x.queue.all (opOk g))) || (!(x.staged.all (opOk g)))) || (!(x.inputs.all (opOk g)))) || (!((adj x.cells).all cellLt))) by first | (rw [hg1, hg2, hg3] <;> rfl) | (simp [hg1, hg2, hg3]; done) | (simp only [nat_nlt] <;> simp)), trivial⟩ ⟨E, (by omega), h1, h2⟩))
    ·refine J_gd rfl rfl (R_fieldAddr0 fl33_3 rfl) rfl (J_gd rfl rfl (R_load sc28 rfl (h2.one 3 rfl)) rfl ?_)
     refine J_ung rfl rfl ?_
     refine J_call Try.call30 rfl (c_CellsOk o5 x.cells _ (hd5.rd.ext E)) rfl (fun _ w7 e6 hv => ?_)
     subst hv
     replace E := E.trans e6; replace h1 := h1.ext e6; replace h2 := h2.ext e6
     have z6 := e6.size
     refine J_gd rfl rfl (R_not rfl) rfl (J_st (R_pickF rfl rfl) rfl (J_cutEnd ⟨rfl, rfl, rfl, rfl, rfl, congrArg (fun b => some (Value.bool b)) (show (!((adj x.cells).all cellLt)) = ((((!(x.queue.all (opOk g))) || (!(x.staged.all (opOk g)))) || (!(x.inputs.all (opOk g)))) || (!((adj x.cells).all cellLt))) by first | (rw [hg1, hg2, hg3] <;> rfl) | (simp [hg1, hg2, hg3]; done) | (simp only [nat_nlt] <;> simp)), trivial⟩ ⟨E, (by omega), h1, h2⟩))
 clear E h1 h2
 rintro w4 ⟨E, z7, h1, h2⟩
 refine J_done ?_
 refine S_cond rfl (fun hc1 => ?_) (fun hc1 => ?_)
 ·refine S_seq ?_
  refine S_reg [true] rfl rfl ?_
  refine J_st (R_assign rfl) rfl (J_done ?_)
  refine S_ret (E_done1 rfl rfl E ?_)
  exact bf fun h => by simp only [workerOk, Bool.and_eq_true] at h; obtain ⟨⟨⟨⟨⟨⟨⟨⟨⟨q1, q2⟩, q3⟩, q4⟩, q5⟩, q6⟩, q7⟩, q8⟩, q9⟩, q10⟩ := h; simp only [q1, q2, q3, q4] at hc1; simp at hc1
 ·refine S_skip ?_
  refine S_seq ?_
  refine S_seq ?_
  refine S_reg [true, true, true, true] rfl rfl ?_
  refine J_st (R_fieldAddr0 fl33_2 rfl) rfl (J_st (R_load sc27 rfl (h2.one 2 rfl)) rfl (J_st (R_len Try.underlying27 rfl (hd4.ext E).len) rfl (J_st (R_move rfl) rfl (J_done ?_))))
  refine S_block ?_
  refine S_loop (fun (k : Nat) => [(3, .pointer (some ⟨b2, 0, none⟩)), (4, .bool false), (37, o4), (38, .int .i64 ((x.inputs.length : Nat) : Int)), (39, .int .i64 ((k : Nat) : Int))]) (fun (k : Nat) w' => Ext w w' ∧ w4.heap.size ≤ w'.heap.size ∧ Blk w' b1 ([o1, .int .i64 g.workers, .int .i64 g.cap]) ∧ Blk w' b2 ([o2, o3, o4, o5, o6, o7, o8, o9]) ∧ k ≤ x.inputs.length ∧ allR k (fun j => inAt x.inputs j) = true) (fun (k : Nat) => x.inputs.length - k) 0 ⟨rfl, rfl, rfl, rfl, rfl, trivial⟩ ⟨E, Nat.le_refl _, h1, h2, Nat.zero_le _, rfl⟩ ?_
  clear E h1 h2
  rintro k w8 ⟨E, z8, h1, h2, hk, hI1⟩
  have hmi := hd4.1.1
  unfold maxLen at hmi
  refine S_seq ?_
  refine S_reg [true] rfl rfl ?_
  refine J_st (R_lss rfl rfl) rfl (J_done ?_)
  refine S_seq ?_
  refine S_cond rfl (fun hc2 => ?_) (fun hc2 => ?_)
  ·have hc2n : k < x.inputs.length := by first | (have h := of_decide_eq_true hc2; omega) | (have h := hc2; simp at h; omega)
   refine S_skip ?_
   refine S_seq ?_
   refine S_block ?_
   refine S_seq ?_
   refine S_reg [true, true, true, false, true, false] rfl rfl ?_
   refine J_st (R_move rfl) rfl ?_
   have hi1 : k < x.inputs.length := (by first | assumption | omega | (simp only [List.length_set]; first | assumption | omega) | (simp only [List.getElem_set_self, List.length_set]; first | assumption | omega) | (simp only [setW, setLk, List.length_set]; first | assumption | omega) | (simp; done))
   refine J_st (R_index (i := k) sl27 rfl rfl (hd4.rd.ext E) hi1) rfl (J_st (R_loadS st43 rfl ((hd4.rd.ext E).get hi1) rfl) rfl ?_)
   refine J_alloc st43 rfl (fun b3 w9 e7 s3 h3 => ?_)
   have g_b3 : w.heap.size ≤ b3 := by have := E.size; omega
   have y_b3 := h3.lt
   replace E := E.trans e7; replace h1 := h1.ext e7; replace h2 := h2.ext e7
   have z9 := e7.size
   refine J_st (R_assign rfl) rfl ?_
   refine J_storeS' (cs' := [.int .i64 ((x.inputs[k]'hi1).op), .int .i64 (((x.inputs[k]'hi1).stamp).epoch), .int .i64 (((x.inputs[k]'hi1).stamp).turn), .int .i64 ((x.inputs[k]'hi1).key), .int .i64 ((x.inputs[k]'hi1).val)]) st43 rfl rfl rfl rfl h3 (Nat.le_of_ble_eq_true rfl) rfl (fun w10 m1 h3' => ?_)
   replace h3 := h3'
   replace E := E.step m1 (fun g hg => by cases hg; omega); replace h1 := h1.mod m1 (fun g hg => by cases hg; omega); replace h2 := h2.mod m1 (fun g hg => by cases hg; omega)
   have z10 := m1.size
   refine J_done ?_
   refine S_seq ?_
   refine S_regD mixed [(0, true), (1, true), (2, true), (3, true), (4, true), (5, true), (6, true), (7, true), (8, true), (9, true), (10, true), (11, true), (12, true), (13, true), (14, true), (15, true), (16, true), (17, true), (18, true), (19, true), (20, true), (21, true), (22, true), (23, true), (24, true), (25, true), (26, true)] (by decide +kernel) rfl (fun w11 e8 => ?_)
   replace E := E.trans e8; replace h1 := h1.ext e8; replace h2 := h2.ext e8; replace h3 := h3.ext e8
   have z11 := e8.size
   refine J_st (R_fieldAddr0 fl43_0 rfl) rfl (J_st (R_load sc3 rfl (h3.one 0 rfl)) rfl (J_st (R_neq rfl rfl) rfl (J_st (R_move rfl) rfl ?_)))
   refine J_cut 23 [(3, .pointer (some ⟨b2, 0, none⟩)), (4, .bool false), (5, .int .i64 ((k : Nat) : Int)), (6, .pointer (some ⟨b3, 0, none⟩)), (37, o4), (38, .int .i64 ((x.inputs.length : Nat) : Int)), (39, .int .i64 ((k : Nat) : Int)), (40, .bool (decide (((k : Nat) : Int) < ((x.inputs.length : Nat) : Int)))), (41, .int .i64 ((k : Nat) : Int)), (42, .pointer (some ⟨sblk o4, soff o4 + k * 5, none⟩)), (43, .agg (Enc.enc (x.inputs[k]'hi1)).toArray), (70, .bool (((((x.inputs[k]'hi1).op) != 0) || ((((x.inputs[k]'hi1).stamp).turn) != 0)) || ((decide (0 < ((k : Nat) : Int))) && (decide ((((x.inputs[k]'hi1).stamp).epoch) < (((List.getD x.inputs (k - 1) default).stamp).epoch))))))] (fun w' => w11 = w') ?_ ?_
   ·refine J_if (gd := 47) rfl rfl (fun hg4 => ?_) (fun hg4 => ?_)
    ·refine J_gdno rfl rfl rfl rfl (J_gdno rfl rfl rfl rfl (J_gdno rfl rfl rfl rfl (J_gdno rfl rfl rfl rfl (J_st (R_pickT rfl rfl) rfl (J_st (R_move rfl) rfl (J_gdno rfl rfl rfl rfl (J_gdno rfl rfl rfl rfl (J_gdno rfl rfl rfl rfl (J_gdx rfl rfl rfl (J_gdx rfl rfl rfl (J_gdx rfl rfl rfl (J_gdx rfl rfl rfl (J_gdx rfl rfl rfl (J_gdx rfl rfl rfl (J_gdx rfl rfl rfl (J_gdx rfl rfl rfl (J_gdx rfl rfl rfl (J_gdx rfl rfl rfl (J_gdx rfl rfl rfl (J_gdx rfl rfl rfl (J_gdno rfl rfl rfl rfl (J_st (R_pickT rfl rfl) rfl (J_cutEnd ⟨rfl, rfl, rfl, rfl, rfl, rfl, rfl, rfl, rfl, rfl, rfl, congrArg (fun b => some (Value.bool b)) (show true = (((((x.inputs[k]'hi1).op) != 0) || ((((x.inputs[k]'hi1).stamp).turn) != 0)) || ((decide (0 < ((k : Nat) : Int))) && (decide ((((x.inputs[k]'hi1).stamp).epoch) < (((List.getD x.inputs (k - 1) default).stamp).epoch))))) by first | (rw [hg4] <;> rfl) | (simp [hg4]; done) | (simp only [nat_nlt] <;> simp)), trivial⟩ rfl)))))))))))))))))))))))
    ·refine J_gd rfl rfl (R_fieldAddr0 fl43_1 rfl) rfl (J_gd rfl rfl (R_fieldAddr fl41_1 rfl) rfl (J_gd rfl rfl (R_load sc3 rfl (h3.one 2 rfl)) rfl (J_gd rfl rfl (R_neq rfl rfl) rfl (J_st (R_pickF rfl rfl) rfl (J_st (R_move rfl) rfl ?_)))))
     refine J_if (gd := 53) rfl rfl (fun hg5 => ?_) (fun hg5 => ?_)
     ·refine J_gdno rfl rfl rfl rfl (J_gdno rfl rfl rfl rfl (J_gdno rfl rfl rfl rfl (J_gdx rfl rfl rfl (J_gdx rfl rfl rfl (J_gdx rfl rfl rfl (J_gdx rfl rfl rfl (J_gdx rfl rfl rfl (J_gdx rfl rfl rfl (J_gdx rfl rfl rfl (J_gdx rfl rfl rfl (J_gdx rfl rfl rfl (J_gdx rfl rfl rfl (J_gdx rfl rfl rfl (J_gdx rfl rfl rfl (J_gdno rfl rfl rfl rfl (J_st (R_pickT rfl rfl) rfl (J_cutEnd ⟨rfl, rfl, rfl, rfl, rfl, rfl, rfl, rfl, rfl, rfl, rfl, congrArg (fun b => some (Value.bool b)) (show true = (((((x.inputs[k]'hi1).op) != 0) || ((((x.inputs[k]'hi1).stamp).turn) != 0)) || ((decide (0 < ((k : Nat) : Int))) && (decide ((((x.inputs[k]'hi1).stamp).epoch) < (((List.getD x.inputs (k - 1) default).stamp).epoch))))) by first | (rw [hg4, hg5] <;> rfl) | (simp [hg4, hg5]; done) | (simp only [nat_nlt] <;> simp)), trivial⟩ rfl)))))))))))))))))
     ·refine J_gd rfl rfl (R_move rfl) rfl (J_gd rfl rfl (R_gtr rfl rfl) rfl (J_gd rfl rfl (R_move rfl) rfl ?_))
      refine J_if (gd := 56) rfl rfl (fun hg6 => ?_) (fun hg6 => ?_)
      ·have hg6n : k > 0 := by first | (have h := of_decide_eq_true hg6; omega) | (have h := hg6; simp at h; omega)
       refine J_gd rfl rfl (R_fieldAddr0 fl33_2 rfl) rfl (J_gd rfl rfl (R_load sc27 rfl (h2.one 2 rfl)) rfl (J_gd rfl rfl (R_move rfl) rfl (J_gd rfl rfl (R_sub rfl rfl (sub_nat (by omega) (by unfold maxLen; omega))) rfl (J_gd rfl rfl (R_index (i := (k - 1)) sl27 rfl rfl (hd4.rd.ext E) (by first | assumption | omega | (simp only [List.length_set]; first | assumption | omega) | (simp only [List.getElem_set_self, List.length_set]; first | assumption | omega) | (simp only [setW, setLk, List.length_set]; first | assumption | omega) | (simp; done))) rfl (J_gd rfl rfl (R_fieldAddr fl43_1 rfl) rfl (J_gd rfl rfl (R_fieldAddr fl41_0 rfl) rfl (J_gd rfl rfl (R_load sc3 rfl ((RdS.getD (hd4.rd.ext E) (i := (k - 1)) (by first | assumption | omega | (simp only [List.length_set]; first | assumption | omega) | (simp only [List.getElem_set_self, List.length_set]; first | assumption | omega) | (simp only [setW, setLk, List.length_set]; first | assumption | omega) | (simp; done))).one 1 rfl)) rfl (J_gd rfl rfl (R_fieldAddr0 fl43_1 rfl) rfl (J_gd rfl rfl (R_fieldAddr fl41_0 rfl) rfl (J_gd rfl rfl (R_load sc3 rfl (h3.one 1 rfl)) rfl (J_gd rfl rfl (R_gtr rfl rfl) rfl (J_gd rfl rfl (R_pickT rfl rfl) rfl (J_st (R_pickF rfl rfl) rfl (J_cutEnd ⟨rfl, rfl, rfl, rfl, rfl, rfl, rfl, rfl, rfl, rfl, rfl, congrArg (fun b => some (Value.bool b)) (show (decide ((((x.inputs[k]'hi1).stamp).epoch) < (((List.getD x.inputs (k - 1) default).stamp).epoch))) = (((((x.inputs[k]'hi1).op) != 0) || ((((x.inputs[k]'hi1).stamp).turn) != 0)) || ((decide (0 < ((k : Nat) : Int))) && (decide ((((x.inputs[k]'hi1).stamp).epoch) < (((List.getD x.inputs (k - 1) default).stamp).epoch))))) by first | (rw [hg4, hg5, hg6] <;> rfl) | (simp [hg4, hg5, hg6]; done) | (simp only [nat_nlt] <;> simp)), trivial⟩ rfl))))))))))))))
      ·have hg6n : ¬ k > 0 := by first | (have h := of_decide_eq_false hg6; omega) | (have h := hg6; simp at h; omega)
       refine J_gdno rfl rfl rfl rfl (J_gdno rfl rfl rfl rfl (J_gdno rfl rfl rfl rfl (J_gdno rfl rfl rfl rfl (J_gdno rfl rfl rfl rfl (J_gdno rfl rfl rfl rfl (J_gdno rfl rfl rfl rfl (J_gdno rfl rfl rfl rfl (J_gdno rfl rfl rfl rfl (J_gdno rfl rfl rfl rfl (J_gdno rfl rfl rfl rfl (J_gdno rfl rfl rfl rfl (J_gd rfl rfl (R_pickF rfl rfl) rfl (J_st (R_pickF rfl rfl) rfl (J_cutEnd ⟨rfl, rfl, rfl, rfl, rfl, rfl, rfl, rfl, rfl, rfl, rfl, congrArg (fun b => some (Value.bool b)) (show false = (((((x.inputs[k]'hi1).op) != 0) || ((((x.inputs[k]'hi1).stamp).turn) != 0)) || ((decide (0 < ((k : Nat) : Int))) && (decide ((((x.inputs[k]'hi1).stamp).epoch) < (((List.getD x.inputs (k - 1) default).stamp).epoch))))) by first | (rw [hg4, hg5, hg6] <;> rfl) | (simp [hg4, hg5, hg6]; done) | (simp only [nat_nlt] <;> simp)), trivial⟩ rfl))))))))))))))
   rintro _ rfl
   refine J_done ?_
   refine S_cond rfl (fun hc3 => ?_) (fun hc3 => ?_)
   ·refine S_seq ?_
    refine S_reg [true] rfl rfl ?_
    refine J_st (R_assign rfl) rfl (J_done ?_)
    refine S_ret (E_inB_ret (E_lp_ret (E_inB_ret (E_done1 rfl rfl E ?_))))
    exact bf fun h => by simp only [workerOk, Bool.and_eq_true] at h; obtain ⟨⟨⟨⟨⟨⟨⟨⟨⟨q1, q2⟩, q3⟩, q4⟩, q5⟩, q6⟩, q7⟩, q8⟩, q9⟩, q10⟩ := h; have := allR_get q5 (by assumption); rw [inAt_at (by assumption), hc3] at this; cases this
   ·refine S_skip ?_
    refine S_nil (E_inB ?_)
    refine S_reg [true, true] rfl rfl ?_
    refine J_st (R_add rfl rfl (add_one hc2n (hd4.ext E).1.1)) rfl (J_st (R_move rfl) rfl (J_done ?_))
    refine S_nil (E_again (k + 1) (by omega) ⟨rfl, rfl, rfl, rfl, rfl, trivial⟩ ⟨E, (by omega), h1, h2, (by omega), allR_s hI1 ((inAt_at (by assumption)).trans (congrArg not hc3))⟩)
  ·have hc2n : ¬ k < x.inputs.length := by first | (have h := of_decide_eq_false hc2; omega) | (have h := hc2; simp at h; omega)
   refine S_exit (E_lp_exit (E_inB_exit ?_))
   refine S_seq ?_
   refine S_seq ?_
   refine S_reg [true, true, true, true, true, true, true, true, true, true, true, true, true, true, true, true] rfl rfl ?_
   refine J_st (R_fieldAddr0 fl33_4 rfl) rfl (J_st (R_load sc29 rfl (h2.one 4 rfl)) rfl (J_st (R_len Try.underlying29 rfl (hd6.ext E).len) rfl (J_st (R_neq rfl rfl) rfl (J_st (R_move rfl) rfl ?_))))
   refine J_cut 11 [(3, .pointer (some ⟨b2, 0, none⟩)), (4, .bool false), (37, o4), (38, .int .i64 ((x.inputs.length : Nat) : Int)), (39, .int .i64 ((k : Nat) : Int)), (40, .bool (decide (((k : Nat) : Int) < ((x.inputs.length : Nat) : Int)))), (87, .bool (((((x.sums.length : Nat) : Int) != 4) || (((x.black.length : Nat) : Int) != 4)) || (((x.caps.length : Nat) : Int) != 4)))] (fun w' => w8 = w') ?_ ?_
   ·refine J_if (gd := 76) rfl rfl (fun hg7 => ?_) (fun hg7 => ?_)
    ·have hg7n : ¬ x.sums.length = 4 := by first | (have h := of_decide_eq_true hg7; omega) | (have h := hg7; simp at h; omega)
     refine J_gdno rfl rfl rfl rfl (J_gdno rfl rfl rfl rfl (J_gdno rfl rfl rfl rfl (J_gdno rfl rfl rfl rfl (J_st (R_pickT rfl rfl) rfl (J_st (R_move rfl) rfl (J_gdno rfl rfl rfl rfl (J_gdno rfl rfl rfl rfl (J_gdno rfl rfl rfl rfl (J_gdno rfl rfl rfl rfl (J_st (R_pickT rfl rfl) rfl (J_cutEnd ⟨rfl, rfl, rfl, rfl, rfl, rfl, congrArg (fun b => some (Value.bool b)) (show true = (((((x.sums.length : Nat) : Int) != 4) || (((x.black.length : Nat) : Int) != 4)) || (((x.caps.length : Nat) : Int) != 4)) by first | (rw [hg7] <;> rfl) | (simp [hg7]; done) | (simp only [nat_nlt] <;> simp)), trivial⟩ rfl)))))))))))
    ·have hg7n : x.sums.length = 4 := by first | (have h := of_decide_eq_false hg7; omega) | (have h := hg7; simp at h; omega)
     refine J_gd rfl rfl (R_fieldAddr0 fl33_5 rfl) rfl (J_gd rfl rfl (R_load sc30 rfl (h2.one 5 rfl)) rfl (J_gd rfl rfl (R_len Try.underlying30 rfl (hd7.ext E).len) rfl (J_gd rfl rfl (R_neq rfl rfl) rfl (J_st (R_pickF rfl rfl) rfl (J_st (R_move rfl) rfl ?_)))))
     refine J_if (gd := 82) rfl rfl (fun hg8 => ?_) (fun hg8 => ?_)
     ·have hg8n : ¬ x.black.length = 4 := by first | (have h := of_decide_eq_true hg8; omega) | (have h := hg8; simp at h; omega)
      refine J_gdno rfl rfl rfl rfl (J_gdno rfl rfl rfl rfl (J_gdno rfl rfl rfl rfl (J_gdno rfl rfl rfl rfl (J_st (R_pickT rfl rfl) rfl (J_cutEnd ⟨rfl, rfl, rfl, rfl, rfl, rfl, congrArg (fun b => some (Value.bool b)) (show true = (((((x.sums.length : Nat) : Int) != 4) || (((x.black.length : Nat) : Int) != 4)) || (((x.caps.length : Nat) : Int) != 4)) by first | (rw [hg7, hg8] <;> rfl) | (simp [hg7, hg8]; done) | (simp only [nat_nlt] <;> simp)), trivial⟩ rfl)))))
     ·have hg8n : x.black.length = 4 := by first | (have h := of_decide_eq_false hg8; omega) | (have h := hg8; simp at h; omega)
      refine J_gd rfl rfl (R_fieldAddr0 fl33_6 rfl) rfl (J_gd rfl rfl (R_load sc30 rfl (h2.one 6 rfl)) rfl (J_gd rfl rfl (R_len Try.underlying30 rfl (hd8.ext E).len) rfl (J_gd rfl rfl (R_neq rfl rfl) rfl (J_st (R_pickF rfl rfl) rfl (J_cutEnd ⟨rfl, rfl, rfl, rfl, rfl, rfl, congrArg (fun b => some (Value.bool b)) (show (((x.caps.length : Nat) : Int) != 4) = (((((x.sums.length : Nat) : Int) != 4) || (((x.black.length : Nat) : Int) != 4)) || (((x.caps.length : Nat) : Int) != 4)) by first | (rw [hg7, hg8] <;> rfl) | (simp [hg7, hg8]; done) | (simp only [nat_nlt] <;> simp)), trivial⟩ rfl)))))
   rintro _ rfl
   refine J_done ?_
   refine S_cond rfl (fun hc4 => ?_) (fun hc4 => ?_)
   ·refine S_seq ?_
    refine S_reg [true] rfl rfl ?_
    refine J_st (R_assign rfl) rfl (J_done ?_)
    refine S_ret (E_done1 rfl rfl E ?_)
    exact bf fun h => by simp only [workerOk, Bool.and_eq_true] at h; obtain ⟨⟨⟨⟨⟨⟨⟨⟨⟨q1, q2⟩, q3⟩, q4⟩, q5⟩, q6⟩, q7⟩, q8⟩, q9⟩, q10⟩ := h; simp only [beq_iff_eq] at q6 q7 q8; simp [q6, q7, q8] at hc4
   ·refine S_skip ?_
    refine S_seq ?_
    refine S_seq ?_
    refine S_reg [true, true, true, true] rfl rfl ?_
    refine J_st (R_fieldAddr0 fl33_4 rfl) rfl (J_st (R_load sc29 rfl (h2.one 4 rfl)) rfl (J_st (R_len Try.underlying29 rfl (hd6.ext E).len) rfl (J_st (R_move rfl) rfl (J_done ?_))))
    refine S_block ?_
    refine S_loop (fun (k : Nat) => [(3, .pointer (some ⟨b2, 0, none⟩)), (4, .bool false), (89, o6), (90, .int .i64 ((x.sums.length : Nat) : Int)), (91, .int .i64 ((k : Nat) : Int))]) (fun (k : Nat) w' => Ext w w' ∧ w8.heap.size ≤ w'.heap.size ∧ Blk w' b1 ([o1, .int .i64 g.workers, .int .i64 g.cap]) ∧ Blk w' b2 ([o2, o3, o4, o5, o6, o7, o8, o9]) ∧ k ≤ x.sums.length ∧ (x.sums.take k).all (win · (-1000000) 1000000) = true) (fun (k : Nat) => x.sums.length - k) 0 ⟨rfl, rfl, rfl, rfl, rfl, trivial⟩ ⟨E, Nat.le_refl _, h1, h2, Nat.zero_le _, rfl⟩ ?_
    clear E h1 h2
    rintro k w14 ⟨E, z12, h1, h2, hk, hI2⟩
    refine S_seq ?_
    refine S_reg [true] rfl rfl ?_
    refine J_st (R_lss rfl rfl) rfl (J_done ?_)
    refine S_seq ?_
    refine S_cond rfl (fun hc5 => ?_) (fun hc5 => ?_)
    ·have hc5n : k < x.sums.length := by first | (have h := of_decide_eq_true hc5; omega) | (have h := hc5; simp at h; omega)
     refine S_skip ?_
     refine S_seq ?_
     refine S_block ?_
     refine S_seq ?_
     refine S_reg [true, true, true] rfl rfl ?_
     have hi2 : k < x.sums.length := (by first | assumption | omega | (simp only [List.length_set]; first | assumption | omega) | (simp only [List.getElem_set_self, List.length_set]; first | assumption | omega) | (simp only [setW, setLk, List.length_set]; first | assumption | omega) | (simp; done))
     refine J_st (R_index (i := k) sl29 rfl rfl (hd6.rd.ext E) hi2) rfl (J_st (R_load sc3 rfl (((hd6.rd.ext E).get hi2).one 0 rfl)) rfl (J_st (R_assign rfl) rfl (J_done ?_)))
     refine S_seq ?_
     refine S_reg [true, false, true] rfl rfl ?_
     refine J_st (R_move rfl) rfl ?_
     refine J_call Try.call27 rfl (c_within (x.sums[k]'hi2) (-1000000) 1000000 _ ) rfl (fun _ w15 e9 hv => ?_)
     subst hv
     replace E := E.trans e9; replace h1 := h1.ext e9; replace h2 := h2.ext e9
     have z13 := e9.size
     refine J_st (R_not rfl) rfl (J_done ?_)
     refine S_cond rfl (fun hc6 => ?_) (fun hc6 => ?_)
     ·refine S_seq ?_
      refine S_reg [true] rfl rfl ?_
      refine J_st (R_assign rfl) rfl (J_done ?_)
      refine S_ret (E_inB_ret (E_lp_ret (E_inB_ret (E_done1 rfl rfl E ?_))))
      exact bf fun h => by simp only [workerOk, Bool.and_eq_true] at h; obtain ⟨⟨⟨⟨⟨⟨⟨⟨⟨q1, q2⟩, q3⟩, q4⟩, q5⟩, q6⟩, q7⟩, q8⟩, q9⟩, q10⟩ := h; have := List.all_eq_true.1 q9 _ (List.getElem_mem (by assumption)); simp only [this] at hc6; cases hc6
     ·refine S_skip ?_
      refine S_nil (E_inB ?_)
      refine S_reg [true, true] rfl rfl ?_
      refine J_st (R_add rfl rfl (add_one hc5n (hd6.ext E).1.1)) rfl (J_st (R_move rfl) rfl (J_done ?_))
      refine S_nil (E_again (k + 1) (by omega) ⟨rfl, rfl, rfl, rfl, rfl, trivial⟩ ⟨E, (by omega), h1, h2, (by omega), all_step hI2 (by assumption) (by simpa using hc6)⟩)
    ·have hc5n : ¬ k < x.sums.length := by first | (have h := of_decide_eq_false hc5; omega) | (have h := hc5; simp at h; omega)
     refine S_exit (E_lp_exit (E_inB_exit ?_))
     refine S_seq ?_
     refine S_seq ?_
     refine S_reg [true, true, true, true] rfl rfl ?_
     refine J_st (R_fieldAddr0 fl33_7 rfl) rfl (J_st (R_load sc31 rfl (h2.one 7 rfl)) rfl (J_st (R_len Try.underlying31 rfl (hd9.ext E).len) rfl (J_st (R_move rfl) rfl (J_done ?_))))
     refine S_block ?_
     refine S_loop (fun (k : Nat) => [(3, .pointer (some ⟨b2, 0, none⟩)), (4, .bool false), (100, o9), (101, .int .i64 ((x.dones.length : Nat) : Int)), (102, .int .i64 ((k : Nat) : Int))]) (fun (k : Nat) w' => Ext w w' ∧ w14.heap.size ≤ w'.heap.size ∧ Blk w' b1 ([o1, .int .i64 g.workers, .int .i64 g.cap]) ∧ Blk w' b2 ([o2, o3, o4, o5, o6, o7, o8, o9]) ∧ k ≤ x.dones.length ∧ allR k (fun j => doneAtOk x.dones j) = true) (fun (k : Nat) => x.dones.length - k) 0 ⟨rfl, rfl, rfl, rfl, rfl, trivial⟩ ⟨E, Nat.le_refl _, h1, h2, Nat.zero_le _, rfl⟩ ?_
     clear E h1 h2
     rintro k w16 ⟨E, z14, h1, h2, hk, hI3⟩
     refine S_seq ?_
     refine S_reg [true] rfl rfl ?_
     refine J_st (R_lss rfl rfl) rfl (J_done ?_)
     refine S_seq ?_
     refine S_cond rfl (fun hc7 => ?_) (fun hc7 => ?_)
     ·have hc7n : k < x.dones.length := by first | (have h := of_decide_eq_true hc7; omega) | (have h := hc7; simp at h; omega)
      refine S_skip ?_
      refine S_seq ?_
      refine S_block ?_
      refine S_seq ?_
      refine S_reg [true, true, true, false, true, false] rfl rfl ?_
      refine J_st (R_move rfl) rfl ?_
      have hi3 : k < x.dones.length := (by first | assumption | omega | (simp only [List.length_set]; first | assumption | omega) | (simp only [List.getElem_set_self, List.length_set]; first | assumption | omega) | (simp only [setW, setLk, List.length_set]; first | assumption | omega) | (simp; done))
      refine J_st (R_index (i := k) sl31 rfl rfl (hd9.rd.ext E) hi3) rfl (J_st (R_loadS st68 rfl ((hd9.rd.ext E).get hi3) rfl) rfl ?_)
      refine J_alloc st68 rfl (fun b4 w17 e10 s4 h4 => ?_)
      have g_b4 : w.heap.size ≤ b4 := by have := E.size; omega
      have y_b4 := h4.lt
      replace E := E.trans e10; replace h1 := h1.ext e10; replace h2 := h2.ext e10
      have z15 := e10.size
      refine J_st (R_assign rfl) rfl ?_
      refine J_storeS' (cs' := [.int .i64 ((x.dones[k]'hi3).epoch), .bool ((x.dones[k]'hi3).capped)]) st68 rfl rfl rfl rfl h4 (Nat.le_of_ble_eq_true rfl) rfl (fun w18 m2 h4' => ?_)
      replace h4 := h4'
      replace E := E.step m2 (fun g hg => by cases hg; omega); replace h1 := h1.mod m2 (fun g hg => by cases hg; omega); replace h2 := h2.mod m2 (fun g hg => by cases hg; omega)
      have z16 := m2.size
      refine J_done ?_
      refine S_seq ?_
      refine S_regD mixed [(0, true), (1, true), (2, false), (3, true), (4, true), (5, true), (6, true), (7, true), (8, true), (9, true), (10, true), (11, false), (12, true)] (by decide +kernel) rfl (fun w19 e11 => ?_)
      replace E := E.trans e11; replace h1 := h1.ext e11; replace h2 := h2.ext e11; replace h4 := h4.ext e11
      have z17 := e11.size
      refine J_st (R_fieldAddr0 fl68_0 rfl) rfl (J_st (R_load sc3 rfl (h4.one 0 rfl)) rfl ?_)
      refine J_call Try.call27 rfl (c_within ((x.dones[k]'hi3).epoch) 0 3 _ ) rfl (fun _ w20 e12 hv => ?_)
      subst hv
      replace E := E.trans e12; replace h1 := h1.ext e12; replace h2 := h2.ext e12; replace h4 := h4.ext e12
      have z18 := e12.size
      refine J_st (R_not rfl) rfl (J_st (R_move rfl) rfl ?_)
      refine J_cut 8 [(3, .pointer (some ⟨b2, 0, none⟩)), (4, .bool false), (9, .int .i64 ((k : Nat) : Int)), (10, .pointer (some ⟨b4, 0, none⟩)), (100, o9), (101, .int .i64 ((x.dones.length : Nat) : Int)), (102, .int .i64 ((k : Nat) : Int)), (103, .bool (decide (((k : Nat) : Int) < ((x.dones.length : Nat) : Int)))), (104, .int .i64 ((k : Nat) : Int)), (105, .pointer (some ⟨sblk o9, soff o9 + k * 2, none⟩)), (106, .agg (Enc.enc (x.dones[k]'hi3)).toArray), (119, .bool ((!(win ((x.dones[k]'hi3).epoch) 0 3)) || ((List.take k x.dones).any (fun d => d.epoch == ((x.dones[k]'hi3).epoch)))))] (fun w' => Ext w w' ∧ w20.heap.size ≤ w'.heap.size ∧ Blk w' b1 ([o1, .int .i64 g.workers, .int .i64 g.cap]) ∧ Blk w' b2 ([o2, o3, o4, o5, o6, o7, o8, o9]) ∧ Blk w' b4 [.int .i64 ((x.dones[k]'hi3).epoch), .bool ((x.dones[k]'hi3).capped)]) ?_ ?_
      ·refine J_if (gd := 111) rfl rfl (fun hg9 => ?_) (fun hg9 => ?_)
       ·refine J_gdno rfl rfl rfl rfl (J_gdno rfl rfl rfl rfl (J_gdno rfl rfl rfl rfl (J_gdno rfl rfl rfl rfl (J_gdno rfl rfl rfl rfl (J_gdno rfl rfl rfl rfl ?_)))))
        refine J_ungno rfl rfl rfl rfl ?_
        refine J_st (R_pickT rfl rfl) rfl (J_cutEnd ⟨rfl, rfl, rfl, rfl, rfl, rfl, rfl, rfl, rfl, rfl, rfl, congrArg (fun b => some (Value.bool b)) (show true = ((!(win ((x.dones[k]'hi3).epoch) 0 3)) || ((List.take k x.dones).any (fun d => d.epoch == ((x.dones[k]'hi3).epoch)))) by first | (rw [hg9] <;> rfl) | (simp [hg9]; done) | (simp only [nat_nlt] <;> simp)), trivial⟩ ⟨E, (by omega), h1, h2, h4⟩)
       ·refine J_gd rfl rfl (R_fieldAddr0 fl33_7 rfl) rfl (J_gd rfl rfl (R_load sc31 rfl (h2.one 7 rfl)) rfl (J_gd rfl rfl (R_move rfl) rfl ?_))
        have hk1 : k ≤ x.dones.length := by first | assumption | omega
        have hs1 : RdD (α := Done) w 0 w.heap.size (slTo o9 k) (List.take k x.dones) := RdB.slTo hd9 hk1
        refine J_gd rfl rfl (R_sliceTo sl31 rfl rfl (RdL.room (hd9.ext E).1) hk1) rfl (J_gd rfl rfl (R_fieldAddr0 fl68_0 rfl) rfl (J_gd rfl rfl (R_load sc3 rfl (h4.one 0 rfl)) rfl ?_))
        refine J_ung rfl rfl ?_
        refine J_call Try.call31 rfl (c_doneAt (slTo o9 k) (List.take k x.dones) ((x.dones[k]'hi3).epoch) _ (hs1.rd.ext E)) rfl (fun _ w22 e13 hv => ?_)
        subst hv
        replace E := E.trans e13; replace h1 := h1.ext e13; replace h2 := h2.ext e13; replace h4 := h4.ext e13
        have z19 := e13.size
        refine J_st (R_pickF rfl rfl) rfl (J_cutEnd ⟨rfl, rfl, rfl, rfl, rfl, rfl, rfl, rfl, rfl, rfl, rfl, congrArg (fun b => some (Value.bool b)) (show ((List.take k x.dones).any (fun d => d.epoch == ((x.dones[k]'hi3).epoch))) = ((!(win ((x.dones[k]'hi3).epoch) 0 3)) || ((List.take k x.dones).any (fun d => d.epoch == ((x.dones[k]'hi3).epoch)))) by first | (rw [hg9] <;> rfl) | (simp [hg9]; done) | (simp only [nat_nlt] <;> simp)), trivial⟩ ⟨E, (by omega), h1, h2, h4⟩)
      clear E h1 h2 h4
      rintro w21 ⟨E, z20, h1, h2, h4⟩
      refine J_done ?_
      refine S_cond rfl (fun hc8 => ?_) (fun hc8 => ?_)
      ·refine S_seq ?_
       refine S_reg [true] rfl rfl ?_
       refine J_st (R_assign rfl) rfl (J_done ?_)
       refine S_ret (E_inB_ret (E_lp_ret (E_inB_ret (E_done1 rfl rfl E ?_))))
       exact bf fun h => by simp only [workerOk, Bool.and_eq_true] at h; obtain ⟨⟨⟨⟨⟨⟨⟨⟨⟨q1, q2⟩, q3⟩, q4⟩, q5⟩, q6⟩, q7⟩, q8⟩, q9⟩, q10⟩ := h; have := allR_get q10 (by assumption); rw [doneAtOk_at (by assumption), hc8] at this; cases this
      ·refine S_skip ?_
       refine S_nil (E_inB ?_)
       refine S_reg [true, true] rfl rfl ?_
       refine J_st (R_add rfl rfl (add_one hc7n (hd9.ext E).1.1)) rfl (J_st (R_move rfl) rfl (J_done ?_))
       refine S_nil (E_again (k + 1) (by omega) ⟨rfl, rfl, rfl, rfl, rfl, trivial⟩ ⟨E, (by omega), h1, h2, (by omega), allR_s hI3 ((doneAtOk_at (by assumption)).trans (congrArg not hc8))⟩)
     ·have hc7n : ¬ k < x.dones.length := by first | (have h := of_decide_eq_false hc7; omega) | (have h := hc7; simp at h; omega)
      refine S_exit (E_lp_exit (E_inB_exit ?_))
      refine S_seq ?_
      refine S_reg [true] rfl rfl ?_
      refine J_st (R_assign rfl) rfl (J_done ?_)
      refine S_ret (E_done1 rfl rfl E ?_)
      exact wk_yes1 hc1 (allR_le hI1 (by omega)) hc4 (all_end hI2 (by omega)) (allR_le hI3 (by omega))

end Go.Proofs.Yteljajfcppmeiaa
