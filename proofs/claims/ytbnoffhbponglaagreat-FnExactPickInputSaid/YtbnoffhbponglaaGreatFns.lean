/- What the functions that the laws call come to: a contract each; no condition. -/
import Derived.Test.YtbnoffhbponglaaGreatTypes
namespace Go.Proofs.YtbnoffhbponglaaGreat
open Go Go.Proofs.YtbnoffhbponglaaGreat.X Go.Proofs
set_option maxRecDepth 20000 in
theorem c_l02Order (a : Int) (b : Int) (w : World)  : Ct Tryz.prog 142 [.int .i64 a, .int .i64 b] w (fun v _ => v = .int .i64 (Xj a b)) := by
 refine Yj Tryz.func142 Z Tryz.ntmps142 Z ?_
 refine Q7 [(0, .int .i64 a), (1, .int .i64 b)] ⟨Z, Z, trivial⟩ ?_
 have E : Ext w w := Ext.refl w
 refine Qf (Qh [true] Z Z (Qa (Qg Z) Z (Qd (Qf (Qy (Qf (Qh [true, true, true, true] Z Z (Qa (Qe Z) Z (Qa (Qe Z) Z (Qa (Yb Z Z) Z (Qa (Qg Z) Z (Qd (Qu Z (fun hc1 => ?_) (fun hc1 => ?_))))))))))))))
 ·refine Qf (Qh [true] Z Z (Qa (Qg Z) Z (Qd (Qw (Qx (Qm Z Z E (congrArg (Value.int .i64) ?_)))))))
  simp at *
  unfold Xj; (repeat' split) <;> first | rfl | omega
 ·refine Qf (Qh [true, true, true, true] Z Z (Qa (Qe Z) Z (Qa (Qe Z) Z (Qa (Xc Z Z) Z (Qa (Qg Z) Z (Qd (Qu Z (fun hc2 => ?_) (fun hc2 => ?_))))))))
  ·refine Qf (Qh [true] Z Z (Qa (Qg Z) Z (Qd (Qw (Qx (Qm Z Z E (congrArg (Value.int .i64) ?_)))))))
   simp at *
   unfold Xj; (repeat' split) <;> first | rfl | omega
  ·refine Qp (Q5 (Yt (Qf (Qh [true] Z Z (Qa (Qg Z) Z (Qd (Qw (Qm Z Z E (congrArg (Value.int .i64) ?_)))))))))
   simp at *
   unfold Xj; (repeat' split) <;> first | rfl | omega

set_option maxRecDepth 20000 in
theorem c_toCell (x : Cell) (w : World)  : Ct Tryz.prog 124 [.agg (Enc.enc x).toArray] w (fun v _ => v = .agg (Enc.enc x).toArray) := by
 refine Yj Tryz.func124 Z Tryz.ntmps124 Z ?_
 refine Q7 [(0, .agg (Enc.enc x).toArray)] ⟨Z, trivial⟩ ?_
 have E : Ext w w := Ext.refl w
 refine Qf (Qh [false, false] Z Z (Yx Z Z (fun b1 w1 e1 s1 h1 => ?_)))
 have g_b1 : w.heap.size ≤ b1 := by have := E.size; omega
 have y_b1 := h1.lt
 replace E := E.trans e1
 have z1 := e1.size
 refine Yu st165 Z (fun b2 w2 e2 s2 h2 => ?_)
 have g_b2 : w.heap.size ≤ b2 := by have := E.size; omega
 have y_b2 := h2.lt
 replace E := E.trans e2; replace h1 := h1.ext e2
 have z2 := e2.size
 refine Qd (Qf (Qh [false] Z Z (Yu st165 Z (fun b3 w3 e3 s3 h3 => ?_))))
 have g_b3 : w.heap.size ≤ b3 := by have := E.size; omega
 have y_b3 := h3.lt
 replace E := E.trans e3; replace h1 := h1.ext e3; replace h2 := h2.ext e3
 have z3 := e3.size
 refine Qd (Qf (Qh [true, true, true, false] Z Z (Qa (Qb fl173_0 Z) Z (Qa (Qi Yk Z (h1.one 0 Z)) Z (Qa (Qb fl165_0 Z) Z (Ye (cs' := [.int .i64 x.op, .int .i64 0, .int .i64 0, .int .i64 0]) Yk Z Z Z h3 (Nat.le_of_ble_eq_true Z) Z (fun w4 m1 h3' => ?_)))))))
 replace h3 := h3'
 replace E := E.step m1 (fun g hg => by cases hg; omega); replace h1 := h1.mod m1 (fun g hg => by cases hg; omega); replace h2 := h2.mod m1 (fun g hg => by cases hg; omega)
 have z4 := m1.size
 refine Qd (Qf (Qh [true, true, true, false] Z Z (Qa (Qb fl173_1 Z) Z (Qa (Qi Yk Z (h1.one 1 Z)) Z (Qa (Qb fl165_1 Z) Z (Ye (cs' := [.int .i64 x.op, .int .i64 x.epoch, .int .i64 0, .int .i64 0]) Yk Z Z Z h3 (Nat.le_of_ble_eq_true Z) Z (fun w5 m2 h3' => ?_)))))))
 replace h3 := h3'
 replace E := E.step m2 (fun g hg => by cases hg; omega); replace h1 := h1.mod m2 (fun g hg => by cases hg; omega); replace h2 := h2.mod m2 (fun g hg => by cases hg; omega)
 have z5 := m2.size
 refine Qd (Qf (Qh [true, true, true, false] Z Z (Qa (Qb fl173_2 Z) Z (Qa (Qi Yk Z (h1.one 2 Z)) Z (Qa (Qb fl165_2 Z) Z (Ye (cs' := [.int .i64 x.op, .int .i64 x.epoch, .int .i64 x.key, .int .i64 0]) Yk Z Z Z h3 (Nat.le_of_ble_eq_true Z) Z (fun w6 m3 h3' => ?_)))))))
 replace h3 := h3'
 replace E := E.step m3 (fun g hg => by cases hg; omega); replace h1 := h1.mod m3 (fun g hg => by cases hg; omega); replace h2 := h2.mod m3 (fun g hg => by cases hg; omega)
 have z6 := m3.size
 refine Qd (Qf (Qh [true, true, true, false] Z Z (Qa (Qb fl173_3 Z) Z (Qa (Qi Yk Z (h1.one 3 Z)) Z (Qa (Qb fl165_3 Z) Z (Ye (cs' := [.int .i64 x.op, .int .i64 x.epoch, .int .i64 x.key, .int .i64 x.val]) Yk Z Z Z h3 (Nat.le_of_ble_eq_true Z) Z (fun w7 m4 h3' => ?_)))))))
 replace h3 := h3'
 replace E := E.step m4 (fun g hg => by cases hg; omega); replace h1 := h1.mod m4 (fun g hg => by cases hg; omega); replace h2 := h2.mod m4 (fun g hg => by cases hg; omega)
 have z7 := m4.size
 refine Qd (Qf (Qh [true, false] Z Z (Qa (Q1 st165 Z h3.at Z) Z (Ya (cs' := [.int .i64 x.op, .int .i64 x.epoch, .int .i64 x.key, .int .i64 x.val]) st165 Z Z Z Z h2 (Nat.le_of_ble_eq_true Z) Z (fun w8 m5 h2' => ?_)))))
 replace h2 := h2'
 replace E := E.step m5 (fun g hg => by cases hg; omega); replace h1 := h1.mod m5 (fun g hg => by cases hg; omega); replace h3 := h3.mod m5 (fun g hg => by cases hg; omega)
 have z8 := m5.size
 refine Qd (Qw (Xi Z Z (Ys st165 h2.at Z) E ?_))
 rfl

set_option maxRecDepth 20000 in
theorem c_eqCell (x : Cell) (y : Cell) (w : World)  : Ct Tryz.prog 132 [.agg (Enc.enc x).toArray, .agg (Enc.enc y).toArray] w (fun v _ => v = .bool (decide (x = y))) := by
 refine Yj Tryz.func132 Z Tryz.ntmps132 Z ?_
 refine Q7 [(0, .agg (Enc.enc x).toArray), (1, .agg (Enc.enc y).toArray)] ⟨Z, Z, trivial⟩ ?_
 have E : Ext w w := Ext.refl w
 refine Qf (Qh [false, false, true] Z Z (Yx Z Z (fun b1 w1 e1 s1 h1 => ?_)))
 have g_b1 : w.heap.size ≤ b1 := by have := E.size; omega
 have y_b1 := h1.lt
 replace E := E.trans e1
 have z1 := e1.size
 refine Yx Z Z (fun b2 w2 e2 s2 h2 => ?_)
 have g_b2 : w.heap.size ≤ b2 := by have := E.size; omega
 have y_b2 := h2.lt
 replace E := E.trans e2; replace h1 := h1.ext e2
 have z2 := e2.size
 refine Qa (Qg Z) Z (Qd (Qf (Qf (Qh [true, true, true, true, true] Z Z (Qa (Qb fl165_0 Z) Z (Qa (Qi Yk Z (h1.one 0 Z)) Z (Qa (Qb fl165_0 Z) Z (Qa (Qi Yk Z (h2.one 0 Z)) Z (Qa (Yr Z Z) Z (Qd (Qu Z (fun hc1 => ?_) (fun hc1 => ?_))))))))))))
 ·refine Qf (Qh [true] Z Z (Qa (Qg Z) Z (Qd (Qw (Qm Z Z E ?_)))))
  cases x; cases y; simp_all
 ·refine Qp (Qf (Qf (Qh [true, true, true, true, true] Z Z (Qa (Qb fl165_1 Z) Z (Qa (Qi Yk Z (h1.one 1 Z)) Z (Qa (Qb fl165_1 Z) Z (Qa (Qi Yk Z (h2.one 1 Z)) Z (Qa (Yr Z Z) Z (Qd (Qu Z (fun hc2 => ?_) (fun hc2 => ?_)))))))))))
  ·refine Qf (Qh [true] Z Z (Qa (Qg Z) Z (Qd (Qw (Qm Z Z E ?_)))))
   cases x; cases y; simp_all
  ·refine Qp (Qf (Qf (Qh [true, true, true, true, true] Z Z (Qa (Qb fl165_2 Z) Z (Qa (Qi Yk Z (h1.one 2 Z)) Z (Qa (Qb fl165_2 Z) Z (Qa (Qi Yk Z (h2.one 2 Z)) Z (Qa (Yr Z Z) Z (Qd (Qu Z (fun hc3 => ?_) (fun hc3 => ?_)))))))))))
   ·refine Qf (Qh [true] Z Z (Qa (Qg Z) Z (Qd (Qw (Qm Z Z E ?_)))))
    cases x; cases y; simp_all
   ·refine Qp (Qf (Qf (Qh [true, true, true, true, true] Z Z (Qa (Qb fl165_3 Z) Z (Qa (Qi Yk Z (h1.one 3 Z)) Z (Qa (Qb fl165_3 Z) Z (Qa (Qi Yk Z (h2.one 3 Z)) Z (Qa (Yr Z Z) Z (Qd (Qu Z (fun hc4 => ?_) (fun hc4 => ?_)))))))))))
    ·refine Qf (Qh [true] Z Z (Qa (Qg Z) Z (Qd (Qw (Qm Z Z E ?_)))))
     cases x; cases y; simp_all
    ·refine Qp (Qf (Qh [true] Z Z (Qa (Qg Z) Z (Qd (Qw (Qm Z Z E ?_))))))
     cases x; cases y; simp_all

set_option maxRecDepth 20000 in
theorem c_szCellS (vxs : Value) (xs : List Cell) (n : Int) (w : World) (hxs : RdS w vxs xs) (h0 : 0 ≤ n ∧ n ≤ 1048576) : Ct Tryz.prog 88 [vxs, .int .i64 n] w (fun v _ => v = .int .i64 (Kh xs.length n)) := by
 refine Yj Tryz.func88 Z Tryz.ntmps88 Z ?_
 refine Q7 [(0, vxs), (1, .int .i64 n)] ⟨Z, Z, trivial⟩ ?_
 have E : Ext w w := Ext.refl w
 refine Qf (Qh [true] Z Z (Qa (Qg Z) Z (Qd (Qf (Qh [true, true, true, true, true] Z Z (Qa (Qe Z) Z (Qa (Qe Z) Z (Qa (Q4 Tryz.underlying94 Z (hxs.ext E).len) Z (Qa (Ka Z Z Z) Z (Qa (Qg Z) Z (Qd (Qf (Qf (Qh [true, true] Z Z (Qa (Qe Z) Z (Qa (Yb Z Z) Z (Qd (Qu Z (fun hc1 => ?_) (fun hc1 => ?_)))))))))))))))))))
 ·refine Qf (Qh [true] Z Z (Qa (Qg Z) Z (Qd (Qw (Qm Z Z E ?_)))))
  exact sz_no h0.2 h0.1 hxs.1 hc1
 ·refine Qp (Qf (Qh [true, true] Z Z (Qa (Qe Z) Z (Qa (Qg Z) Z (Qd (Qw (Qm Z Z E ?_)))))))
  exact sz_yes h0.2 h0.1 hxs.1 hc1

set_option maxRecDepth 20000 in
theorem c_eqCellS (vxs : Value) (xs : List Cell) (vys : Value) (ys : List Cell) (w : World) (hxs : RdS w vxs xs) (hys : RdS w vys ys) : Ct Tryz.prog 115 [vxs, vys] w (fun v _ => v = .bool (decide (xs = ys))) := by
 refine Yj Tryz.func115 Z Tryz.ntmps115 Z ?_
 refine Q7 [(0, vxs), (1, vys)] ⟨Z, Z, trivial⟩ ?_
 have E : Ext w w := Ext.refl w
 refine Qf (Qh [true] Z Z (Qa (Qg Z) Z (Qd (Qf (Qf (Qh [true, true, true, true, true] Z Z (Qa (Qe Z) Z (Qa (Q4 Tryz.underlying67 Z (hxs.ext E).len) Z (Qa (Qe Z) Z (Qa (Q4 Tryz.underlying67 Z (hys.ext E).len) Z (Qa (Yr Z Z) Z (Qd (Qu Z (fun hc1 => ?_) (fun hc1 => ?_))))))))))))))
 ·have hc1n : ¬ xs.length = ys.length := by first | (have h := of_decide_eq_true hc1; omega) | (have h := hc1; simp at h; omega)
  refine Qf (Qh [true] Z Z (Qa (Qg Z) Z (Qd (Qw (Qm Z Z E ?_)))))
  simp [eq_len hc1n]
 ·have hc1n : xs.length = ys.length := by first | (have h := of_decide_eq_false hc1; omega) | (have h := hc1; simp at h; omega)
  refine Qp (Qf (Qf (Qh [true] Z Z (Qa (Qg Z) Z (Qd (Qy (Yh (fun (k : Nat) => [(0, vxs), (1, vys), (4, .bool false), (5, .int .i64 ((k : Nat) : Int))]) (fun (k : Nat) w' => Ext w w' ∧ w.heap.size ≤ w'.heap.size ∧ k ≤ xs.length ∧ xs.take k = ys.take k) (fun (k : Nat) => xs.length - k) 0 ⟨Z, Z, Z, Z, trivial⟩ ⟨E, Nat.le_refl _, Nat.zero_le _, Z⟩ ?_)))))))
  clear E
  rintro k w1 ⟨E, z1, hk, hp⟩
  refine Qf (Qf (Qh [true, true, true, true] Z Z (Qa (Qe Z) Z (Qa (Qe Z) Z (Qa (Q4 Tryz.underlying67 Z (hxs.ext E).len) Z (Qa (Yb Z Z) Z (Qd (Qu Z (fun hc2 => ?_) (fun hc2 => ?_)))))))))
  ·have hc2n : k < xs.length := by first | (have h := of_decide_eq_true hc2; omega) | (have h := hc2; simp at h; omega)
   refine Qp (Qf (Qy (Qf (Y7 Y8 [(0, true), (1, true), (2, true), (3, true), (4, true), (5, true), (6, true), (7, true), (8, false), (9, true)] (by decide +kernel) Z (fun w2 e1 => ?_)))))
   replace E := E.trans e1
   have z2 := e1.size
   refine Qa (Qe Z) Z (Qa (Qe Z) Z ?_)
   have hi1 : k < xs.length := (by first | assumption | omega | (simp only [List.length_set]; first | assumption | omega))
   refine Qa (Qv (i := k) sl67 Z Z (hxs.ext E) hi1) Z (Qa (Q1 st165 Z ((hxs.ext E).get hi1) Z) Z (Qa (Qe Z) Z (Qa (Qe Z) Z ?_)))
   have hi2 : k < ys.length := (by first | assumption | omega | (simp only [List.length_set]; first | assumption | omega))
   refine Qa (Qv (i := k) sl67 Z Z (hys.ext E) hi2) Z (Qa (Q1 st165 Z ((hys.ext E).get hi2) Z) Z (Q0 Tryz.call132 Z (c_eqCell (xs[k]'hi1) (ys[k]'hi2) _ ) Z (fun _ w3 e2 hv => ?_)))
   subst hv
   replace E := E.trans e2
   have z3 := e2.size
   refine Qa (Yn Z) Z (Qd (Qu Z (fun hc3 => ?_) (fun hc3 => ?_)))
   ·refine Qf (Qh [true] Z Z (Qa (Qg Z) Z (Qd (Qw (Qx (Yg (Qx (Qm Z Z E ?_))))))))
    exact eqS_no (by omega) (by omega) (by simpa using hc3)
   ·refine Qp (Q5 (Yt (Qh [true, true, true] Z Z (Qa (Qe Z) Z (Qa (Q8 Z Z (Yq hc2n hxs.1)) Z (Qa (Qg Z) Z (Qd (Q5 (Q9 (k + 1) (by omega) ⟨Z, Z, Z, Z, trivial⟩ ⟨E, (by omega), (by omega), eqS_step hp (by assumption) (by omega) (by simpa using hc3)⟩)))))))))
  ·have hc2n : ¬ k < xs.length := by first | (have h := of_decide_eq_false hc2; omega) | (have h := hc2; simp at h; omega)
   refine Yi (Q3 (Q2 ?_))
   refine Qf (Qh [true] Z Z (Qa (Qg Z) Z (Qd (Qw (Qm Z Z E ?_)))))
   exact eqS_yes hp hc1n (by omega)

set_option maxRecDepth 20000 in
theorem c_isNaN (a : Int) (w : World)  : Ct Tryz.prog 145 [.int .i64 a] w (fun v _ => v = .bool false) := by
 refine Yj Tryz.func145 Z Tryz.ntmps145 Z ?_
 refine Q7 [(0, .int .i64 a)] ⟨Z, trivial⟩ ?_
 have E : Ext w w := Ext.refl w
 refine Qf (Qh [true] Z Z (Qa (Qg Z) Z (Qd (Qf (Qh [true, true, true, true] Z Z (Qa (Qe Z) Z (Qa (Qe Z) Z (Qa (Yr Z Z) Z (Qa (Qg Z) Z (Qd (Qw (Qm Z Z E ?_))))))))))))
 simp

set_option maxRecDepth 20000 in
theorem c_cmpCompare (a : Int) (b : Int) (w : World)  : Ct Tryz.prog 144 [.int .i64 a, .int .i64 b] w (fun v _ => v = .int .i64 (Xj a b)) := by
 refine Yj Tryz.func144 Z Tryz.ntmps144 Z ?_
 refine Q7 [(0, .int .i64 a), (1, .int .i64 b)] ⟨Z, Z, trivial⟩ ?_
 have E : Ext w w := Ext.refl w
 refine Qf (Qh [true] Z Z (Qa (Qg Z) Z (Qd (Qf (Qh [true, false, true] Z Z (Qa (Qe Z) Z (Q0 Tryz.call145 Z (c_isNaN a _ ) Z (fun _ w1 e1 hv => ?_))))))))
 subst hv
 replace E := E.trans e1
 have z1 := e1.size
 refine Qa (Qg Z) Z (Qd (Qf (Qh [true, false, true] Z Z (Qa (Qe Z) Z (Q0 Tryz.call145 Z (c_isNaN b _ ) Z (fun _ w2 e2 hv => ?_))))))
 subst hv
 replace E := E.trans e2
 have z2 := e2.size
 refine Qa (Qg Z) Z (Qd (Qf (Qf (Qh [true] Z Z (Qa (Qe Z) Z (Qd (S_condF Z (Qp (Qf (Qf (Qh [true] Z Z (Qa (Qe Z) Z (Qd (S_condF Z (Qp (Qf (Qf (Qh [true, true, true] Z Z (Qa (Qe Z) Z (Qa (Qe Z) Z (Qa (Yb Z Z) Z (Qd (Qu Z (fun hc1 => ?_) (fun hc1 => ?_))))))))))))))))))))))))
 ·refine Qf (Qh [true] Z Z (Qa (Qg Z) Z (Qd (Qw (Qm Z Z E (congrArg (Value.int .i64) ?_))))))
  simp at *
  unfold Xj; (repeat' split) <;> first | rfl | omega
 ·refine Qp (Qf (Qf (Qh [true, true, true] Z Z (Qa (Qe Z) Z (Qa (Qe Z) Z (Qa (Xc Z Z) Z (Qd (Qu Z (fun hc2 => ?_) (fun hc2 => ?_)))))))))
  ·refine Qf (Qh [true] Z Z (Qa (Qg Z) Z (Qd (Qw (Qm Z Z E (congrArg (Value.int .i64) ?_))))))
   simp at *
   unfold Xj; (repeat' split) <;> first | rfl | omega
  ·refine Qp (Qf (Qh [true] Z Z (Qa (Qg Z) Z (Qd (Qw (Qm Z Z E (congrArg (Value.int .i64) ?_)))))))
   simp at *
   unfold Xj; (repeat' split) <;> first | rfl | omega

set_option maxRecDepth 20000 in
theorem c_slicesCompare (vxs : Value) (xs : List Int) (vys : Value) (ys : List Int) (w : World) (hxs : RdS w vxs xs) (hys : RdS w vys ys) : Ct Tryz.prog 143 [vxs, vys] w (fun v _ => v = .int .i64 (cmpL xs ys)) := by
 refine Yj Tryz.func143 Z Tryz.ntmps143 Z ?_
 refine Q7 [(0, vxs), (1, vys)] ⟨Z, Z, trivial⟩ ?_
 have E : Ext w w := Ext.refl w
 refine Qf (Qh [true] Z Z (Qa (Qg Z) Z (Qd (Qf (Qf (Qh [true, true, true] Z Z (Qa (Qe Z) Z (Qa (Q4 Tryz.underlying68 Z (hxs.ext E).len) Z (Qa (Qe Z) Z (Qd (Qy (Yh (fun (k : Nat) => [(0, vxs), (1, vys), (4, .int .i64 0), (9, vxs), (10, .int .i64 ((xs.length : Nat) : Int)), (11, .int .i64 ((k : Nat) : Int))]) (fun (k : Nat) w' => Ext w w' ∧ w.heap.size ≤ w'.heap.size ∧ k ≤ xs.length ∧ k ≤ ys.length ∧ cmpL (xs.drop k) (ys.drop k) = cmpL xs ys) (fun (k : Nat) => xs.length - k) 0 ⟨Z, Z, Z, Z, Z, Z, trivial⟩ ⟨E, Nat.le_refl _, Nat.zero_le _, Nat.zero_le _, Z⟩ ?_))))))))))))
 clear E
 rintro k w1 ⟨E, z1, hk, hky, hI⟩
 refine Qf (Qh [true] Z Z (Qa (Yb Z Z) Z (Qd (Qf (Qu Z (fun hc1 => ?_) (fun hc1 => ?_))))))
 ·have hc1n : k < xs.length := by first | (have h := of_decide_eq_true hc1; omega) | (have h := hc1; simp at h; omega)
  refine Qp (Qf (Qy (Qf (Qh [true, true, true, true, true] Z Z (Qa (Qe Z) Z ?_)))))
  have hi1 : k < xs.length := (by first | assumption | omega | (simp only [List.length_set]; first | assumption | omega))
  refine Qa (Qv (i := k) Y5 Z Z (hxs.ext E) hi1) Z (Qa (Qi Yk Z (((hxs.ext E).get hi1).one 0 Z)) Z (Qa (Qg Z) Z (Qa (Qg Z) Z (Qd (Qf (Qf (Qh [true, true, true, true] Z Z (Qa (Qe Z) Z (Qa (Qe Z) Z (Qa (Q4 Tryz.underlying68 Z (hys.ext E).len) Z (Qa (R_geq Z Z) Z (Qd (Qu Z (fun hc2 => ?_) (fun hc2 => ?_))))))))))))))
  ·have hc2n : k ≥ ys.length := by first | (have h := of_decide_eq_true hc2; omega) | (have h := hc2; simp at h; omega)
   refine Qf (Qh [true] Z Z (Qa (Qg Z) Z (Qd (Qw (Qx (Yg (Qx (Qm Z Z E ?_))))))))
   exact cmpL_1 hI (by omega) (by omega)
  ·have hc2n : ¬ k ≥ ys.length := by first | (have h := of_decide_eq_false hc2; omega) | (have h := hc2; simp at h; omega)
   refine Qp (Qf (Qh [true, true, true, true, true] Z Z (Qa (Qe Z) Z (Qa (Qe Z) Z ?_))))
   have hi2 : k < ys.length := (by first | assumption | omega | (simp only [List.length_set]; first | assumption | omega))
   refine Qa (Qv (i := k) Y5 Z Z (hys.ext E) hi2) Z (Qa (Qi Yk Z (((hys.ext E).get hi2).one 0 Z)) Z (Qa (Qg Z) Z (Qd (Qf (Qh [true, true, false, true] Z Z (Qa (Qe Z) Z (Qa (Qe Z) Z (Q0 Tryz.call144 Z (c_cmpCompare (xs[k]'hi1) (ys[k]'hi2) _ ) Z (fun _ w2 e1 hv => ?_)))))))))
   subst hv
   replace E := E.trans e1
   have z2 := e1.size
   refine Qa (Qg Z) Z (Qd (Qf (Qh [true, true] Z Z (Qa (Qe Z) Z (Qa (Yr Z Z) Z (Qd (Qu Z (fun hc3 => ?_) (fun hc3 => ?_))))))))
   ·refine Qf (Qh [true, true] Z Z (Qa (Qe Z) Z (Qa (Qg Z) Z (Qd (Qw (Qx (Yg (Qx (Qm Z Z E ?_)))))))))
    exact cmpL_2 hI (by omega) (by omega) (by simpa using hc3)
   ·refine Qp (Q5 (Yt (Qh [true, true] Z Z (Qa (Q8 Z Z (Yq hc1n hxs.1)) Z (Qa (Qe Z) Z (Qd (Q5 (Q9 (k + 1) (by omega) ⟨Z, Z, Z, Z, Z, Z, trivial⟩ ⟨E, (by omega), (by omega), (by omega), cmpL_step hI (by omega) (by omega) (by simpa using hc3)⟩))))))))
 ·have hc1n : ¬ k < xs.length := by first | (have h := of_decide_eq_false hc1; omega) | (have h := hc1; simp at h; omega)
  refine Yi (Q3 (Q2 ?_))
  refine Qf (Qf (Qh [true, true, true, true, true] Z Z (Qa (Qe Z) Z (Qa (Q4 Tryz.underlying68 Z (hxs.ext E).len) Z (Qa (Qe Z) Z (Qa (Q4 Tryz.underlying68 Z (hys.ext E).len) Z (Qa (Yb Z Z) Z (Qd (Qu Z (fun hc4 => ?_) (fun hc4 => ?_))))))))))
  ·have hc4n : xs.length < ys.length := by first | (have h := of_decide_eq_true hc4; omega) | (have h := hc4; simp at h; omega)
   refine Qf (Qh [true] Z Z (Qa (Qg Z) Z (Qd (Qw (Qm Z Z E ?_)))))
   exact cmpL_3 hI (by omega) (by omega)
  ·have hc4n : ¬ xs.length < ys.length := by first | (have h := of_decide_eq_false hc4; omega) | (have h := hc4; simp at h; omega)
   refine Qp (Qf (Qh [true] Z Z (Qa (Qg Z) Z (Qd (Qw (Qm Z Z E ?_))))))
   exact cmpL_4 hI (by omega) (by omega)

set_option maxRecDepth 20000 in
theorem c_orderOf (vxs : Value) (xs : List Int) (vys : Value) (ys : List Int) (w : World) (hxs : RdS w vxs xs) (hys : RdS w vys ys) : Ct Tryz.prog 139 [vxs, vys] w (fun v _ => v = .int .i64 (cmpL xs ys)) := by
 refine Yj Tryz.func139 Z Tryz.ntmps139 Z ?_
 refine Q7 [(0, vxs), (1, vys)] ⟨Z, Z, trivial⟩ ?_
 have E : Ext w w := Ext.refl w
 refine Qf (Qh [true] Z Z (Qa (Qg Z) Z (Qd (Qf (Qh [true, true, false, true] Z Z (Qa (Qe Z) Z (Qa (Qe Z) Z (Q0 Tryz.call143 Z (c_slicesCompare vxs xs vys ys _ (hxs.ext E) (hys.ext E)) Z (fun _ w1 e1 hv => ?_)))))))))
 subst hv
 replace E := E.trans e1
 have z1 := e1.size
 refine Qa (Qg Z) Z (Qd (Qw (Qm Z Z E ?_)))
 rfl

set_option maxRecDepth 20000 in
theorem c_CellOrder (x : Cell) (y : Cell) (w : World)  : Ct Tryz.prog 128 [.agg (Enc.enc x).toArray, .agg (Enc.enc y).toArray] w (fun v _ => v = .int .i64 (cellOrd x y)) := by
 refine Yj Tryz.func128 Z Tryz.ntmps128 Z ?_
 refine Q7 [(0, .agg (Enc.enc x).toArray), (1, .agg (Enc.enc y).toArray)] ⟨Z, Z, trivial⟩ ?_
 have E : Ext w w := Ext.refl w
 refine Qf (Qh [false, false, true] Z Z (Yx Z Z (fun b1 w1 e1 s1 h1 => ?_)))
 have g_b1 : w.heap.size ≤ b1 := by have := E.size; omega
 have y_b1 := h1.lt
 replace E := E.trans e1
 have z1 := e1.size
 refine Yx Z Z (fun b2 w2 e2 s2 h2 => ?_)
 have g_b2 : w.heap.size ≤ b2 := by have := E.size; omega
 have y_b2 := h2.lt
 replace E := E.trans e2; replace h1 := h1.ext e2
 have z2 := e2.size
 refine Qa (Qg Z) Z (Qd (Qf (Qh [true, true, true, true, true, true, true, true, false, true, true, true, true, true, true, true, true, false, false, true] Z Z (Qa (Qb fl165_1 Z) Z (Qa (Qi Yk Z (h1.one 1 Z)) Z (Qa (Qb fl165_0 Z) Z (Qa (Qi Yk Z (h1.one 0 Z)) Z (Qa (Qb fl165_2 Z) Z (Qa (Qi Yk Z (h1.one 2 Z)) Z (Qa (Qb fl165_3 Z) Z (Qa (Qi Yk Z (h1.one 3 Z)) Z (Y1 (vs := [.int .i64 x.epoch, .int .i64 x.op, .int .i64 x.key, .int .i64 x.val]) (css := [[.int .i64 x.epoch], [.int .i64 x.op], [.int .i64 x.key], [.int .i64 x.val]]) Y5 Z Z ⟨⟨Z, Z⟩, ⟨Z, Z⟩, ⟨Z, Z⟩, ⟨Z, Z⟩, trivial⟩ Z Z (fun b3 w3 e3 s3 h3 => ?_)))))))))))))
 replace h3 : Blk w3 b3 [.int .i64 x.epoch, .int .i64 x.op, .int .i64 x.key, .int .i64 x.val] := h3
 have g_b3 : w.heap.size ≤ b3 := by have := E.size; omega
 have y_b3 := h3.lt
 replace E := E.trans e3; replace h1 := h1.ext e3; replace h2 := h2.ext e3
 have z3 := e3.size
 refine Qa (Qb fl165_1 Z) Z (Qa (Qi Yk Z (h2.one 1 Z)) Z (Qa (Qb fl165_0 Z) Z (Qa (Qi Yk Z (h2.one 0 Z)) Z (Qa (Qb fl165_2 Z) Z (Qa (Qi Yk Z (h2.one 2 Z)) Z (Qa (Qb fl165_3 Z) Z (Qa (Qi Yk Z (h2.one 3 Z)) Z (Y1 (vs := [.int .i64 y.epoch, .int .i64 y.op, .int .i64 y.key, .int .i64 y.val]) (css := [[.int .i64 y.epoch], [.int .i64 y.op], [.int .i64 y.key], [.int .i64 y.val]]) Y5 Z Z ⟨⟨Z, Z⟩, ⟨Z, Z⟩, ⟨Z, Z⟩, ⟨Z, Z⟩, trivial⟩ Z Z (fun b4 w4 e4 s4 h4 => ?_)))))))))
 replace h4 : Blk w4 b4 [.int .i64 y.epoch, .int .i64 y.op, .int .i64 y.key, .int .i64 y.val] := h4
 have g_b4 : w.heap.size ≤ b4 := by have := E.size; omega
 have y_b4 := h4.lt
 replace E := E.trans e4; replace h1 := h1.ext e4; replace h2 := h2.ext e4; replace h3 := h3.ext e4
 have z4 := e4.size
 refine Q0 Tryz.call139 Z (c_orderOf (.slice (some ⟨b3, 0, none⟩) 4 4) [x.epoch, x.op, x.key, x.val] (.slice (some ⟨b4, 0, none⟩) 4 4) [y.epoch, y.op, y.key, y.val] _ (Blk.rd (α := Int) (xs := [x.epoch, x.op, x.key, x.val]) (by decide) h3 Z (by simp [maxLen])) (Blk.rd (α := Int) (xs := [y.epoch, y.op, y.key, y.val]) (by decide) h4 Z (by simp [maxLen]))) Z (fun _ w5 e5 hv => ?_)
 subst hv
 replace E := E.trans e5; replace h1 := h1.ext e5; replace h2 := h2.ext e5; replace h3 := h3.ext e5; replace h4 := h4.ext e5
 have z5 := e5.size
 refine Qa (Qg Z) Z (Qd (Qw (Qm Z Z E ?_)))
 rfl

set_option maxRecDepth 20000 in
theorem s_CellOrder (x : Cell) (y : Cell) (w : World)  : Ct Tryz.prog 134 [.agg (Enc.enc x).toArray, .agg (Enc.enc y).toArray] w (fun v _ => v = .int .i64 (cellOrd x y)) := by
 refine Yj Tryz.func134 Z Tryz.ntmps134 Z ?_
 refine Q7 [(0, .agg (Enc.enc x).toArray), (1, .agg (Enc.enc y).toArray)] ⟨Z, Z, trivial⟩ ?_
 have E : Ext w w := Ext.refl w
 refine Qf (Qh [false, false, true] Z Z (Yx Z Z (fun b1 w1 e1 s1 h1 => ?_)))
 have g_b1 : w.heap.size ≤ b1 := by have := E.size; omega
 have y_b1 := h1.lt
 replace E := E.trans e1
 have z1 := e1.size
 refine Yx Z Z (fun b2 w2 e2 s2 h2 => ?_)
 have g_b2 : w.heap.size ≤ b2 := by have := E.size; omega
 have y_b2 := h2.lt
 replace E := E.trans e2; replace h1 := h1.ext e2
 have z2 := e2.size
 refine Qa (Qg Z) Z (Qd (Qf (Y7 Y8 [(0, true), (1, true), (2, true), (3, true), (5, true), (6, true), (7, true), (8, true), (10, true), (11, true), (12, true), (13, true), (15, true), (16, true), (17, true), (18, true), (4, false), (9, false), (14, false), (19, false), (20, false), (21, true)] (by decide +kernel) Z (fun w3 e3 => ?_))))
 replace E := E.trans e3; replace h1 := h1.ext e3; replace h2 := h2.ext e3
 have z3 := e3.size
 refine Qa (Qb fl165_1 Z) Z (Qa (Qi Yk Z (h1.one 1 Z)) Z (Qa (Qb fl165_1 Z) Z (Qa (Qi Yk Z (h2.one 1 Z)) Z (Qa (Qb fl165_0 Z) Z (Qa (Qi Yk Z (h1.one 0 Z)) Z (Qa (Qb fl165_0 Z) Z (Qa (Qi Yk Z (h2.one 0 Z)) Z (Qa (Qb fl165_2 Z) Z (Qa (Qi Yk Z (h1.one 2 Z)) Z (Qa (Qb fl165_2 Z) Z (Qa (Qi Yk Z (h2.one 2 Z)) Z (Qa (Qb fl165_3 Z) Z (Qa (Qi Yk Z (h1.one 3 Z)) Z (Qa (Qb fl165_3 Z) Z (Qa (Qi Yk Z (h2.one 3 Z)) Z (Q0 Tryz.call142 Z (c_l02Order x.epoch y.epoch _ ) Z (fun _ w4 e4 hv => ?_)))))))))))))))))
 subst hv
 replace E := E.trans e4; replace h1 := h1.ext e4; replace h2 := h2.ext e4
 have z4 := e4.size
 refine Q0 Tryz.call142 Z (c_l02Order x.op y.op _ ) Z (fun _ w5 e5 hv => ?_)
 subst hv
 replace E := E.trans e5; replace h1 := h1.ext e5; replace h2 := h2.ext e5
 have z5 := e5.size
 refine Q0 Tryz.call142 Z (c_l02Order x.key y.key _ ) Z (fun _ w6 e6 hv => ?_)
 subst hv
 replace E := E.trans e6; replace h1 := h1.ext e6; replace h2 := h2.ext e6
 have z6 := e6.size
 refine Q0 Tryz.call142 Z (c_l02Order x.val y.val _ ) Z (fun _ w7 e7 hv => ?_)
 subst hv
 replace E := E.trans e7; replace h1 := h1.ext e7; replace h2 := h2.ext e7
 have z7 := e7.size
 refine Y1 (vs := [.int .i64 (Xj x.epoch y.epoch), .int .i64 (Xj x.op y.op), .int .i64 (Xj x.key y.key), .int .i64 (Xj x.val y.val)]) (css := [[.int .i64 (Xj x.epoch y.epoch)], [.int .i64 (Xj x.op y.op)], [.int .i64 (Xj x.key y.key)], [.int .i64 (Xj x.val y.val)]]) Y5 Z Z ⟨⟨Z, Z⟩, ⟨Z, Z⟩, ⟨Z, Z⟩, ⟨Z, Z⟩, trivial⟩ Z Z (fun b3 w8 e8 s3 h3 => ?_)
 replace h3 : Blk w8 b3 [.int .i64 (Xj x.epoch y.epoch), .int .i64 (Xj x.op y.op), .int .i64 (Xj x.key y.key), .int .i64 (Xj x.val y.val)] := h3
 have g_b3 : w.heap.size ≤ b3 := by have := E.size; omega
 have y_b3 := h3.lt
 replace E := E.trans e8; replace h1 := h1.ext e8; replace h2 := h2.ext e8
 have z8 := e8.size
 refine Qa (Qg Z) Z (Qd (Qf (Qf (Qh [true] Z Z (Qa (Qg Z) Z (Qd (Qy (Yh (fun (k : Nat) => [(4, .int .i64 0), (5, .slice (some ⟨b3, 0, none⟩) 4 4), (6, .int .i64 ((k : Nat) : Int))]) (fun (k : Nat) w' => Ext w w' ∧ w8.heap.size ≤ w'.heap.size ∧ Blk w' b1 (Enc.enc x) ∧ Blk w' b2 (Enc.enc y) ∧ Blk w' b3 [.int .i64 (Xj x.epoch y.epoch), .int .i64 (Xj x.op y.op), .int .i64 (Xj x.key y.key), .int .i64 (Xj x.val y.val)] ∧ k ≤ 4 ∧ firstNZ (List.drop k [Xj x.epoch y.epoch, Xj x.op y.op, Xj x.key y.key, Xj x.val y.val]) = firstNZ [Xj x.epoch y.epoch, Xj x.op y.op, Xj x.key y.key, Xj x.val y.val]) (fun (k : Nat) => 4 - k) 0 ⟨Z, Z, Z, trivial⟩ ⟨E, Nat.le_refl _, h1, h2, h3, Nat.zero_le _, Z⟩ ?_))))))))
 clear E h1 h2 h3
 rintro k w9 ⟨E, z9, h1, h2, h3, hk, hI⟩
 refine Qf (Qf (Qh [true, true] Z Z (Qa (Qe Z) Z (Qa (Yb Z Z) Z (Qd (Qu Z (fun hc1 => ?_) (fun hc1 => ?_)))))))
 ·have hc1n : k < 4 := by first | (have h := of_decide_eq_true hc1; omega) | (have h := hc1; simp at h; omega)
  refine Qp (Qf (Qy (Qf (Qh [true, true, true, true, true] Z Z (Qa (Qe Z) Z (Qa (Qe Z) Z ?_))))))
  have hi1 : k < [Xj x.epoch y.epoch, Xj x.op y.op, Xj x.key y.key, Xj x.val y.val].length := (by first | assumption | omega | (simp only [List.length_set]; first | assumption | omega))
  refine Qa (Qv (i := k) Y5 Z Z (Blk.rd (α := Int) (xs := [Xj x.epoch y.epoch, Xj x.op y.op, Xj x.key y.key, Xj x.val y.val]) (by decide) h3 Z (by simp [maxLen])) hi1) Z (Qa (Qi Yk Z (((Blk.rd (α := Int) (xs := [Xj x.epoch y.epoch, Xj x.op y.op, Xj x.key y.key, Xj x.val y.val]) (by decide) h3 Z (by simp [maxLen])).get hi1).one 0 Z)) Z (Qa (Yr Z Z) Z (Qd (Qu Z (fun hc2 => ?_) (fun hc2 => ?_)))))
  ·refine Qf (Qh [true, true, true, true, true] Z Z (Qa (Qe Z) Z (Qa (Qe Z) Z (Qa (Qv (i := k) Y5 Z Z (Blk.rd (α := Int) (xs := [Xj x.epoch y.epoch, Xj x.op y.op, Xj x.key y.key, Xj x.val y.val]) (by decide) h3 Z (by simp [maxLen])) hi1) Z (Qa (Qi Yk Z (((Blk.rd (α := Int) (xs := [Xj x.epoch y.epoch, Xj x.op y.op, Xj x.key y.key, Xj x.val y.val]) (by decide) h3 Z (by simp [maxLen])).get hi1).one 0 Z)) Z (Qa (Qg Z) Z (Qd (Qw (Qx (Yg (Qx (Qm Z Z E ?_))))))))))))
   exact cellOrd_a (firstNZ_yes hI (by simpa using hc1n) (by simpa using hc2))
  ·refine Qp (Q5 (Yt (Qh [true, true, true] Z Z (Qa (Qe Z) Z (Qa (Q8 Z Z (Yq hc1n (by first | assumption | (unfold maxLen; omega)))) Z (Qa (Qg Z) Z (Qd (Q5 (Q9 (k + 1) (by omega) ⟨Z, Z, Z, trivial⟩ ⟨E, (by omega), h1, h2, h3, (by omega), firstNZ_step hI (by simpa using hc1n) (by simpa using hc2)⟩)))))))))
 ·have hc1n : ¬ k < 4 := by first | (have h := of_decide_eq_false hc1; omega) | (have h := hc1; simp at h; omega)
  refine Yi (Q3 (Q2 ?_))
  refine Qf (Qh [true] Z Z (Qa (Qg Z) Z (Qd (Qw (Qm Z Z E ?_)))))
  exact cellOrd_b (firstNZ_no hI (by simp; omega))

set_option maxRecDepth 20000 in
theorem c_toCellS (vxs : Value) (xs : List Cell) (w : World) (hxs : RdS w vxs xs) (hb : xs.length ≤ 1048576) : Ct Tryz.prog 102 [vxs] w (fun v w' => Own w' w.heap.size w'.heap.size 4 v (List.flatMap (Enc.enc (α := Cell)) xs)) := by
 refine Yj Tryz.func102 Z Tryz.ntmps102 Z ?_
 refine Q7 [(0, vxs)] ⟨Z, trivial⟩ ?_
 have E : Ext w w := Ext.refl w
 refine Qf (Qh [true] Z Z (Qa (Qg Z) Z (Qd (Qf (Qh [true, true, false, true] Z Z (Qa (Qe Z) Z (Qa (Q4 Tryz.underlying94 Z (hxs.ext E).len) Z (J_make (m := xs.length) sl67 Z Z (by omega) (by decide) Z (fun b1 w1 e1 s1 h1 => ?_)))))))))
 have g_b1 : w.heap.size ≤ b1 := by have := E.size; omega
 have y_b1 := h1.lt
 replace E := E.trans e1
 have z1 := e1.size
 refine Qa (Qg Z) Z (Qd (Qf (Qf (Qh [true] Z Z (Qa (Qg Z) Z (Qd (Qy (Yh (fun (k : Nat) => [(0, vxs), (2, .slice none 0 0), (3, .slice (some ⟨b1, 0, none⟩) xs.length xs.length), (4, .int .i64 ((k : Nat) : Int))]) (fun (k : Nat) w' => Ext w w' ∧ w1.heap.size ≤ w'.heap.size ∧ k ≤ xs.length ∧ Blk w' b1 (mk xs [.int .i64 0, .int .i64 0, .int .i64 0, .int .i64 0] k xs.length)) (fun (k : Nat) => xs.length - k) 0 ⟨Z, Z, Z, Z, trivial⟩ ⟨E, Nat.le_refl _, Nat.zero_le _, (mk_zero xs [.int .i64 0, .int .i64 0, .int .i64 0, .int .i64 0] xs.length) ▸ h1⟩ ?_))))))))
 clear E h1
 rintro k w2 ⟨E, z2, hk, h1⟩
 refine Qf (Qf (Qh [true, true, true, true] Z Z (Qa (Qe Z) Z (Qa (Qe Z) Z (Qa (Q4 Tryz.underlying94 Z (hxs.ext E).len) Z (Qa (Yb Z Z) Z (Qd (Qu Z (fun hc1 => ?_) (fun hc1 => ?_)))))))))
 ·have hc1n : k < xs.length := by first | (have h := of_decide_eq_true hc1; omega) | (have h := hc1; simp at h; omega)
  refine Qp (Qf (Qy (Qh [true, true, true, true, true, true, false, true, false] Z Z (Qa (Qe Z) Z (Qa (Qe Z) Z (Qa (Qe Z) Z (Qa (Qe Z) Z ?_)))))))
  have hi1 : k < xs.length := (by first | assumption | omega | (simp only [List.length_set]; first | assumption | omega))
  refine Qa (Qv (i := k) sl94 Z Z (hxs.ext E) hi1) Z (Qa (Q1 st173 Z ((hxs.ext E).get hi1) Z) Z (Q0 Tryz.call124 Z (c_toCell (xs[k]'hi1) _ ) Z (fun _ w3 e2 hv => ?_)))
  subst hv
  replace E := E.trans e2; replace h1 := h1.ext e2
  have z3 := e2.size
  refine Qa (R_indexB sl67 Z Z (by first | assumption | omega | (simp only [List.length_set]; first | assumption | omega))) Z (Ya (cs' := mk xs [.int .i64 0, .int .i64 0, .int .i64 0, .int .i64 0] (k + 1) xs.length) st165 Z Z Z Z h1 (mk_room xs [.int .i64 0, .int .i64 0, .int .i64 0, .int .i64 0] Z hc1n hc1n (by rfl)) (mk_step xs [.int .i64 0, .int .i64 0, .int .i64 0, .int .i64 0] Z hc1n hc1n) (fun w4 m1 h1' => ?_))
  replace h1 := h1'
  replace E := E.step m1 (fun g hg => by cases hg; omega)
  have z4 := m1.size
  refine Qd (Q5 (Yt (Qh [true, true, true] Z Z (Qa (Qe Z) Z (Qa (Q8 Z Z (Yq hc1n hxs.1)) Z (Qa (Qg Z) Z (Qd (Q5 (Q9 (k + 1) (by omega) ⟨Z, Z, Z, Z, trivial⟩ ⟨E, (by omega), (by omega), h1⟩)))))))))
 ·have hc1n : ¬ k < xs.length := by first | (have h := of_decide_eq_false hc1; omega) | (have h := hc1; simp at h; omega)
  refine Yi (Q3 (Q2 ?_))
  refine Qf (Qh [true, true] Z Z (Qa (Qe Z) Z (Qa (Qg Z) Z (Qd (Qw (Qm Z Z E ?_))))))
  obtain rfl : k = xs.length := by omega
  rw [mk_all] at h1
  exact Own.ofBlk h1 (by omega) (by have := h1.lt; omega) (Y0 xs) hxs.1

set_option maxRecDepth 20000 in
theorem s_CellsOk (vxs : Value) (xs : List Cell) (w : World) (hxs : RdS w vxs xs) : Ct Tryz.prog 121 [vxs] w (fun v _ => v = .bool ((adj xs).all Xw)) := by
 refine Yj Tryz.func121 Z Tryz.ntmps121 Z ?_
 refine Q7 [(0, vxs)] ⟨Z, trivial⟩ ?_
 have E : Ext w w := Ext.refl w
 refine Qf (Qh [true] Z Z (Qa (Qg Z) Z (Qd (Qf (Qf (Qh [true] Z Z (Qa (Qg Z) Z (Qd (Qy (Yh (fun (j : Nat) => [(0, vxs), (2, .bool false), (3, .int .i64 ((j + 1 : Nat) : Int))]) (fun (j : Nat) w' => Ext w w' ∧ w.heap.size ≤ w'.heap.size ∧ ((adj xs).take j).all Xw = true) (fun (j : Nat) => xs.length - j) 0 ⟨Z, Z, Z, trivial⟩ ⟨E, Nat.le_refl _, Z⟩ ?_))))))))))
 clear E
 rintro j w1 ⟨E, z1, hI⟩
 have hlm := hxs.1
 unfold maxLen at hlm
 refine Qf (Qf (Qh [true, true, true, true] Z Z (Qa (Qe Z) Z (Qa (Qe Z) Z (Qa (Q4 Tryz.underlying67 Z (hxs.ext E).len) Z (Qa (Yb Z Z) Z (Qd (Qu Z (fun hc1 => ?_) (fun hc1 => ?_)))))))))
 ·have hc1n : j + 1 < xs.length := by first | (have h := of_decide_eq_true hc1; omega) | (have h := hc1; simp at h; omega)
  refine Qp (Qf (Qy (Qf (Y7 Y8 [(0, true), (1, true), (2, true), (3, true), (4, true), (5, true), (6, true), (7, true), (8, true), (9, false), (10, true)] (by decide +kernel) Z (fun w2 e1 => ?_)))))
  replace E := E.trans e1
  have z2 := e1.size
  refine Qa (Qe Z) Z (Qa (Qe Z) Z (Qa (Ka Z Z (sub_one (m := j) (by unfold maxLen; omega))) Z ?_))
  have hi1 : j < xs.length := (by first | assumption | omega | (simp only [List.length_set]; first | assumption | omega))
  refine Qa (Qv (i := j) sl67 Z Z (hxs.ext E) hi1) Z (Qa (Q1 st165 Z ((hxs.ext E).get hi1) Z) Z (Qa (Qe Z) Z (Qa (Qe Z) Z ?_)))
  have hi2 : j + 1 < xs.length := (by first | assumption | omega | (simp only [List.length_set]; first | assumption | omega))
  refine Qa (Qv (i := j + 1) sl67 Z Z (hxs.ext E) hi2) Z (Qa (Q1 st165 Z ((hxs.ext E).get hi2) Z) Z (Q0 Tryz.call134 Z (s_CellOrder (xs[j]'hi1) (xs[j + 1]'hi2) _ ) Z (fun _ w3 e2 hv => ?_)))
  subst hv
  replace E := E.trans e2
  have z3 := e2.size
  refine Qa (R_geq Z Z) Z (Qd (Qu Z (fun hc2 => ?_) (fun hc2 => ?_)))
  ·refine Qf (Qh [true] Z Z (Qa (Qg Z) Z (Qd (Qw (Qx (Yg (Qx (Qm Z Z E ?_))))))))
   exact adj_no hc1n (by simpa [Xw] using hc2)
  ·refine Qp (Q5 (Yt (Qh [true, true, true] Z Z (Qa (Qe Z) Z (Qa (Q8 Z Z (Yq hc1n hxs.1)) Z (Qa (Qg Z) Z (Qd (Q5 (Q9 (j + 1) (by omega) ⟨Z, Z, Z, trivial⟩ ⟨E, (by omega), adj_step hI (by assumption) (by simpa [Xw] using hc2)⟩)))))))))
 ·have hc1n : ¬ j + 1 < xs.length := by first | (have h := of_decide_eq_false hc1; omega) | (have h := hc1; simp at h; omega)
  refine Yi (Q3 (Q2 ?_))
  refine Qf (Qh [true] Z Z (Qa (Qg Z) Z (Qd (Qw (Qm Z Z E ?_)))))
  exact adj_yes hI (by omega)

set_option maxRecDepth 20000 in
theorem c_CellsOk (vxs : Value) (xs : List Cell) (w : World) (hxs : RdS w vxs xs) : Ct Tryz.prog 111 [vxs] w (fun v _ => v = .bool ((adj xs).all Xw)) := by
 refine Yj Tryz.func111 Z Tryz.ntmps111 Z ?_
 refine Q7 [(0, vxs)] ⟨Z, trivial⟩ ?_
 have E : Ext w w := Ext.refl w
 refine Qf (Qh [true] Z Z (Qa (Qg Z) Z (Qd (Qf (Qf (Qh [true] Z Z (Qa (Qg Z) Z (Qd (Qy (Yh (fun (j : Nat) => [(0, vxs), (2, .bool false), (3, .int .i64 ((j + 1 : Nat) : Int))]) (fun (j : Nat) w' => Ext w w' ∧ w.heap.size ≤ w'.heap.size ∧ ((adj xs).take j).all Xw = true) (fun (j : Nat) => xs.length - j) 0 ⟨Z, Z, Z, trivial⟩ ⟨E, Nat.le_refl _, Z⟩ ?_))))))))))
 clear E
 rintro j w1 ⟨E, z1, hI⟩
 have hlm := hxs.1
 unfold maxLen at hlm
 refine Qf (Qf (Qh [true, true, true, true] Z Z (Qa (Qe Z) Z (Qa (Qe Z) Z (Qa (Q4 Tryz.underlying67 Z (hxs.ext E).len) Z (Qa (Yb Z Z) Z (Qd (Qu Z (fun hc1 => ?_) (fun hc1 => ?_)))))))))
 ·have hc1n : j + 1 < xs.length := by first | (have h := of_decide_eq_true hc1; omega) | (have h := hc1; simp at h; omega)
  refine Qp (Qf (Qy (Qf (Y7 Y8 [(0, true), (1, true), (2, true), (3, true), (4, true), (5, true), (6, true), (7, true), (8, true), (9, false), (10, true)] (by decide +kernel) Z (fun w2 e1 => ?_)))))
  replace E := E.trans e1
  have z2 := e1.size
  refine Qa (Qe Z) Z (Qa (Qe Z) Z (Qa (Ka Z Z (sub_one (m := j) (by unfold maxLen; omega))) Z ?_))
  have hi1 : j < xs.length := (by first | assumption | omega | (simp only [List.length_set]; first | assumption | omega))
  refine Qa (Qv (i := j) sl67 Z Z (hxs.ext E) hi1) Z (Qa (Q1 st165 Z ((hxs.ext E).get hi1) Z) Z (Qa (Qe Z) Z (Qa (Qe Z) Z ?_)))
  have hi2 : j + 1 < xs.length := (by first | assumption | omega | (simp only [List.length_set]; first | assumption | omega))
  refine Qa (Qv (i := j + 1) sl67 Z Z (hxs.ext E) hi2) Z (Qa (Q1 st165 Z ((hxs.ext E).get hi2) Z) Z (Q0 Tryz.call128 Z (c_CellOrder (xs[j]'hi1) (xs[j + 1]'hi2) _ ) Z (fun _ w3 e2 hv => ?_)))
  subst hv
  replace E := E.trans e2
  have z3 := e2.size
  refine Qa (R_geq Z Z) Z (Qd (Qu Z (fun hc2 => ?_) (fun hc2 => ?_)))
  ·refine Qf (Qh [true] Z Z (Qa (Qg Z) Z (Qd (Qw (Qx (Yg (Qx (Qm Z Z E ?_))))))))
   exact adj_no hc1n (by simpa [Xw] using hc2)
  ·refine Qp (Q5 (Yt (Qh [true, true, true] Z Z (Qa (Qe Z) Z (Qa (Q8 Z Z (Yq hc1n hxs.1)) Z (Qa (Qg Z) Z (Qd (Q5 (Q9 (j + 1) (by omega) ⟨Z, Z, Z, trivial⟩ ⟨E, (by omega), adj_step hI (by assumption) (by simpa [Xw] using hc2)⟩)))))))))
 ·have hc1n : ¬ j + 1 < xs.length := by first | (have h := of_decide_eq_false hc1; omega) | (have h := hc1; simp at h; omega)
  refine Yi (Q3 (Q2 ?_))
  refine Qf (Qh [true] Z Z (Qa (Qg Z) Z (Qd (Qw (Qm Z Z E ?_)))))
  exact adj_yes hI (by omega)

set_option maxRecDepth 20000 in
theorem markCellS (vxs : Value) (lo hi : Nat) (xs : List Cell) (k : Nat) (w : World) (hxs : Own w lo hi 4 vxs (List.flatMap (Enc.enc (α := Cell)) xs)) (hb : k + xs.length * 4 ≤ 1099511627776) : CtR Tryz.prog 72 [vxs, .int .i64 ((k : Nat) : Int)] w lo hi (fun v w' => v = .int .i64 ((k + 4 * xs.length : Nat) : Int) ∧ Own w' lo hi 4 vxs (List.flatMap (Enc.enc (α := Cell)) (mkL 4 mkCell k xs.length))) := by
 refine ctR_of Tryz.func72 Z Tryz.ntmps72 Z ?_
 refine Q7 [(0, vxs), (1, .int .i64 ((k : Nat) : Int))] ⟨Z, Z, trivial⟩ ?_
 have E : ModR w w lo hi := ModR.refl w lo hi
 refine Qf (Qh [true] Z Z (Qa (Qg Z) Z (Qd (Qf (Qf (Qh [true] Z Z (Qa (Qg Z) Z (Qd (Qy (Yh (fun (xq : Nat × Nat × List Cell) => let ⟨i, q, bs⟩ := xq; [(0, vxs), (1, .int .i64 ((q : Nat) : Int)), (4, .int .i64 0), (5, .int .i64 ((i : Nat) : Int))]) (fun (xq : Nat × Nat × List Cell) w' => let ⟨i, q, bs⟩ := xq; ModR w w' lo hi ∧ w.heap.size ≤ w'.heap.size ∧ i + bs.length = xs.length ∧ q = k + 4 * i ∧ Own w' lo hi 4 vxs (List.flatMap (Enc.enc (α := Cell)) (mkL 4 mkCell k i ++ bs))) (fun (xq : Nat × Nat × List Cell) => let ⟨i, q, bs⟩ := xq; xs.length - i) (0, k, xs) ⟨Z, Z, Z, Z, trivial⟩ ⟨E, Nat.le_refl _, (by simp), (by simp), (by simpa [mkL] using hxs)⟩ ?_))))))))))
 clear E hxs
 rintro ⟨i, q, bs⟩ w1 ⟨E, z1, hi, hq, hxs⟩
 refine Q7 [(0, vxs), (1, .int .i64 ((q : Nat) : Int)), (4, .int .i64 0), (5, .int .i64 ((i : Nat) : Int))] ⟨Z, Z, Z, Z, trivial⟩ ?_
 refine Qf (Qf (Qh [true, true, true, true] Z Z (Qa (Qe Z) Z (Qa (Qe Z) Z (Qa (Q4 Tryz.underlying67 Z (Own.lenE (by decide) hxs (by simp only [List.length_append, Qj, List.length_cons]; omega))) Z (Qa (Yb Z Z) Z (Qd (Qu Z (fun hc1 => ?_) (fun hc1 => ?_)))))))))
 ·rcases bs with _ | ⟨x, bs⟩
  ·exact absurd hi (by have h := hc1; simp at h ⊢; omega)
  simp only [List.length_cons] at hi
  have hc1n : i < xs.length := by first | (have h := of_decide_eq_true hc1; omega) | (have h := hc1; simp at h; omega)
  refine Qp (Qf (Qy (Qf (Qh [true, true, true, true, true, false] Z Z (Qa (Qe Z) Z (Qa (Qe Z) Z (Qa (Qe Z) Z (Qa (Qv sl67 Z Z (Own.rd (by decide) hxs) (by simp only [List.length_append, Qj, List.length_cons]; omega)) Z (Qa (Qz fl165_0 Z) Z (Y2 (α := Cell) (i := i) (f := 0) (⟨((q : Nat) : Int), x.epoch, x.key, x.val⟩ : Cell) Yk Z Z Z Z hxs (Qj _ _ _ _) (by decide) Z (fun w2 m1 hxs' => ?_)))))))))))
  have hq := hxs.blk
  replace hxs := hxs'
  replace E := E.mod m1 (fun g hg => by have := hq g hg; omega)
  have z2 := m1.size
  clear hq
  refine Qd (Qf (Qh [true, true, true] Z Z (Qa (Qe Z) Z (Qa (Q8 Z Z (Yc (by unfold maxLen; omega))) Z (Qa (Qg Z) Z (Qd (Qf (Qh [true, true, true, true, true, false] Z Z (Qa (Qe Z) Z (Qa (Qe Z) Z (Qa (Qe Z) Z (Qa (Qv sl67 Z Z (Own.rd (by decide) hxs) (by simp only [List.length_append, Qj, List.length_cons]; omega)) Z (Qa (Qz fl165_1 Z) Z (Y2 (α := Cell) (i := i) (f := 1) (⟨((q : Nat) : Int), ((q + 1 : Nat) : Int), x.key, x.val⟩ : Cell) Yk Z Z Z Z hxs (Qj _ _ _ _) (by decide) Z (fun w3 m2 hxs' => ?_)))))))))))))))
  have hq := hxs.blk
  replace hxs := hxs'
  replace E := E.mod m2 (fun g hg => by have := hq g hg; omega)
  have z3 := m2.size
  clear hq
  refine Qd (Qf (Qh [true, true, true] Z Z (Qa (Qe Z) Z (Qa (Q8 Z Z (Yc (by unfold maxLen; omega))) Z (Qa (Qg Z) Z (Qd (Qf (Qh [true, true, true, true, true, false] Z Z (Qa (Qe Z) Z (Qa (Qe Z) Z (Qa (Qe Z) Z (Qa (Qv sl67 Z Z (Own.rd (by decide) hxs) (by simp only [List.length_append, Qj, List.length_cons]; omega)) Z (Qa (Qz fl165_2 Z) Z (Y2 (α := Cell) (i := i) (f := 2) (⟨((q : Nat) : Int), ((q + 1 : Nat) : Int), ((q + 1 + 1 : Nat) : Int), x.val⟩ : Cell) Yk Z Z Z Z hxs (Qj _ _ _ _) (by decide) Z (fun w4 m3 hxs' => ?_)))))))))))))))
  have hq := hxs.blk
  replace hxs := hxs'
  replace E := E.mod m3 (fun g hg => by have := hq g hg; omega)
  have z4 := m3.size
  clear hq
  refine Qd (Qf (Qh [true, true, true] Z Z (Qa (Qe Z) Z (Qa (Q8 Z Z (Yc (by unfold maxLen; omega))) Z (Qa (Qg Z) Z (Qd (Qf (Qh [true, true, true, true, true, false] Z Z (Qa (Qe Z) Z (Qa (Qe Z) Z (Qa (Qe Z) Z (Qa (Qv sl67 Z Z (Own.rd (by decide) hxs) (by simp only [List.length_append, Qj, List.length_cons]; omega)) Z (Qa (Qz fl165_3 Z) Z (Y2 (α := Cell) (i := i) (f := 3) (⟨((q : Nat) : Int), ((q + 1 : Nat) : Int), ((q + 1 + 1 : Nat) : Int), ((q + 1 + 1 + 1 : Nat) : Int)⟩ : Cell) Yk Z Z Z Z hxs (Qj _ _ _ _) (by decide) Z (fun w5 m4 hxs' => ?_)))))))))))))))
  have hq := hxs.blk
  replace hxs := hxs'
  replace E := E.mod m4 (fun g hg => by have := hq g hg; omega)
  have z5 := m4.size
  clear hq
  refine Qd (Qh [true, true, true] Z Z (Qa (Qe Z) Z (Qa (Q8 Z Z (Yc (by unfold maxLen; omega))) Z (Qa (Qg Z) Z (Qd (Q5 (Yt (Qh [true, true, true] Z Z (Qa (Qe Z) Z (Qa (Q8 Z Z (Yc (by unfold maxLen; omega))) Z (Qa (Qg Z) Z (Qd (Q5 (Q9 (i + 1, q + 1 + 1 + 1 + 1, bs) (by simp; omega) ⟨rfl, rfl, rfl, rfl, trivial⟩ ⟨E, (by omega), (by omega), (by omega), (by subst hq; rw [← mkL_succ]; exact hxs)⟩))))))))))))))
 ·have hc1n : ¬ i < xs.length := by first | (have h := of_decide_eq_false hc1; omega) | (have h := hc1; simp at h; omega)
  refine Yi (Q3 (Q2 ?_))
  refine Qf (Qh [true, true] Z Z (Qa (Qe Z) Z (Qa (Qg Z) Z (Qd (Qw (Qm Z Z E ?_))))))
  exact ⟨by subst hq; rw [show i = xs.length from by omega], by obtain rfl : bs = [] := List.eq_nil_of_length_eq_zero (by omega); rw [show xs.length = i from by simp at hi; omega]; simpa using hxs⟩

set_option maxRecDepth 20000 in
theorem heldCellS (vxs : Value) (xs : List Cell) (k : Nat) (w : World) (hxs : RdS w vxs xs) (hm : xs = mkL 4 mkCell k xs.length) (hb : k + xs.length * 4 ≤ 1099511627776) : Ct Tryz.prog 78 [vxs, .int .i64 ((k : Nat) : Int)] w (fun v _ => v = .int .i64 ((k + 4 * xs.length : Nat) : Int)) := by
 refine Yj Tryz.func78 Z Tryz.ntmps78 Z ?_
 refine Q7 [(0, vxs), (1, .int .i64 ((k : Nat) : Int))] ⟨Z, Z, trivial⟩ ?_
 have E : Ext w w := Ext.refl w
 refine Qf (Qh [true] Z Z (Qa (Qg Z) Z (Qd (Qf (Qf (Qh [true] Z Z (Qa (Qg Z) Z (Qd (Qy (Yh (fun (xq : Nat × Nat) => let ⟨i, q⟩ := xq; [(0, vxs), (1, .int .i64 ((q : Nat) : Int)), (4, .int .i64 0), (5, .int .i64 ((i : Nat) : Int))]) (fun (xq : Nat × Nat) w' => let ⟨i, q⟩ := xq; Ext w w' ∧ w.heap.size ≤ w'.heap.size ∧ i ≤ xs.length ∧ q = k + 4 * i) (fun (xq : Nat × Nat) => let ⟨i, q⟩ := xq; xs.length - i) (0, k) ⟨Z, Z, Z, Z, trivial⟩ ⟨E, Nat.le_refl _, Nat.zero_le _, (by simp)⟩ ?_))))))))))
 clear E
 rintro ⟨i, q⟩ w1 ⟨E, z1, hi, hq⟩
 refine Q7 [(0, vxs), (1, .int .i64 ((q : Nat) : Int)), (4, .int .i64 0), (5, .int .i64 ((i : Nat) : Int))] ⟨Z, Z, Z, Z, trivial⟩ ?_
 refine Qf (Qf (Qh [true, true, true, true] Z Z (Qa (Qe Z) Z (Qa (Qe Z) Z (Qa (Q4 Tryz.underlying67 Z (hxs.ext E).len) Z (Qa (Yb Z Z) Z (Qd (Qu Z (fun hc1 => ?_) (fun hc1 => ?_)))))))))
 ·have hc1n : i < xs.length := by first | (have h := of_decide_eq_true hc1; omega) | (have h := hc1; simp at h; omega)
  refine Qp (Qf (Qy (Qf (Qf (Qh [true, true, true, true, true, true, true] Z Z (Qa (Qe Z) Z (Qa (Qe Z) Z ?_)))))))
  have hi1 : i < xs.length := (by first | assumption | omega | (simp only [List.length_set]; first | assumption | omega))
  refine Qa (Qv (i := i) sl67 Z Z (hxs.ext E) hi1) Z (Qa (Qz fl165_0 Z) Z (Qa (Qi Yk Z (((hxs.ext E).get hi1).one 0 Z)) Z (Qa (Qe Z) Z (Qa (Yr Z Z) Z (Qd (Yp rfl (by subst hq; rw [X0 hm (by omega)]; simp [mkCell]) (Qp (Qf (Qh [true, true, true] Z Z (Qa (Qe Z) Z (Qa (Q8 Z Z (Yc (by unfold maxLen; omega))) Z (Qa (Qg Z) Z (Qd (Qf (Qf (Qh [true, true, true, true, true, true, true] Z Z (Qa (Qe Z) Z (Qa (Qe Z) Z (Qa (Qv (i := i) sl67 Z Z (hxs.ext E) hi1) Z (Qa (Qz fl165_1 Z) Z (Qa (Qi Yk Z (((hxs.ext E).get hi1).one 1 Z)) Z (Qa (Qe Z) Z (Qa (Yr Z Z) Z (Qd (Yp rfl (by subst hq; rw [X0 hm (by omega)]; simp [mkCell]) (Qp (Qf (Qh [true, true, true] Z Z (Qa (Qe Z) Z (Qa (Q8 Z Z (Yc (by unfold maxLen; omega))) Z (Qa (Qg Z) Z (Qd (Qf (Qf (Qh [true, true, true, true, true, true, true] Z Z (Qa (Qe Z) Z (Qa (Qe Z) Z (Qa (Qv (i := i) sl67 Z Z (hxs.ext E) hi1) Z (Qa (Qz fl165_2 Z) Z (Qa (Qi Yk Z (((hxs.ext E).get hi1).one 2 Z)) Z (Qa (Qe Z) Z (Qa (Yr Z Z) Z (Qd (Yp rfl (by subst hq; rw [X0 hm (by omega)]; simp [mkCell]) (Qp (Qf (Qh [true, true, true] Z Z (Qa (Qe Z) Z (Qa (Q8 Z Z (Yc (by unfold maxLen; omega))) Z (Qa (Qg Z) Z (Qd (Qf (Qf (Qh [true, true, true, true, true, true, true] Z Z (Qa (Qe Z) Z (Qa (Qe Z) Z (Qa (Qv (i := i) sl67 Z Z (hxs.ext E) hi1) Z (Qa (Qz fl165_3 Z) Z (Qa (Qi Yk Z (((hxs.ext E).get hi1).one 3 Z)) Z (Qa (Qe Z) Z (Qa (Yr Z Z) Z (Qd (Yp rfl (by subst hq; rw [X0 hm (by omega)]; simp [mkCell]) (Qp (Qh [true, true, true] Z Z (Qa (Qe Z) Z (Qa (Q8 Z Z (Yc (by unfold maxLen; omega))) Z (Qa (Qg Z) Z (Qd (Q5 (Yt (Qh [true, true, true] Z Z (Qa (Qe Z) Z (Qa (Q8 Z Z (Yc (by unfold maxLen; omega))) Z (Qa (Qg Z) Z (Qd (Q5 (Q9 (i + 1, q + 1 + 1 + 1 + 1) (by simp; omega) ⟨Z, Z, Z, Z, trivial⟩ ⟨E, (by omega), (by omega), (by omega)⟩))))))))))))))))))))))))))))))))))))))))))))))))))))))))))))))))))))))))))))))
 ·have hc1n : ¬ i < xs.length := by first | (have h := of_decide_eq_false hc1; omega) | (have h := hc1; simp at h; omega)
  refine Yi (Q3 (Q2 ?_))
  refine Qf (Qh [true, true] Z Z (Qa (Qe Z) Z (Qa (Qg Z) Z (Qd (Qw (Qm Z Z E ?_))))))
  subst hq; rw [show i = xs.length from by omega]

set_option maxRecDepth 20000 in
theorem c_szIntS (vxs : Value) (xs : List Int) (n : Int) (w : World) (hxs : RdS w vxs xs) (h0 : 0 ≤ n ∧ n ≤ 1048576) : Ct Tryz.prog 89 [vxs, .int .i64 n] w (fun v _ => v = .int .i64 (Kh xs.length n)) := by
 refine Yj Tryz.func89 Z Tryz.ntmps89 Z ?_
 refine Q7 [(0, vxs), (1, .int .i64 n)] ⟨Z, Z, trivial⟩ ?_
 have E : Ext w w := Ext.refl w
 refine Qf (Qh [true] Z Z (Qa (Qg Z) Z (Qd (Qf (Qh [true, true, true, true, true] Z Z (Qa (Qe Z) Z (Qa (Qe Z) Z (Qa (Q4 Tryz.underlying68 Z (hxs.ext E).len) Z (Qa (Ka Z Z Z) Z (Qa (Qg Z) Z (Qd (Qf (Qf (Qh [true, true] Z Z (Qa (Qe Z) Z (Qa (Yb Z Z) Z (Qd (Qu Z (fun hc1 => ?_) (fun hc1 => ?_)))))))))))))))))))
 ·refine Qf (Qh [true] Z Z (Qa (Qg Z) Z (Qd (Qw (Qm Z Z E ?_)))))
  exact sz_no h0.2 h0.1 hxs.1 hc1
 ·refine Qp (Qf (Qh [true, true] Z Z (Qa (Qe Z) Z (Qa (Qg Z) Z (Qd (Qw (Qm Z Z E ?_)))))))
  exact sz_yes h0.2 h0.1 hxs.1 hc1

set_option maxRecDepth 20000 in
theorem c_toIntS (vxs : Value) (xs : List Int) (w : World) (hxs : RdS w vxs xs) (hb : xs.length ≤ 1048576) : Ct Tryz.prog 103 [vxs] w (fun v w' => Own w' w.heap.size w'.heap.size 1 v (List.flatMap (Enc.enc (α := Int)) xs)) := by
 refine Yj Tryz.func103 Z Tryz.ntmps103 Z ?_
 refine Q7 [(0, vxs)] ⟨Z, trivial⟩ ?_
 have E : Ext w w := Ext.refl w
 refine Qf (Qh [true] Z Z (Qa (Qg Z) Z (Qd (Qf (Qh [true, true, false, true] Z Z (Qa (Qe Z) Z (Qa (Q4 Tryz.underlying68 Z (hxs.ext E).len) Z (J_make (m := xs.length) Y5 Z Z (by omega) (by decide) Z (fun b1 w1 e1 s1 h1 => ?_)))))))))
 have g_b1 : w.heap.size ≤ b1 := by have := E.size; omega
 have y_b1 := h1.lt
 replace E := E.trans e1
 have z1 := e1.size
 refine Qa (Qg Z) Z (Qd (Qf (Qf (Qh [true] Z Z (Qa (Qg Z) Z (Qd (Qy (Yh (fun (k : Nat) => [(0, vxs), (2, .slice none 0 0), (3, .slice (some ⟨b1, 0, none⟩) xs.length xs.length), (4, .int .i64 ((k : Nat) : Int))]) (fun (k : Nat) w' => Ext w w' ∧ w1.heap.size ≤ w'.heap.size ∧ k ≤ xs.length ∧ Blk w' b1 (mk xs [.int .i64 0] k xs.length)) (fun (k : Nat) => xs.length - k) 0 ⟨Z, Z, Z, Z, trivial⟩ ⟨E, Nat.le_refl _, Nat.zero_le _, (mk_zero xs [.int .i64 0] xs.length) ▸ h1⟩ ?_))))))))
 clear E h1
 rintro k w2 ⟨E, z2, hk, h1⟩
 refine Qf (Qf (Qh [true, true, true, true] Z Z (Qa (Qe Z) Z (Qa (Qe Z) Z (Qa (Q4 Tryz.underlying68 Z (hxs.ext E).len) Z (Qa (Yb Z Z) Z (Qd (Qu Z (fun hc1 => ?_) (fun hc1 => ?_)))))))))
 ·have hc1n : k < xs.length := by first | (have h := of_decide_eq_true hc1; omega) | (have h := hc1; simp at h; omega)
  refine Qp (Qf (Qy (Qh [true, true, true, true, true, true, true, false] Z Z (Qa (Qe Z) Z (Qa (Qe Z) Z (Qa (Qe Z) Z (Qa (Qe Z) Z ?_)))))))
  have hi1 : k < xs.length := (by first | assumption | omega | (simp only [List.length_set]; first | assumption | omega))
  refine Qa (Qv (i := k) Y5 Z Z (hxs.ext E) hi1) Z (Qa (Qi Yk Z (((hxs.ext E).get hi1).one 0 Z)) Z (Qa (R_indexB Y5 Z Z (by first | assumption | omega | (simp only [List.length_set]; first | assumption | omega))) Z (Ye (cs' := mk xs [.int .i64 0] (k + 1) xs.length) Yk Z Z Z h1 (mk_room xs [.int .i64 0] Z hc1n hc1n (by rfl)) (mk_step xs [.int .i64 0] Z hc1n hc1n) (fun w3 m1 h1' => ?_))))
  replace h1 := h1'
  replace E := E.step m1 (fun g hg => by cases hg; omega)
  have z3 := m1.size
  refine Qd (Q5 (Yt (Qh [true, true, true] Z Z (Qa (Qe Z) Z (Qa (Q8 Z Z (Yq hc1n hxs.1)) Z (Qa (Qg Z) Z (Qd (Q5 (Q9 (k + 1) (by omega) ⟨Z, Z, Z, Z, trivial⟩ ⟨E, (by omega), (by omega), h1⟩)))))))))
 ·have hc1n : ¬ k < xs.length := by first | (have h := of_decide_eq_false hc1; omega) | (have h := hc1; simp at h; omega)
  refine Yi (Q3 (Q2 ?_))
  refine Qf (Qh [true, true] Z Z (Qa (Qe Z) Z (Qa (Qg Z) Z (Qd (Qw (Qm Z Z E ?_))))))
  obtain rfl : k = xs.length := by omega
  rw [mk_all] at h1
  exact Own.ofBlk h1 (by omega) (by have := h1.lt; omega) (Y0 xs) hxs.1

set_option maxRecDepth 20000 in
theorem c_eqIntS (vxs : Value) (xs : List Int) (vys : Value) (ys : List Int) (w : World) (hxs : RdS w vxs xs) (hys : RdS w vys ys) : Ct Tryz.prog 116 [vxs, vys] w (fun v _ => v = .bool (decide (xs = ys))) := by
 refine Yj Tryz.func116 Z Tryz.ntmps116 Z ?_
 refine Q7 [(0, vxs), (1, vys)] ⟨Z, Z, trivial⟩ ?_
 have E : Ext w w := Ext.refl w
 refine Qf (Qh [true] Z Z (Qa (Qg Z) Z (Qd (Qf (Qf (Qh [true, true, true, true, true] Z Z (Qa (Qe Z) Z (Qa (Q4 Tryz.underlying68 Z (hxs.ext E).len) Z (Qa (Qe Z) Z (Qa (Q4 Tryz.underlying68 Z (hys.ext E).len) Z (Qa (Yr Z Z) Z (Qd (Qu Z (fun hc1 => ?_) (fun hc1 => ?_))))))))))))))
 ·have hc1n : ¬ xs.length = ys.length := by first | (have h := of_decide_eq_true hc1; omega) | (have h := hc1; simp at h; omega)
  refine Qf (Qh [true] Z Z (Qa (Qg Z) Z (Qd (Qw (Qm Z Z E ?_)))))
  simp [eq_len hc1n]
 ·have hc1n : xs.length = ys.length := by first | (have h := of_decide_eq_false hc1; omega) | (have h := hc1; simp at h; omega)
  refine Qp (Qf (Qf (Qh [true] Z Z (Qa (Qg Z) Z (Qd (Qy (Yh (fun (k : Nat) => [(0, vxs), (1, vys), (4, .bool false), (5, .int .i64 ((k : Nat) : Int))]) (fun (k : Nat) w' => Ext w w' ∧ w.heap.size ≤ w'.heap.size ∧ k ≤ xs.length ∧ xs.take k = ys.take k) (fun (k : Nat) => xs.length - k) 0 ⟨Z, Z, Z, Z, trivial⟩ ⟨E, Nat.le_refl _, Nat.zero_le _, Z⟩ ?_)))))))
  clear E
  rintro k w1 ⟨E, z1, hk, hp⟩
  refine Qf (Qf (Qh [true, true, true, true] Z Z (Qa (Qe Z) Z (Qa (Qe Z) Z (Qa (Q4 Tryz.underlying68 Z (hxs.ext E).len) Z (Qa (Yb Z Z) Z (Qd (Qu Z (fun hc2 => ?_) (fun hc2 => ?_)))))))))
  ·have hc2n : k < xs.length := by first | (have h := of_decide_eq_true hc2; omega) | (have h := hc2; simp at h; omega)
   refine Qp (Qf (Qy (Qf (Y7 Y8 [(0, true), (1, true), (2, true), (3, true), (4, true), (5, true), (6, true), (7, true), (8, true)] (by decide +kernel) Z (fun w2 e1 => ?_)))))
   replace E := E.trans e1
   have z2 := e1.size
   refine Qa (Qe Z) Z (Qa (Qe Z) Z ?_)
   have hi1 : k < xs.length := (by first | assumption | omega | (simp only [List.length_set]; first | assumption | omega))
   refine Qa (Qv (i := k) Y5 Z Z (hxs.ext E) hi1) Z (Qa (Qi Yk Z (((hxs.ext E).get hi1).one 0 Z)) Z (Qa (Qe Z) Z (Qa (Qe Z) Z ?_)))
   have hi2 : k < ys.length := (by first | assumption | omega | (simp only [List.length_set]; first | assumption | omega))
   refine Qa (Qv (i := k) Y5 Z Z (hys.ext E) hi2) Z (Qa (Qi Yk Z (((hys.ext E).get hi2).one 0 Z)) Z (Qa (Yr Z Z) Z (Qd (Qu Z (fun hc3 => ?_) (fun hc3 => ?_)))))
   ·refine Qf (Qh [true] Z Z (Qa (Qg Z) Z (Qd (Qw (Qx (Yg (Qx (Qm Z Z E ?_))))))))
    exact eqS_no (by omega) (by omega) (by simpa using hc3)
   ·refine Qp (Q5 (Yt (Qh [true, true, true] Z Z (Qa (Qe Z) Z (Qa (Q8 Z Z (Yq hc2n hxs.1)) Z (Qa (Qg Z) Z (Qd (Q5 (Q9 (k + 1) (by omega) ⟨Z, Z, Z, Z, trivial⟩ ⟨E, (by omega), (by omega), eqS_step hp (by assumption) (by omega) (by simpa using hc3)⟩)))))))))
  ·have hc2n : ¬ k < xs.length := by first | (have h := of_decide_eq_false hc2; omega) | (have h := hc2; simp at h; omega)
   refine Yi (Q3 (Q2 ?_))
   refine Qf (Qh [true] Z Z (Qa (Qg Z) Z (Qd (Qw (Qm Z Z E ?_)))))
   exact eqS_yes hp hc1n (by omega)

set_option maxRecDepth 20000 in
theorem c_szNode (cx : List Value) (x : Node) (n : Int) (w : World) (hx : Dat.R w 0 w.heap.size cx x) (h0 : 0 ≤ n ∧ n ≤ 1048576) : Ct Tryz.prog 86 [.agg cx.toArray, .int .i64 n] w (fun v _ => v = .int .i64 (Kh (Xr x) n)) := by
 refine Yj Tryz.func86 Z Tryz.ntmps86 Z ?_
 obtain ⟨o1, rfl, hd1⟩ := Node.op hx
 refine Q7 [(0, .agg [.int .i64 x.kind, .int .i64 x.a, .int .i64 x.b, o1].toArray), (1, .int .i64 n)] ⟨Z, Z, trivial⟩ ?_
 have E : Ext w w := Ext.refl w
 refine Qf (Qh [false, true] Z Z (Yx Z Z (fun b1 w1 e1 s1 h1 => ?_)))
 have g_b1 : w.heap.size ≤ b1 := by have := E.size; omega
 have y_b1 := h1.lt
 replace E := E.trans e1
 have z1 := e1.size
 refine Qa (Qg Z) Z (Qd (Qf (Qh [true, true, true, false, true] Z Z (Qa (Qb fl138_3 Z) Z (Qa (Qi Yy Z (h1.one 3 Z)) Z (Qa (Qe Z) Z (Q0 Tryz.call89 Z (c_szIntS o1 x.outs n _ (hd1.rd.ext E) (by first | omega | (simp only [Qj]; omega) | (rw [Qj]; done) | (simp only [Qj]; done))) Z (fun _ w2 e2 hv => ?_))))))))
 subst hv
 replace E := E.trans e2; replace h1 := h1.ext e2
 have z2 := e2.size
 refine Qa (Qg Z) Z (Qd (Qf (Qf (Qh [true, true] Z Z (Qa (Qe Z) Z (Qa (Yb Z Z) Z (Qd (Qu Z (fun hc1 => ?_) (fun hc1 => ?_)))))))))
 ·have q1 := X4 hc1 (by omega)
  refine Qf (Qh [true] Z Z (Qa (Qg Z) Z (Qd (Qw (Qm Z Z E ?_)))))
  first | exact Xh (by unfold Xr; omega) | exact Xn (by unfold Xr; omega) (by unfold Xr; omega)
 ·have q2 := X3 hc1 (by omega)
  refine Qp (Qf (Qh [true, true] Z Z (Qa (Qe Z) Z (Qa (Qg Z) Z (Qd (Qw (Qm Z Z E ?_)))))))
  first | exact Xh (by unfold Xr; omega) | exact Xn (by unfold Xr; omega) (by unfold Xr; omega)

set_option maxRecDepth 20000 in
theorem c_toNode (cx : List Value) (x : Node) (w : World) (hx : Dat.R w 0 w.heap.size cx x) (hb : Xr x ≤ 1048576) : Ct Tryz.prog 100 [.agg cx.toArray] w (fun v w' => ∃ cs, v = .agg cs.toArray ∧ Own1.O w' w.heap.size w'.heap.size cs x) := by
 unfold Xr at hb
 refine Yj Tryz.func100 Z Tryz.ntmps100 Z ?_
 obtain ⟨o1, rfl, hd1⟩ := Node.op hx
 refine Q7 [(0, .agg [.int .i64 x.kind, .int .i64 x.a, .int .i64 x.b, o1].toArray)] ⟨Z, trivial⟩ ?_
 have E : Ext w w := Ext.refl w
 refine Qf (Qh [false, false] Z Z (Yx Z Z (fun b1 w1 e1 s1 h1 => ?_)))
 have g_b1 : w.heap.size ≤ b1 := by have := E.size; omega
 have y_b1 := h1.lt
 replace E := E.trans e1
 have z1 := e1.size
 refine Yu Xz Z (fun b2 w2 e2 s2 h2 => ?_)
 have g_b2 : w.heap.size ≤ b2 := by have := E.size; omega
 have y_b2 := h2.lt
 replace E := E.trans e2; replace h1 := h1.ext e2
 have z2 := e2.size
 refine Qd (Qf (Qh [false] Z Z (Yu Xz Z (fun b3 w3 e3 s3 h3 => ?_))))
 have g_b3 : w.heap.size ≤ b3 := by have := E.size; omega
 have y_b3 := h3.lt
 replace E := E.trans e3; replace h1 := h1.ext e3; replace h2 := h2.ext e3
 have z3 := e3.size
 refine Qd (Qf (Qh [true, true, true, false] Z Z (Qa (Qb fl138_0 Z) Z (Qa (Qi Yk Z (h1.one 0 Z)) Z (Qa (Qb Y3 Z) Z (Ye (cs' := [.int .i64 x.kind, .int .i64 0, .int .i64 0, .slice none 0 0]) Yk Z Z Z h3 (Nat.le_of_ble_eq_true Z) Z (fun w4 m1 h3' => ?_)))))))
 replace h3 := h3'
 replace E := E.step m1 (fun g hg => by cases hg; omega); replace h1 := h1.mod m1 (fun g hg => by cases hg; omega); replace h2 := h2.mod m1 (fun g hg => by cases hg; omega)
 have z4 := m1.size
 refine Qd (Qf (Qh [true, true, true, false] Z Z (Qa (Qb fl138_1 Z) Z (Qa (Qi Yk Z (h1.one 1 Z)) Z (Qa (Qb Xq Z) Z (Ye (cs' := [.int .i64 x.kind, .int .i64 x.a, .int .i64 0, .slice none 0 0]) Yk Z Z Z h3 (Nat.le_of_ble_eq_true Z) Z (fun w5 m2 h3' => ?_)))))))
 replace h3 := h3'
 replace E := E.step m2 (fun g hg => by cases hg; omega); replace h1 := h1.mod m2 (fun g hg => by cases hg; omega); replace h2 := h2.mod m2 (fun g hg => by cases hg; omega)
 have z5 := m2.size
 refine Qd (Qf (Qh [true, true, true, false] Z Z (Qa (Qb fl138_2 Z) Z (Qa (Qi Yk Z (h1.one 2 Z)) Z (Qa (Qb X8 Z) Z (Ye (cs' := [.int .i64 x.kind, .int .i64 x.a, .int .i64 x.b, .slice none 0 0]) Yk Z Z Z h3 (Nat.le_of_ble_eq_true Z) Z (fun w6 m3 h3' => ?_)))))))
 replace h3 := h3'
 replace E := E.step m3 (fun g hg => by cases hg; omega); replace h1 := h1.mod m3 (fun g hg => by cases hg; omega); replace h2 := h2.mod m3 (fun g hg => by cases hg; omega)
 have z6 := m3.size
 refine Qd (Qf (Qh [true, true, false, true, false] Z Z (Qa (Qb fl138_3 Z) Z (Qa (Qi Yy Z (h1.one 3 Z)) Z (Q0 Tryz.call103 Z (c_toIntS o1 x.outs _ (hd1.rd.ext E) (by first | omega | (simp only [Qj]; omega) | (rw [Qj]; done) | (simp only [Qj]; done))) Z (fun v1 w7 e4 ho1 => ?_))))))
 have g_ho1 : w.heap.size ≤ w6.heap.size := E.size
 replace E := E.trans e4; replace h1 := h1.ext e4; replace h2 := h2.ext e4; replace h3 := h3.ext e4
 have z7 := e4.size
 refine Qa (Qb Q6 Z) Z (Ye (cs' := [.int .i64 x.kind, .int .i64 x.a, .int .i64 x.b, v1]) Yy Z Z ho1.one h3 (Nat.le_of_ble_eq_true Z) Z (fun w8 m4 h3' => ?_))
 replace h3 := h3'
 replace E := E.step m4 (fun g hg => by cases hg; omega); replace h1 := h1.mod m4 (fun g hg => by cases hg; omega); replace h2 := h2.mod m4 (fun g hg => by cases hg; omega); replace ho1 := ho1.mod m4 (fun g hg => by cases hg; omega)
 have z8 := m4.size
 refine Qd (Qf (Qh [true, false] Z Z (Qa (Q1 Xz Z h3.at Z) Z (Ya (cs' := [.int .i64 x.kind, .int .i64 x.a, .int .i64 x.b, v1]) Xz Z Z Z (Ql Z (Ql Z (Ql Z (Ql ho1.one Z)))) h2 (Nat.le_of_ble_eq_true Z) Z (fun w9 m5 h2' => ?_)))))
 replace h2 := h2'
 replace E := E.step m5 (fun g hg => by cases hg; omega); replace h1 := h1.mod m5 (fun g hg => by cases hg; omega); replace h3 := h3.mod m5 (fun g hg => by cases hg; omega); replace ho1 := ho1.mod m5 (fun g hg => by cases hg; omega)
 have z9 := m5.size
 refine Qd (Qw (Xi Z Z (Ys Xz h2.at Z) E ?_))
 exact ⟨_, Z, Node.mkO x ⟨trivial, trivial⟩ (Own.widen ho1 (by omega) (by omega))⟩

set_option maxRecDepth 20000 in
theorem c_eqNode (cx : List Value) (x : Node) (cy : List Value) (y : Node) (w : World) (hx : Dat.R w 0 w.heap.size cx x) (hy : Dat.R w 0 w.heap.size cy y) : Ct Tryz.prog 113 [.agg cx.toArray, .agg cy.toArray] w (fun v _ => v = .bool (decide (x = y))) := by
 refine Yj Tryz.func113 Z Tryz.ntmps113 Z ?_
 obtain ⟨o1, rfl, hd1⟩ := Node.op hx
 obtain ⟨o2, rfl, hd2⟩ := Node.op hy
 refine Q7 [(0, .agg [.int .i64 x.kind, .int .i64 x.a, .int .i64 x.b, o1].toArray), (1, .agg [.int .i64 y.kind, .int .i64 y.a, .int .i64 y.b, o2].toArray)] ⟨Z, Z, trivial⟩ ?_
 have E : Ext w w := Ext.refl w
 refine Qf (Qh [false, false, true] Z Z (Yx Z Z (fun b1 w1 e1 s1 h1 => ?_)))
 have g_b1 : w.heap.size ≤ b1 := by have := E.size; omega
 have y_b1 := h1.lt
 replace E := E.trans e1
 have z1 := e1.size
 refine Yx Z Z (fun b2 w2 e2 s2 h2 => ?_)
 have g_b2 : w.heap.size ≤ b2 := by have := E.size; omega
 have y_b2 := h2.lt
 replace E := E.trans e2; replace h1 := h1.ext e2
 have z2 := e2.size
 refine Qa (Qg Z) Z (Qd (Qf (Qf (Qh [true, true, true, true, true] Z Z (Qa (Qb Y3 Z) Z (Qa (Qi Yk Z (h1.one 0 Z)) Z (Qa (Qb Y3 Z) Z (Qa (Qi Yk Z (h2.one 0 Z)) Z (Qa (Yr Z Z) Z (Qd (Qu Z (fun hc1 => ?_) (fun hc1 => ?_))))))))))))
 ·refine Qf (Qh [true] Z Z (Qa (Qg Z) Z (Qd (Qw (Qm Z Z E ?_)))))
  cases x; cases y; simp_all
 ·refine Qp (Qf (Qf (Qh [true, true, true, true, true] Z Z (Qa (Qb Xq Z) Z (Qa (Qi Yk Z (h1.one 1 Z)) Z (Qa (Qb Xq Z) Z (Qa (Qi Yk Z (h2.one 1 Z)) Z (Qa (Yr Z Z) Z (Qd (Qu Z (fun hc2 => ?_) (fun hc2 => ?_)))))))))))
  ·refine Qf (Qh [true] Z Z (Qa (Qg Z) Z (Qd (Qw (Qm Z Z E ?_)))))
   cases x; cases y; simp_all
  ·refine Qp (Qf (Qf (Qh [true, true, true, true, true] Z Z (Qa (Qb X8 Z) Z (Qa (Qi Yk Z (h1.one 2 Z)) Z (Qa (Qb X8 Z) Z (Qa (Qi Yk Z (h2.one 2 Z)) Z (Qa (Yr Z Z) Z (Qd (Qu Z (fun hc3 => ?_) (fun hc3 => ?_)))))))))))
   ·refine Qf (Qh [true] Z Z (Qa (Qg Z) Z (Qd (Qw (Qm Z Z E ?_)))))
    cases x; cases y; simp_all
   ·refine Qp (Qf (Qf (Qh [true, true, true, true, false, true] Z Z (Qa (Qb Q6 Z) Z (Qa (Qi Yy Z (h1.one 3 Z)) Z (Qa (Qb Q6 Z) Z (Qa (Qi Yy Z (h2.one 3 Z)) Z (Q0 Tryz.call116 Z (c_eqIntS o1 x.outs o2 y.outs _ (hd1.rd.ext E) (hd2.rd.ext E)) Z (fun _ w3 e3 hv => ?_)))))))))
    subst hv
    replace E := E.trans e3; replace h1 := h1.ext e3; replace h2 := h2.ext e3
    have z3 := e3.size
    refine Qa (Yn Z) Z (Qd (Qu Z (fun hc4 => ?_) (fun hc4 => ?_)))
    ·refine Qf (Qh [true] Z Z (Qa (Qg Z) Z (Qd (Qw (Qm Z Z E ?_)))))
     cases x; cases y; simp_all
    ·refine Qp (Qf (Qh [true] Z Z (Qa (Qg Z) Z (Qd (Qw (Qm Z Z E ?_))))))
     cases x; cases y; simp_all

set_option maxRecDepth 20000 in
theorem c_szNodeS (vxs : Value) (xs : List Node) (n : Int) (w : World) (hxs : RdD w 0 w.heap.size vxs xs) (h0 : 0 ≤ n ∧ n ≤ 1048576) : Ct Tryz.prog 47 [vxs, .int .i64 n] w (fun v _ => v = .int .i64 (Kh (Xu Xr xs) n)) := by
 have hlm := hxs.1.1
 unfold maxLen at hlm
 refine Yj Tryz.func47 Z Tryz.ntmps47 Z ?_
 refine Q7 [(0, vxs), (1, .int .i64 n)] ⟨Z, Z, trivial⟩ ?_
 have E : Ext w w := Ext.refl w
 refine Qf (Qh [true] Z Z (Qa (Qg Z) Z (Qd (Qf (Qh [true, true, true, true, true] Z Z (Qa (Qe Z) Z (Qa (Qe Z) Z (Qa (Q4 Tryz.underlying22 Z (hxs.ext E).len) Z (Qa (Ka Z Z (wrap_in (by omega) (by omega))) Z (Qa (Qg Z) Z (Qd (Qf (Qf (Qh [true, true] Z Z (Qa (Qe Z) Z (Qa (Yb Z Z) Z (Qd (Qu Z (fun hc1 => ?_) (fun hc1 => ?_)))))))))))))))))))
 ·refine Qf (Qh [true] Z Z (Qa (Qg Z) Z (Qd (Qw (Qm Z Z E ?_)))))
  exact Xh (by have := of_decide_eq_true hc1; unfold Xu; omega)
 ·refine Qp (Qf (Qf (Qh [true] Z Z (Qa (Qg Z) Z (Qd (Qy (Yh (fun (xq : Nat × Int) => let ⟨k, l⟩ := xq; [(0, vxs), (1, .int .i64 l), (4, .int .i64 0), (5, .int .i64 ((k : Nat) : Int))]) (fun (xq : Nat × Int) w' => let ⟨k, l⟩ := xq; Ext w w' ∧ w.heap.size ≤ w'.heap.size ∧ k ≤ xs.length ∧ 0 ≤ l ∧ l ≤ 1048576 ∧ l = n - ((xs.length : Nat) : Int) - ((((xs.take k).map Xr).sum : Nat) : Int)) (fun (xq : Nat × Int) => let ⟨k, l⟩ := xq; xs.length - k) (0, n - ((xs.length : Nat) : Int)) ⟨Z, Z, Z, Z, trivial⟩ ⟨E, Nat.le_refl _, Nat.zero_le _, (by have := of_decide_eq_false hc1; simp; omega)⟩ ?_)))))))
  clear E
  rintro ⟨k, l⟩ w1 ⟨E, z1, hk, hl⟩
  refine Q7 [(0, vxs), (1, .int .i64 l), (4, .int .i64 0), (5, .int .i64 ((k : Nat) : Int))] ⟨Z, Z, Z, Z, trivial⟩ ?_
  refine Qf (Qf (Qh [true, true, true, true] Z Z (Qa (Qe Z) Z (Qa (Qe Z) Z (Qa (Q4 Tryz.underlying22 Z (hxs.ext E).len) Z (Qa (Yb Z Z) Z (Qd (Qu Z (fun hc2 => ?_) (fun hc2 => ?_)))))))))
  ·have hc2n : k < xs.length := by first | (have h := of_decide_eq_true hc2; omega) | (have h := hc2; simp at h; omega)
   refine Qp (Qf (Qy (Qf (Qh [true, true, true, true, true, false, true] Z Z (Qa (Qe Z) Z (Qa (Qe Z) Z ?_))))))
   have hi1 : k < xs.length := (by first | assumption | omega | (simp only [List.length_set]; first | assumption | omega))
   obtain ⟨_, hr1, ha1⟩ := RdD.get hxs hi1
   obtain ⟨o1, rfl, hd1⟩ := Node.op hr1
   replace ha1 : At w (Xm vxs) (Xl vxs + k * 4) [.int .i64 ((xs[k]'hi1).kind), .int .i64 ((xs[k]'hi1).a), .int .i64 ((xs[k]'hi1).b), o1] := ha1
   refine Qa (Qv (i := k) sl22 Z Z (hxs.ext E).1 hi1) Z (Qa (Q1 st138 Z (ha1.ext E) Z) Z (Qa (Qe Z) Z (Q0 Tryz.call86 Z (c_szNode [.int .i64 ((xs[k]'hi1).kind), .int .i64 ((xs[k]'hi1).a), .int .i64 ((xs[k]'hi1).b), o1] (xs[k]'hi1) l _ (Node.mkR (xs[k]'hi1) (RdD.any (hd1.ext E))) (by first | omega | (simp only [Qj]; omega) | (rw [Qj]; done) | (simp only [Qj]; done))) Z (fun _ w2 e1 hv => ?_))))
   subst hv
   replace E := E.trans e1
   have z2 := e1.size
   refine Qa (Qg Z) Z (Qd (Qf (Qh [true, true] Z Z (Qa (Qe Z) Z (Qa (Yb Z Z) Z (Qd (Qu Z (fun hc3 => ?_) (fun hc3 => ?_))))))))
   ·have q1 := X4 hc3 (by omega)
    refine Qf (Qh [true] Z Z (Qa (Qg Z) Z (Qd (Qw (Qx (Yg (Qx (Qm Z Z E ?_))))))))
    exact Xh (by have := sum_le (f := Xr) (show k < xs.length by omega); unfold Xu; omega)
   ·have q2 := X3 hc3 (by omega)
    refine Qp (Q5 (Yt (Qh [true, true, true] Z Z (Qa (Qe Z) Z (Qa (Q8 Z Z (Yq hc2n (hxs.ext E).1.1)) Z (Qa (Qg Z) Z (Qd (Q5 (Q9 (k + 1, Kh (Xr (xs[k]'hi1)) l) (by simp; omega) ⟨Z, Z, Z, Z, trivial⟩ ⟨E, (by omega), (by omega), (by have := sum_step (f := Xr) (show k < xs.length by omega); omega)⟩)))))))))
  ·have hc2n : ¬ k < xs.length := by first | (have h := of_decide_eq_false hc2; omega) | (have h := hc2; simp at h; omega)
   refine Yi (Q3 (Q2 ?_))
   refine Qf (Qh [true, true] Z Z (Qa (Qe Z) Z (Qa (Qg Z) Z (Qd (Qw (Qm Z Z E ?_))))))
   have := sum_all (f := Xr) (show xs.length ≤ k by omega); exact Xn (by unfold Xu; omega) (by unfold Xu; omega)

set_option maxRecDepth 20000 in
theorem c_toNodeS (vxs : Value) (xs : List Node) (w : World) (hxs : RdD w 0 w.heap.size vxs xs) (hb : Xu Xr xs ≤ 1048576) : Ct Tryz.prog 53 [vxs] w (fun v w' => OwS (α := Node) w' w.heap.size w'.heap.size v xs) := by
 unfold Xu at hb
 refine Yj Tryz.func53 Z Tryz.ntmps53 Z ?_
 refine Q7 [(0, vxs)] ⟨Z, trivial⟩ ?_
 have E : Ext w w := Ext.refl w
 refine Qf (Qh [true] Z Z (Qa (Qg Z) Z (Qd (Qf (Qh [true, true, false, true] Z Z (Qa (Qe Z) Z (Qa (Q4 Tryz.underlying22 Z (hxs.ext E).len) Z (J_make (m := xs.length) sl32 Z Z (by omega) (by decide) Z (fun b1 w1 e1 s1 h1 => ?_)))))))))
 have g_b1 : w.heap.size ≤ b1 := by have := E.size; omega
 have y_b1 := h1.lt
 replace E := E.trans e1
 have z1 := e1.size
 refine Qa (Qg Z) Z (Qd (Qf (Qf (Qh [true] Z Z (Qa (Qg Z) Z (Qd (Qy (Yh (fun (xq : Nat × List (List Value)) => let ⟨k, css⟩ := xq; [(0, vxs), (2, .slice none 0 0), (3, .slice (some ⟨b1, 0, none⟩) xs.length xs.length), (4, .int .i64 ((k : Nat) : Int))]) (fun (xq : Nat × List (List Value)) w' => let ⟨k, css⟩ := xq; Ext w w' ∧ w1.heap.size ≤ w'.heap.size ∧ k ≤ xs.length ∧ css.length = k ∧ Blk w' b1 (mkc css [.int .i64 0, .int .i64 0, .int .i64 0, .slice none 0 0] (xs.length - k)) ∧ AllO w' w1.heap.size w'.heap.size css (xs.take k)) (fun (xq : Nat × List (List Value)) => let ⟨k, css⟩ := xq; xs.length - k) (0, []) ⟨Z, Z, Z, Z, trivial⟩ ⟨E, Nat.le_refl _, Nat.zero_le _, Z, (by simpa [mkc] using h1), (by simp [AllO, All2])⟩ ?_))))))))
 clear E h1
 rintro ⟨k, css⟩ w2 ⟨E, z2, hk, hlk, h1, hA⟩
 refine Q7 [(0, vxs), (2, .slice none 0 0), (3, .slice (some ⟨b1, 0, none⟩) xs.length xs.length), (4, .int .i64 ((k : Nat) : Int))] ⟨Z, Z, Z, Z, trivial⟩ ?_
 refine Qf (Qf (Qh [true, true, true, true] Z Z (Qa (Qe Z) Z (Qa (Qe Z) Z (Qa (Q4 Tryz.underlying22 Z (hxs.ext E).len) Z (Qa (Yb Z Z) Z (Qd (Qu Z (fun hc1 => ?_) (fun hc1 => ?_)))))))))
 ·have hc1n : k < xs.length := by first | (have h := of_decide_eq_true hc1; omega) | (have h := hc1; simp at h; omega)
  refine Qp (Qf (Qy (Qh [true, true, true, true, true, true, false, true, false] Z Z (Qa (Qe Z) Z (Qa (Qe Z) Z (Qa (Qe Z) Z (Qa (Qe Z) Z ?_)))))))
  have hi1 : k < xs.length := (by first | assumption | omega | (simp only [List.length_set]; first | assumption | omega))
  obtain ⟨_, hr1, ha1⟩ := RdD.get hxs hi1
  obtain ⟨o1, rfl, hd1⟩ := Node.op hr1
  replace ha1 : At w (Xm vxs) (Xl vxs + k * 4) [.int .i64 ((xs[k]'hi1).kind), .int .i64 ((xs[k]'hi1).a), .int .i64 ((xs[k]'hi1).b), o1] := ha1
  refine Qa (Qv (i := k) sl22 Z Z (hxs.ext E).1 hi1) Z (Qa (Q1 st138 Z (ha1.ext E) Z) Z (Q0 Tryz.call100 Z (c_toNode [.int .i64 ((xs[k]'hi1).kind), .int .i64 ((xs[k]'hi1).a), .int .i64 ((xs[k]'hi1).b), o1] (xs[k]'hi1) _ (Node.mkR (xs[k]'hi1) (RdD.any (hd1.ext E))) (by have := sum_le (f := Xr) (show k < xs.length by omega); omega)) Z (fun _ w3 e2 ho1 => ?_)))
  obtain ⟨_, rfl, ho1⟩ := ho1
  have g_ho1 : w.heap.size ≤ w2.heap.size := E.size
  replace E := E.trans e2; replace h1 := h1.ext e2; replace hA := hA.ext e2
  have z3 := e2.size
  obtain ⟨o2, rfl, sp1, hw1⟩ := Node.opO ho1
  refine Qa (R_indexB sl32 Z Z (by first | assumption | omega | (simp only [List.length_set]; first | assumption | omega))) Z (Ya (cs' := mkc (css ++ [[.int .i64 ((xs[k]'hi1).kind), .int .i64 ((xs[k]'hi1).a), .int .i64 ((xs[k]'hi1).b), o2]]) [.int .i64 0, .int .i64 0, .int .i64 0, .slice none 0 0] (xs.length - (k + 1))) Xz Z Z Z (Ql Z (Ql Z (Ql Z (Ql hw1.one Z)))) h1 (mkc_room hA.d hlk Z hc1n (by rfl)) (mkc_step hA.d hlk Z hc1n Z) (fun w4 m1 h1' => ?_))
  replace h1 := h1'
  replace E := E.step m1 (fun g hg => by cases hg; omega); replace hA := hA.mod m1 (fun g hg => by cases hg; omega); replace hw1 := hw1.mod m1 (fun g hg => by cases hg; omega)
  have z4 := m1.size
  refine Qd (Q5 (Yt (Qh [true, true, true] Z Z (Qa (Qe Z) Z (Qa (Q8 Z Z (Yq hc1n (hxs.ext E).1.1)) Z (Qa (Qg Z) Z (Qd (Q5 (Q9 (k + 1, css ++ [[.int .i64 ((xs[k]'hi1).kind), .int .i64 ((xs[k]'hi1).a), .int .i64 ((xs[k]'hi1).b), o2]]) (by simp; omega) ⟨Z, Z, Z, Z, trivial⟩ ⟨E, (by omega), (by omega), (by simp [hlk]), h1, (AllO.widen (AllO.step hA hc1n (Node.mkO (xs[k]'hi1) sp1 (Own.widen hw1 (by omega) (by omega))) (Nat.le_refl _) (Nat.le_refl _) (by omega) (by omega)) (Nat.le_refl _) (by omega))⟩)))))))))
 ·have hc1n : ¬ k < xs.length := by first | (have h := of_decide_eq_false hc1; omega) | (have h := hc1; simp at h; omega)
  refine Yi (Q3 (Q2 ?_))
  refine Qf (Qh [true, true] Z Z (Qa (Qe Z) Z (Qa (Qg Z) Z (Qd (Qw (Qm Z Z E ?_))))))
  obtain rfl : k = xs.length := by omega
  rw [Nat.sub_self, mkc_all] at h1
  rw [List.take_length] at hA
  exact OwS.ofBlk h1 hA (by have := E.size; omega) (by omega) (by have := E.size; omega) (by omega) (by omega) Z (by unfold maxLen; omega)

set_option maxRecDepth 20000 in
theorem c_eqNodeS (vxs : Value) (xs : List Node) (vys : Value) (ys : List Node) (w : World) (hxs : RdD w 0 w.heap.size vxs xs) (hys : RdD w 0 w.heap.size vys ys) : Ct Tryz.prog 65 [vxs, vys] w (fun v _ => v = .bool (decide (xs = ys))) := by
 refine Yj Tryz.func65 Z Tryz.ntmps65 Z ?_
 refine Q7 [(0, vxs), (1, vys)] ⟨Z, Z, trivial⟩ ?_
 have E : Ext w w := Ext.refl w
 refine Qf (Qh [true] Z Z (Qa (Qg Z) Z (Qd (Qf (Qf (Qh [true, true, true, true, true] Z Z (Qa (Qe Z) Z (Qa (Q4 Tryz.underlying32 Z (hxs.ext E).len) Z (Qa (Qe Z) Z (Qa (Q4 Tryz.underlying32 Z (hys.ext E).len) Z (Qa (Yr Z Z) Z (Qd (Qu Z (fun hc1 => ?_) (fun hc1 => ?_))))))))))))))
 ·have hc1n : ¬ xs.length = ys.length := by first | (have h := of_decide_eq_true hc1; omega) | (have h := hc1; simp at h; omega)
  refine Qf (Qh [true] Z Z (Qa (Qg Z) Z (Qd (Qw (Qm Z Z E ?_)))))
  simp [eq_len hc1n]
 ·have hc1n : xs.length = ys.length := by first | (have h := of_decide_eq_false hc1; omega) | (have h := hc1; simp at h; omega)
  refine Qp (Qf (Qf (Qh [true] Z Z (Qa (Qg Z) Z (Qd (Qy (Yh (fun (k : Nat) => [(0, vxs), (1, vys), (4, .bool false), (5, .int .i64 ((k : Nat) : Int))]) (fun (k : Nat) w' => Ext w w' ∧ w.heap.size ≤ w'.heap.size ∧ k ≤ xs.length ∧ xs.take k = ys.take k) (fun (k : Nat) => xs.length - k) 0 ⟨Z, Z, Z, Z, trivial⟩ ⟨E, Nat.le_refl _, Nat.zero_le _, Z⟩ ?_)))))))
  clear E
  rintro k w1 ⟨E, z1, hk, hp⟩
  refine Qf (Qf (Qh [true, true, true, true] Z Z (Qa (Qe Z) Z (Qa (Qe Z) Z (Qa (Q4 Tryz.underlying32 Z (hxs.ext E).len) Z (Qa (Yb Z Z) Z (Qd (Qu Z (fun hc2 => ?_) (fun hc2 => ?_)))))))))
  ·have hc2n : k < xs.length := by first | (have h := of_decide_eq_true hc2; omega) | (have h := hc2; simp at h; omega)
   refine Qp (Qf (Qy (Qf (Y7 Y8 [(0, true), (1, true), (2, true), (3, true), (4, true), (5, true), (6, true), (7, true), (8, false), (9, true)] (by decide +kernel) Z (fun w2 e1 => ?_)))))
   replace E := E.trans e1
   have z2 := e1.size
   refine Qa (Qe Z) Z (Qa (Qe Z) Z ?_)
   have hi1 : k < xs.length := (by first | assumption | omega | (simp only [List.length_set]; first | assumption | omega))
   obtain ⟨_, hr1, ha1⟩ := RdD.get hxs hi1
   obtain ⟨o1, rfl, hd1⟩ := Node.op hr1
   replace ha1 : At w (Xm vxs) (Xl vxs + k * 4) [.int .i64 ((xs[k]'hi1).kind), .int .i64 ((xs[k]'hi1).a), .int .i64 ((xs[k]'hi1).b), o1] := ha1
   refine Qa (Qv (i := k) sl32 Z Z (hxs.ext E).1 hi1) Z (Qa (Q1 Xz Z (ha1.ext E) Z) Z (Qa (Qe Z) Z (Qa (Qe Z) Z ?_)))
   have hi2 : k < ys.length := (by first | assumption | omega | (simp only [List.length_set]; first | assumption | omega))
   obtain ⟨_, hr2, ha2⟩ := RdD.get hys hi2
   obtain ⟨o2, rfl, hd2⟩ := Node.op hr2
   replace ha2 : At w (Xm vys) (Xl vys + k * 4) [.int .i64 ((ys[k]'hi2).kind), .int .i64 ((ys[k]'hi2).a), .int .i64 ((ys[k]'hi2).b), o2] := ha2
   refine Qa (Qv (i := k) sl32 Z Z (hys.ext E).1 hi2) Z (Qa (Q1 Xz Z (ha2.ext E) Z) Z (Q0 Tryz.call113 Z (c_eqNode [.int .i64 ((xs[k]'hi1).kind), .int .i64 ((xs[k]'hi1).a), .int .i64 ((xs[k]'hi1).b), o1] (xs[k]'hi1) [.int .i64 ((ys[k]'hi2).kind), .int .i64 ((ys[k]'hi2).a), .int .i64 ((ys[k]'hi2).b), o2] (ys[k]'hi2) _ (Node.mkR (xs[k]'hi1) (RdD.any (hd1.ext E))) (Node.mkR (ys[k]'hi2) (RdD.any (hd2.ext E)))) Z (fun _ w3 e2 hv => ?_)))
   subst hv
   replace E := E.trans e2
   have z3 := e2.size
   refine Qa (Yn Z) Z (Qd (Qu Z (fun hc3 => ?_) (fun hc3 => ?_)))
   ·refine Qf (Qh [true] Z Z (Qa (Qg Z) Z (Qd (Qw (Qx (Yg (Qx (Qm Z Z E ?_))))))))
    exact eqS_no (by omega) (by omega) (by simpa using hc3)
   ·refine Qp (Q5 (Yt (Qh [true, true, true] Z Z (Qa (Qe Z) Z (Qa (Q8 Z Z (Yq hc2n (hxs.ext E).1.1)) Z (Qa (Qg Z) Z (Qd (Q5 (Q9 (k + 1) (by omega) ⟨Z, Z, Z, Z, trivial⟩ ⟨E, (by omega), (by omega), eqS_step hp (by assumption) (by omega) (by simpa using hc3)⟩)))))))))
  ·have hc2n : ¬ k < xs.length := by first | (have h := of_decide_eq_false hc2; omega) | (have h := hc2; simp at h; omega)
   refine Yi (Q3 (Q2 ?_))
   refine Qf (Qh [true] Z Z (Qa (Qg Z) Z (Qd (Qw (Qm Z Z E ?_)))))
   exact eqS_yes hp hc1n (by omega)

set_option maxRecDepth 20000 in
theorem c_szGraph (cx : List Value) (x : Graph) (n : Int) (w : World) (hx : Dat.R w 0 w.heap.size cx x) (h0 : 0 ≤ n ∧ n ≤ 1048576) : Ct Tryz.prog 14 [.agg cx.toArray, .int .i64 n] w (fun v _ => v = .int .i64 (Kh (Y6 x) n)) := by
 refine Yj Tryz.func14 Z Tryz.ntmps14 Z ?_
 obtain ⟨o1, rfl, hd1⟩ := Graph.op hx
 refine Q7 [(0, .agg [o1, .int .i64 x.workers, .int .i64 x.cap].toArray), (1, .int .i64 n)] ⟨Z, Z, trivial⟩ ?_
 have E : Ext w w := Ext.refl w
 refine Qf (Qh [false, true] Z Z (Yx Z Z (fun b1 w1 e1 s1 h1 => ?_)))
 have g_b1 : w.heap.size ≤ b1 := by have := E.size; omega
 have y_b1 := h1.lt
 replace E := E.trans e1
 have z1 := e1.size
 refine Qa (Qg Z) Z (Qd (Qf (Qh [true, true, true, false, true] Z Z (Qa (Qb fl24_0 Z) Z (Qa (Qi sc22 Z (h1.one 0 Z)) Z (Qa (Qe Z) Z (Q0 Tryz.call47 Z (c_szNodeS o1 x.nodes n _ (RdD.any (hd1.ext E)) (by first | omega | (simp only [Qj]; omega) | (rw [Qj]; done) | (simp only [Qj]; done))) Z (fun _ w2 e2 hv => ?_))))))))
 subst hv
 replace E := E.trans e2; replace h1 := h1.ext e2
 have z2 := e2.size
 refine Qa (Qg Z) Z (Qd (Qf (Qf (Qh [true, true] Z Z (Qa (Qe Z) Z (Qa (Yb Z Z) Z (Qd (Qu Z (fun hc1 => ?_) (fun hc1 => ?_)))))))))
 ·have q1 := X4 hc1 (by omega)
  refine Qf (Qh [true] Z Z (Qa (Qg Z) Z (Qd (Qw (Qm Z Z E ?_)))))
  first | exact Xh (by unfold Y6; omega) | exact Xn (by unfold Y6; omega) (by unfold Y6; omega)
 ·have q2 := X3 hc1 (by omega)
  refine Qp (Qf (Qh [true, true] Z Z (Qa (Qe Z) Z (Qa (Qg Z) Z (Qd (Qw (Qm Z Z E ?_)))))))
  first | exact Xh (by unfold Y6; omega) | exact Xn (by unfold Y6; omega) (by unfold Y6; omega)

set_option maxRecDepth 20000 in
theorem c_eqGraph (cx : List Value) (x : Graph) (cy : List Value) (y : Graph) (w : World) (hx : Dat.R w 0 w.heap.size cx x) (hy : Dat.R w 0 w.heap.size cy y) : Ct Tryz.prog 29 [.agg cx.toArray, .agg cy.toArray] w (fun v _ => v = .bool (decide (x = y))) := by
 refine Yj Tryz.func29 Z Tryz.ntmps29 Z ?_
 obtain ⟨o1, rfl, hd1⟩ := Graph.op hx
 obtain ⟨o2, rfl, hd2⟩ := Graph.op hy
 refine Q7 [(0, .agg [o1, .int .i64 x.workers, .int .i64 x.cap].toArray), (1, .agg [o2, .int .i64 y.workers, .int .i64 y.cap].toArray)] ⟨Z, Z, trivial⟩ ?_
 have E : Ext w w := Ext.refl w
 refine Qf (Qh [false, false, true] Z Z (Yx Z Z (fun b1 w1 e1 s1 h1 => ?_)))
 have g_b1 : w.heap.size ≤ b1 := by have := E.size; omega
 have y_b1 := h1.lt
 replace E := E.trans e1
 have z1 := e1.size
 refine Yx Z Z (fun b2 w2 e2 s2 h2 => ?_)
 have g_b2 : w.heap.size ≤ b2 := by have := E.size; omega
 have y_b2 := h2.lt
 replace E := E.trans e2; replace h1 := h1.ext e2
 have z2 := e2.size
 refine Qa (Qg Z) Z (Qd (Qf (Qf (Qh [true, true, true, true, false, true] Z Z (Qa (Qb Xp Z) Z (Qa (Qi sc32 Z (h1.one 0 Z)) Z (Qa (Qb Xp Z) Z (Qa (Qi sc32 Z (h2.one 0 Z)) Z (Q0 Tryz.call65 Z (c_eqNodeS o1 x.nodes o2 y.nodes _ (RdD.any (hd1.ext E)) (RdD.any (hd2.ext E))) Z (fun _ w3 e3 hv => ?_))))))))))
 subst hv
 replace E := E.trans e3; replace h1 := h1.ext e3; replace h2 := h2.ext e3
 have z3 := e3.size
 refine Qa (Yn Z) Z (Qd (Qu Z (fun hc1 => ?_) (fun hc1 => ?_)))
 ·refine Qf (Qh [true] Z Z (Qa (Qg Z) Z (Qd (Qw (Qm Z Z E ?_)))))
  cases x; cases y; simp_all
 ·refine Qp (Qf (Qf (Qh [true, true, true, true, true] Z Z (Qa (Qb fl34_1 Z) Z (Qa (Qi Yk Z (h1.one 1 Z)) Z (Qa (Qb fl34_1 Z) Z (Qa (Qi Yk Z (h2.one 1 Z)) Z (Qa (Yr Z Z) Z (Qd (Qu Z (fun hc2 => ?_) (fun hc2 => ?_)))))))))))
  ·refine Qf (Qh [true] Z Z (Qa (Qg Z) Z (Qd (Qw (Qm Z Z E ?_)))))
   cases x; cases y; simp_all
  ·refine Qp (Qf (Qf (Qh [true, true, true, true, true] Z Z (Qa (Qb fl34_2 Z) Z (Qa (Qi Yk Z (h1.one 2 Z)) Z (Qa (Qb fl34_2 Z) Z (Qa (Qi Yk Z (h2.one 2 Z)) Z (Qa (Yr Z Z) Z (Qd (Qu Z (fun hc3 => ?_) (fun hc3 => ?_)))))))))))
   ·refine Qf (Qh [true] Z Z (Qa (Qg Z) Z (Qd (Qw (Qm Z Z E ?_)))))
    cases x; cases y; simp_all
   ·refine Qp (Qf (Qh [true] Z Z (Qa (Qg Z) Z (Qd (Qw (Qm Z Z E ?_))))))
    cases x; cases y; simp_all

set_option maxRecDepth 20000 in
theorem c_toGraph (cx : List Value) (x : Graph) (w : World) (hx : Dat.R w 0 w.heap.size cx x) (hb : Y6 x ≤ 1048576) : Ct Tryz.prog 21 [.agg cx.toArray] w (fun v w' => ∃ o, v = .agg [o, .int .i64 x.workers, .int .i64 x.cap].toArray ∧ OwS w' w.heap.size w'.heap.size o x.nodes) := by
 unfold Y6 at hb
 refine Yj Tryz.func21 Z Tryz.ntmps21 Z ?_
 obtain ⟨o1, rfl, hd1⟩ := Graph.op hx
 refine Q7 [(0, .agg [o1, .int .i64 x.workers, .int .i64 x.cap].toArray)] ⟨Z, trivial⟩ ?_
 have E : Ext w w := Ext.refl w
 refine Qf (Qh [false, false] Z Z (Yx Z Z (fun b1 w1 e1 s1 h1 => ?_)))
 have g_b1 : w.heap.size ≤ b1 := by have := E.size; omega
 have y_b1 := h1.lt
 replace E := E.trans e1
 have z1 := e1.size
 refine Yu X2 Z (fun b2 w2 e2 s2 h2 => ?_)
 have g_b2 : w.heap.size ≤ b2 := by have := E.size; omega
 have y_b2 := h2.lt
 replace E := E.trans e2; replace h1 := h1.ext e2
 have z2 := e2.size
 refine Qd (Qf (Qh [false] Z Z (Yu X2 Z (fun b3 w3 e3 s3 h3 => ?_))))
 have g_b3 : w.heap.size ≤ b3 := by have := E.size; omega
 have y_b3 := h3.lt
 replace E := E.trans e3; replace h1 := h1.ext e3; replace h2 := h2.ext e3
 have z3 := e3.size
 refine Qd (Qf (Qh [true, true, false, true, false] Z Z (Qa (Qb fl24_0 Z) Z (Qa (Qi sc22 Z (h1.one 0 Z)) Z (Q0 Tryz.call53 Z (c_toNodeS o1 x.nodes _ (RdD.any (hd1.ext E)) (by first | omega | (simp only [Qj]; omega) | (rw [Qj]; done) | (simp only [Qj]; done))) Z (fun v1 w4 e4 ho1 => ?_))))))
 have g_ho1 : w.heap.size ≤ w3.heap.size := E.size
 replace E := E.trans e4; replace h1 := h1.ext e4; replace h2 := h2.ext e4; replace h3 := h3.ext e4
 have z4 := e4.size
 refine Qa (Qb Xp Z) Z (Ye (cs' := [v1, .int .i64 0, .int .i64 0]) sc32 Z Z (RdD.one (OwS.rd ho1)) h3 (Nat.le_of_ble_eq_true Z) Z (fun w5 m1 h3' => ?_))
 replace h3 := h3'
 replace E := E.step m1 (fun g hg => by cases hg; omega); replace h1 := h1.mod m1 (fun g hg => by cases hg; omega); replace h2 := h2.mod m1 (fun g hg => by cases hg; omega); replace ho1 := ho1.mod m1 (fun g hg => by cases hg; omega)
 have z5 := m1.size
 refine Qd (Qf (Qh [true, true, true, false] Z Z (Qa (Qb fl24_1 Z) Z (Qa (Qi Yk Z (h1.one 1 Z)) Z (Qa (Qb fl34_1 Z) Z (Ye (cs' := [v1, .int .i64 x.workers, .int .i64 0]) Yk Z Z Z h3 (Nat.le_of_ble_eq_true Z) Z (fun w6 m2 h3' => ?_)))))))
 replace h3 := h3'
 replace E := E.step m2 (fun g hg => by cases hg; omega); replace h1 := h1.mod m2 (fun g hg => by cases hg; omega); replace h2 := h2.mod m2 (fun g hg => by cases hg; omega); replace ho1 := ho1.mod m2 (fun g hg => by cases hg; omega)
 have z6 := m2.size
 refine Qd (Qf (Qh [true, true, true, false] Z Z (Qa (Qb fl24_2 Z) Z (Qa (Qi Yk Z (h1.one 2 Z)) Z (Qa (Qb fl34_2 Z) Z (Ye (cs' := [v1, .int .i64 x.workers, .int .i64 x.cap]) Yk Z Z Z h3 (Nat.le_of_ble_eq_true Z) Z (fun w7 m3 h3' => ?_)))))))
 replace h3 := h3'
 replace E := E.step m3 (fun g hg => by cases hg; omega); replace h1 := h1.mod m3 (fun g hg => by cases hg; omega); replace h2 := h2.mod m3 (fun g hg => by cases hg; omega); replace ho1 := ho1.mod m3 (fun g hg => by cases hg; omega)
 have z7 := m3.size
 refine Qd (Qf (Qh [true, false] Z Z (Qa (Q1 X2 Z h3.at Z) Z (Ya (cs' := [v1, .int .i64 x.workers, .int .i64 x.cap]) X2 Z Z Z (Ql (RdD.one (OwS.rd ho1)) (Ql Z (Ql Z Z))) h2 (Nat.le_of_ble_eq_true Z) Z (fun w8 m4 h2' => ?_)))))
 replace h2 := h2'
 replace E := E.step m4 (fun g hg => by cases hg; omega); replace h1 := h1.mod m4 (fun g hg => by cases hg; omega); replace h3 := h3.mod m4 (fun g hg => by cases hg; omega); replace ho1 := ho1.mod m4 (fun g hg => by cases hg; omega)
 have z8 := m4.size
 refine Qd (Qw (Xi Z Z (Ys X2 h2.at Z) E ?_))
 exact ⟨_, Z, OwS.widen ho1 (by have := E.size; omega) (by omega)⟩

set_option maxRecDepth 20000 in
theorem s_l01In (x : Int) (lo : Int) (hi : Int) (w : World)  : Ct Tryz.prog 99 [.int .i64 x, .int .i64 lo, .int .i64 hi] w (fun v _ => v = .bool (Yo x lo hi)) := by
 refine Yj Tryz.func99 Z Tryz.ntmps99 Z ?_
 refine Q7 [(0, .int .i64 x), (1, .int .i64 lo), (2, .int .i64 hi)] ⟨Z, Z, Z, trivial⟩ ?_
 have E : Ext w w := Ext.refl w
 refine Qf (Qh [true] Z Z (Qa (Qg Z) Z (Qd (Qf (Qh [true, true, true, true, true, true, true, true, true] Z Z (Qa (Qe Z) Z (Qa (Qe Z) Z (Qa (R_geq Z Z) Z (Qa (Qe Z) Z (Yz 4 [(0, .int .i64 x), (1, .int .i64 lo), (2, .int .i64 hi), (6, .bool false), (14, .bool ((decide (lo ≤ x)) && (decide (x ≤ hi))))] (fun w' => w = w') ?_ ?_))))))))))
 ·refine Ym (gd := 10) Z Z (fun hg1 => ?_) (fun hg1 => ?_)
  ·refine Qk Z Z (Qe Z) Z (Qk Z Z (Qe Z) Z (Qk Z Z (R_leq Z Z) Z (Qa (Qr Z Z) Z (Qo ⟨Z, Z, Z, Z, congrArg (fun b => some (Value.bool b)) (show (decide (x ≤ hi)) = ((decide (lo ≤ x)) && (decide (x ≤ hi))) by first | (rw [hg1] <;> rfl) | (simp [hg1]; done) | (simp only [Qn] <;> simp)), trivial⟩ Z))))
  ·refine Qc Z Z Z Z (Qc Z Z Z Z (Qc Z Z Z Z (Qa (Qs Z Z) Z (Qo ⟨Z, Z, Z, Z, congrArg (fun b => some (Value.bool b)) (show false = ((decide (lo ≤ x)) && (decide (x ≤ hi))) by first | (rw [hg1] <;> rfl) | (simp [hg1]; done) | (simp only [Qn] <;> simp)), trivial⟩ Z))))
 rintro _ rfl
 refine Qa (Qg Z) Z (Qd (Qw (Qm Z Z E ?_)))
 rfl

set_option maxRecDepth 20000 in
theorem c_within (x : Int) (lo : Int) (hi : Int) (w : World)  : Ct Tryz.prog 62 [.int .i64 x, .int .i64 lo, .int .i64 hi] w (fun v _ => v = .bool (Yo x lo hi)) := by
 refine Yj Tryz.func62 Z Tryz.ntmps62 Z ?_
 refine Q7 [(0, .int .i64 x), (1, .int .i64 lo), (2, .int .i64 hi)] ⟨Z, Z, Z, trivial⟩ ?_
 have E : Ext w w := Ext.refl w
 refine Qf (Qh [true] Z Z (Qa (Qg Z) Z (Qd (Qf (Qh [true, true, true, true, true, true, true, true, true] Z Z (Qa (Qe Z) Z (Qa (Qe Z) Z (Qa (R_geq Z Z) Z (Qa (Qe Z) Z (Yz 4 [(0, .int .i64 x), (1, .int .i64 lo), (2, .int .i64 hi), (6, .bool false), (14, .bool ((decide (lo ≤ x)) && (decide (x ≤ hi))))] (fun w' => w = w') ?_ ?_))))))))))
 ·refine Ym (gd := 10) Z Z (fun hg1 => ?_) (fun hg1 => ?_)
  ·refine Qk Z Z (Qe Z) Z (Qk Z Z (Qe Z) Z (Qk Z Z (R_leq Z Z) Z (Qa (Qr Z Z) Z (Qo ⟨Z, Z, Z, Z, congrArg (fun b => some (Value.bool b)) (show (decide (x ≤ hi)) = ((decide (lo ≤ x)) && (decide (x ≤ hi))) by first | (rw [hg1] <;> rfl) | (simp [hg1]; done) | (simp only [Qn] <;> simp)), trivial⟩ Z))))
  ·refine Qc Z Z Z Z (Qc Z Z Z Z (Qc Z Z Z Z (Qa (Qs Z Z) Z (Qo ⟨Z, Z, Z, Z, congrArg (fun b => some (Value.bool b)) (show false = ((decide (lo ≤ x)) && (decide (x ≤ hi))) by first | (rw [hg1] <;> rfl) | (simp [hg1]; done) | (simp only [Qn] <;> simp)), trivial⟩ Z))))
 rintro _ rfl
 refine Qa (Qg Z) Z (Qd (Qw (Qm Z Z E ?_)))
 rfl

end Go.Proofs.YtbnoffhbponglaaGreat
