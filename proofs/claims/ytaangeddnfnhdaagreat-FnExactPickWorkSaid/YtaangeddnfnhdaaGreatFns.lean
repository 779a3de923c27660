/- What the functions that the laws call come to: a contract each; no condition. -/
import Derived.Test.YtaangeddnfnhdaaGreatTypes
namespace Go.Proofs.YtaangeddnfnhdaaGreat
open Go Go.Proofs.YtaangeddnfnhdaaGreat.X Go.Proofs
set_option maxRecDepth 20000 in
theorem c_l02Order (a : Int) (b : Int) (w : World)  : Ct Tryz.prog 158 [.int .i64 a,.int .i64 b] w (fun v _=>v = .int .i64 (Xt a b)):=by
 refine Yh Tryz.func158 Z Tryz.ntmps158 Z ?_
 refine Q7 [(0,.int .i64 a),(1,.int .i64 b)] ⟨Z,Z,trivial⟩ ?_
 have E : Ext w w:=Ext.refl w
 refine Qf (Qh [true] Z Z (Qa (Qe Z) Z (Qd (Qf (Q0 (Qf (Qh [true,true,true,true] Z Z (Qa (Qc Z) Z (Qa (Qc Z) Z (Qa (Yf Z Z) Z (Qa (Qe Z) Z (Qd (Qs Z (fun hc1=>?_) (fun hc1=>?_))))))))))))))
 ·refine Qf (Qh [true] Z Z (Qa (Qe Z) Z (Qd (Qw (Q2 (Ql Z Z E (congrArg (Value.int .i64) ?_)))))))
  simp at *
  unfold Xt;(repeat' split) <;> first | rfl | omega
 ·refine Qf (Qh [true,true,true,true] Z Z (Qa (Qc Z) Z (Qa (Qc Z) Z (Qa (V0 Z Z) Z (Qa (Qe Z) Z (Qd (Qs Z (fun hc2=>?_) (fun hc2=>?_))))))))
  ·refine Qf (Qh [true] Z Z (Qa (Qe Z) Z (Qd (Qw (Q2 (Ql Z Z E (congrArg (Value.int .i64) ?_)))))))
   simp at *
   unfold Xt;(repeat' split) <;> first | rfl | omega
  ·refine Qn (Q4 (Yr (Qf (Qh [true] Z Z (Qa (Qe Z) Z (Qd (Qw (Ql Z Z E (congrArg (Value.int .i64) ?_)))))))))
   simp at *
   unfold Xt;(repeat' split) <;> first | rfl | omega

set_option maxRecDepth 20000 in
theorem c_toCell (x : Cell) (w : World)  : Ct Tryz.prog 133 [.agg (Enc.enc x).toArray] w (fun v _=>v = .agg (Enc.enc x).toArray):=by
 refine Yh Tryz.func133 Z Tryz.ntmps133 Z ?_
 refine Q7 [(0,.agg (Enc.enc x).toArray)] ⟨Z,trivial⟩ ?_
 have E : Ext w w:=Ext.refl w
 refine Qf (Qh [false,false] Z Z (Y1 Z Z (fun b1 w1 e1 s1 h1=>?_)))
 have g_b1 : w.heap.size ≤ b1:=by have:=E.size;omega
 have y_b1:=h1.lt
 replace E:=E.trans e1
 have z1:=e1.size
 refine Yk Xn Z (fun b2 w2 e2 s2 h2=>?_)
 have g_b2 : w.heap.size ≤ b2:=by have:=E.size;omega
 have y_b2:=h2.lt
 replace E:=E.trans e2;replace h1:=h1.ext e2
 have z2:=e2.size
 refine Qd (Qf (Qh [false] Z Z (Yk Xn Z (fun b3 w3 e3 s3 h3=>?_))))
 have g_b3 : w.heap.size ≤ b3:=by have:=E.size;omega
 have y_b3:=h3.lt
 replace E:=E.trans e3;replace h1:=h1.ext e3;replace h2:=h2.ext e3
 have z3:=e3.size
 refine Qd (Qf (Qh [true,true,true,false] Z Z (Qa (Qb fl184_0 Z) Z (Qa (Qj Yo Z (h1.one 0 Z)) Z (Qa (Qb K5 Z) Z (Yj (cs':=[.int .i64 x.op,.int .i64 0,.int .i64 0,.int .i64 0]) Yo Z Z Z h3 (Nat.le_of_ble_eq_true Z) Z (fun w4 m1 h3'=>?_)))))))
 replace h3:=h3'
 replace E:=E.step m1 (fun g hg=>by cases hg;omega);replace h1:=h1.mod m1 (fun g hg=>by cases hg;omega);replace h2:=h2.mod m1 (fun g hg=>by cases hg;omega)
 have z4:=m1.size
 refine Qd (Qf (Qh [true,true,true,false] Z Z (Qa (Qb fl184_1 Z) Z (Qa (Qj Yo Z (h1.one 1 Z)) Z (Qa (Qb K4 Z) Z (Yj (cs':=[.int .i64 x.op,.int .i64 x.epoch,.int .i64 0,.int .i64 0]) Yo Z Z Z h3 (Nat.le_of_ble_eq_true Z) Z (fun w5 m2 h3'=>?_)))))))
 replace h3:=h3'
 replace E:=E.step m2 (fun g hg=>by cases hg;omega);replace h1:=h1.mod m2 (fun g hg=>by cases hg;omega);replace h2:=h2.mod m2 (fun g hg=>by cases hg;omega)
 have z5:=m2.size
 refine Qd (Qf (Qh [true,true,true,false] Z Z (Qa (Qb fl184_2 Z) Z (Qa (Qj Yo Z (h1.one 2 Z)) Z (Qa (Qb K3 Z) Z (Yj (cs':=[.int .i64 x.op,.int .i64 x.epoch,.int .i64 x.key,.int .i64 0]) Yo Z Z Z h3 (Nat.le_of_ble_eq_true Z) Z (fun w6 m3 h3'=>?_)))))))
 replace h3:=h3'
 replace E:=E.step m3 (fun g hg=>by cases hg;omega);replace h1:=h1.mod m3 (fun g hg=>by cases hg;omega);replace h2:=h2.mod m3 (fun g hg=>by cases hg;omega)
 have z6:=m3.size
 refine Qd (Qf (Qh [true,true,true,false] Z Z (Qa (Qb fl184_3 Z) Z (Qa (Qj Yo Z (h1.one 3 Z)) Z (Qa (Qb Ul Z) Z (Yj (cs':=[.int .i64 x.op,.int .i64 x.epoch,.int .i64 x.key,.int .i64 x.val]) Yo Z Z Z h3 (Nat.le_of_ble_eq_true Z) Z (fun w7 m4 h3'=>?_)))))))
 replace h3:=h3'
 replace E:=E.step m4 (fun g hg=>by cases hg;omega);replace h1:=h1.mod m4 (fun g hg=>by cases hg;omega);replace h2:=h2.mod m4 (fun g hg=>by cases hg;omega)
 have z7:=m4.size
 refine Qd (Qf (Qh [true,false] Z Z (Qa (Qt Xn Z h3.at Z) Z (Q6 (cs':=[.int .i64 x.op,.int .i64 x.epoch,.int .i64 x.key,.int .i64 x.val]) Xn Z Z Z Z h2 (Nat.le_of_ble_eq_true Z) Z (fun w8 m5 h2'=>?_)))))
 replace h2:=h2'
 replace E:=E.step m5 (fun g hg=>by cases hg;omega);replace h1:=h1.mod m5 (fun g hg=>by cases hg;omega);replace h3:=h3.mod m5 (fun g hg=>by cases hg;omega)
 have z8:=m5.size
 refine Qd (Qw (Kk Z Z (Yi Xn h2.at Z) E ?_))
 rfl

set_option maxRecDepth 20000 in
theorem c_eqCell (x : Cell) (y : Cell) (w : World)  : Ct Tryz.prog 145 [.agg (Enc.enc x).toArray,.agg (Enc.enc y).toArray] w (fun v _=>v = .bool (decide (x = y))):=by
 refine Yh Tryz.func145 Z Tryz.ntmps145 Z ?_
 refine Q7 [(0,.agg (Enc.enc x).toArray),(1,.agg (Enc.enc y).toArray)] ⟨Z,Z,trivial⟩ ?_
 have E : Ext w w:=Ext.refl w
 refine Qf (Qh [false,false,true] Z Z (Y1 Z Z (fun b1 w1 e1 s1 h1=>?_)))
 have g_b1 : w.heap.size ≤ b1:=by have:=E.size;omega
 have y_b1:=h1.lt
 replace E:=E.trans e1
 have z1:=e1.size
 refine Y1 Z Z (fun b2 w2 e2 s2 h2=>?_)
 have g_b2 : w.heap.size ≤ b2:=by have:=E.size;omega
 have y_b2:=h2.lt
 replace E:=E.trans e2;replace h1:=h1.ext e2
 have z2:=e2.size
 refine Qa (Qe Z) Z (Qd (Qf (Qf (Qh [true,true,true,true,true] Z Z (Qa (Qb K5 Z) Z (Qa (Qj Yo Z (h1.one 0 Z)) Z (Qa (Qb K5 Z) Z (Qa (Qj Yo Z (h2.one 0 Z)) Z (Qa (Yu Z Z) Z (Qd (Qs Z (fun hc1=>?_) (fun hc1=>?_))))))))))))
 ·refine Qf (Qh [true] Z Z (Qa (Qe Z) Z (Qd (Qw (Ql Z Z E ?_)))))
  cases x;cases y;simp_all
 ·refine Qn (Qf (Qf (Qh [true,true,true,true,true] Z Z (Qa (Qb K4 Z) Z (Qa (Qj Yo Z (h1.one 1 Z)) Z (Qa (Qb K4 Z) Z (Qa (Qj Yo Z (h2.one 1 Z)) Z (Qa (Yu Z Z) Z (Qd (Qs Z (fun hc2=>?_) (fun hc2=>?_)))))))))))
  ·refine Qf (Qh [true] Z Z (Qa (Qe Z) Z (Qd (Qw (Ql Z Z E ?_)))))
   cases x;cases y;simp_all
  ·refine Qn (Qf (Qf (Qh [true,true,true,true,true] Z Z (Qa (Qb K3 Z) Z (Qa (Qj Yo Z (h1.one 2 Z)) Z (Qa (Qb K3 Z) Z (Qa (Qj Yo Z (h2.one 2 Z)) Z (Qa (Yu Z Z) Z (Qd (Qs Z (fun hc3=>?_) (fun hc3=>?_)))))))))))
   ·refine Qf (Qh [true] Z Z (Qa (Qe Z) Z (Qd (Qw (Ql Z Z E ?_)))))
    cases x;cases y;simp_all
   ·refine Qn (Qf (Qf (Qh [true,true,true,true,true] Z Z (Qa (Qb Ul Z) Z (Qa (Qj Yo Z (h1.one 3 Z)) Z (Qa (Qb Ul Z) Z (Qa (Qj Yo Z (h2.one 3 Z)) Z (Qa (Yu Z Z) Z (Qd (Qs Z (fun hc4=>?_) (fun hc4=>?_)))))))))))
    ·refine Qf (Qh [true] Z Z (Qa (Qe Z) Z (Qd (Qw (Ql Z Z E ?_)))))
     cases x;cases y;simp_all
    ·refine Qn (Qf (Qh [true] Z Z (Qa (Qe Z) Z (Qd (Qw (Ql Z Z E ?_))))))
     cases x;cases y;simp_all

set_option maxRecDepth 20000 in
theorem c_szCellS (vxs : Value) (xs : List Cell) (n : Int) (w : World) (hxs : RdS w vxs xs) (h0 : 0 ≤ n ∧ n ≤ 1048576) : Ct Tryz.prog 82 [vxs,.int .i64 n] w (fun v _=>v = .int .i64 (Up xs.length n)):=by
 refine Yh Tryz.func82 Z Tryz.ntmps82 Z ?_
 refine Q7 [(0,vxs),(1,.int .i64 n)] ⟨Z,Z,trivial⟩ ?_
 have E : Ext w w:=Ext.refl w
 refine Qf (Qh [true] Z Z (Qa (Qe Z) Z (Qd (Qf (Qh [true,true,true,true,true] Z Z (Qa (Qc Z) Z (Qa (Qc Z) Z (Qa (Ya Tryz.underlying86 Z (hxs.ext E).len) Z (Qa (Uu Z Z Z) Z (Qa (Qe Z) Z (Qd (Qf (Qf (Qh [true,true] Z Z (Qa (Qc Z) Z (Qa (Yf Z Z) Z (Qd (Qs Z (fun hc1=>?_) (fun hc1=>?_)))))))))))))))))))
 ·refine Qf (Qh [true] Z Z (Qa (Qe Z) Z (Qd (Qw (Ql Z Z E ?_)))))
  exact B3 h0.2 h0.1 hxs.1 hc1
 ·refine Qn (Qf (Qh [true,true] Z Z (Qa (Qc Z) Z (Qa (Qe Z) Z (Qd (Qw (Ql Z Z E ?_)))))))
  exact C0 h0.2 h0.1 hxs.1 hc1

set_option maxRecDepth 20000 in
theorem c_eqCellS (vxs : Value) (xs : List Cell) (vys : Value) (ys : List Cell) (w : World) (hxs : RdS w vxs xs) (hys : RdS w vys ys) : Ct Tryz.prog 121 [vxs,vys] w (fun v _=>v = .bool (decide (xs = ys))):=by
 refine Yh Tryz.func121 Z Tryz.ntmps121 Z ?_
 refine Q7 [(0,vxs),(1,vys)] ⟨Z,Z,trivial⟩ ?_
 have E : Ext w w:=Ext.refl w
 refine Qf (Qh [true] Z Z (Qa (Qe Z) Z (Qd (Qf (Qf (Qh [true,true,true,true,true] Z Z (Qa (Qc Z) Z (Qa (Ya Tryz.underlying65 Z (hxs.ext E).len) Z (Qa (Qc Z) Z (Qa (Ya Tryz.underlying65 Z (hys.ext E).len) Z (Qa (Yu Z Z) Z (Qd (Qs Z (fun hc1=>?_) (fun hc1=>?_))))))))))))))
 ·have hc1n : ¬ xs.length = ys.length:=by first | (have h:=of_decide_eq_true hc1;omega) | (have h:=hc1;simp at h;omega)
  refine Qf (Qh [true] Z Z (Qa (Qe Z) Z (Qd (Qw (Ql Z Z E ?_)))))
  simp [H6 hc1n]
 ·have hc1n : xs.length = ys.length:=by first | (have h:=of_decide_eq_false hc1;omega) | (have h:=hc1;simp at h;omega)
  refine Qn (Qf (Qf (Qh [true] Z Z (Qa (Qe Z) Z (Qd (Q0 (Ym (fun (k : Nat)=>[(0,vxs),(1,vys),(4,.bool false),(5,.int .i64 ((k : Nat) : Int))]) (fun (k : Nat) w'=>Ext w w' ∧ w.heap.size ≤ w'.heap.size ∧ k ≤ xs.length ∧ xs.take k = ys.take k) (fun (k : Nat)=>xs.length - k) 0 ⟨Z,Z,Z,Z,trivial⟩ ⟨E,Nat.le_refl _,Nat.zero_le _,Z⟩ ?_)))))))
  clear E
  rintro k w1 ⟨E,z1,hk,hp⟩
  refine Qf (Qf (Qh [true,true,true,true] Z Z (Qa (Qc Z) Z (Qa (Qc Z) Z (Qa (Ya Tryz.underlying65 Z (hxs.ext E).len) Z (Qa (Yf Z Z) Z (Qd (Qs Z (fun hc2=>?_) (fun hc2=>?_)))))))))
  ·have hc2n : k < xs.length:=by first | (have h:=of_decide_eq_true hc2;omega) | (have h:=hc2;simp at h;omega)
   refine Qn (Qf (Q0 (Qf (Xj Xi [(0,true),(1,true),(2,true),(3,true),(4,true),(5,true),(6,true),(7,true),(8,false),(9,true)] (by decide +kernel) Z (fun w2 e1=>?_)))))
   replace E:=E.trans e1
   have z2:=e1.size
   refine Qa (Qc Z) Z (Qa (Qc Z) Z ?_)
   have hi1 : k < xs.length:=(by first | assumption | omega | (simp only [List.length_set];first | assumption | omega))
   refine Qa (Q1 (i:=k) Xq Z Z (hxs.ext E) hi1) Z (Qa (Qt Xn Z ((hxs.ext E).get hi1) Z) Z (Qa (Qc Z) Z (Qa (Qc Z) Z ?_)))
   have hi2 : k < ys.length:=(by first | assumption | omega | (simp only [List.length_set];first | assumption | omega))
   refine Qa (Q1 (i:=k) Xq Z Z (hys.ext E) hi2) Z (Qa (Qt Xn Z ((hys.ext E).get hi2) Z) Z (Qv Tryz.call145 Z (c_eqCell (xs[k]'hi1) (ys[k]'hi2) _ ) Z (fun _ w3 e2 hv=>?_)))
   subst hv
   replace E:=E.trans e2
   have z3:=e2.size
   refine Qa (Yq Z) Z (Qd (Qs Z (fun hc3=>?_) (fun hc3=>?_)))
   ·refine Qf (Qh [true] Z Z (Qa (Qe Z) Z (Qd (Qw (Q2 (Y0 (Q2 (Ql Z Z E ?_))))))))
    exact H7 (by omega) (by omega) (by simpa using hc3)
   ·refine Qn (Q4 (Yr (Qh [true,true,true] Z Z (Qa (Qc Z) Z (Qa (Q8 Z Z (Yt hc2n hxs.1)) Z (Qa (Qe Z) Z (Qd (Q4 (Yc (k + 1) (by omega) ⟨Z,Z,Z,Z,trivial⟩ ⟨E,(by omega),(by omega),Vn hp (by assumption) (by omega) (by simpa using hc3)⟩)))))))))
  ·have hc2n : ¬ k < xs.length:=by first | (have h:=of_decide_eq_false hc2;omega) | (have h:=hc2;simp at h;omega)
   refine Yn (Q5 (Q3 ?_))
   refine Qf (Qh [true] Z Z (Qa (Qe Z) Z (Qd (Qw (Ql Z Z E ?_)))))
   exact Gr hp hc1n (by omega)

set_option maxRecDepth 20000 in
theorem c_isNaN (a : Int) (w : World)  : Ct Tryz.prog 166 [.int .i64 a] w (fun v _=>v = .bool false):=by
 refine Yh Tryz.func166 Z Tryz.ntmps166 Z ?_
 refine Q7 [(0,.int .i64 a)] ⟨Z,trivial⟩ ?_
 have E : Ext w w:=Ext.refl w
 refine Qf (Qh [true] Z Z (Qa (Qe Z) Z (Qd (Qf (Qh [true,true,true,true] Z Z (Qa (Qc Z) Z (Qa (Qc Z) Z (Qa (Yu Z Z) Z (Qa (Qe Z) Z (Qd (Qw (Ql Z Z E ?_))))))))))))
 simp

set_option maxRecDepth 20000 in
theorem c_cmpCompare (a : Int) (b : Int) (w : World)  : Ct Tryz.prog 164 [.int .i64 a,.int .i64 b] w (fun v _=>v = .int .i64 (Xt a b)):=by
 refine Yh Tryz.func164 Z Tryz.ntmps164 Z ?_
 refine Q7 [(0,.int .i64 a),(1,.int .i64 b)] ⟨Z,Z,trivial⟩ ?_
 have E : Ext w w:=Ext.refl w
 refine Qf (Qh [true] Z Z (Qa (Qe Z) Z (Qd (Qf (Qh [true,false,true] Z Z (Qa (Qc Z) Z (Qv Tryz.call166 Z (c_isNaN a _ ) Z (fun _ w1 e1 hv=>?_))))))))
 subst hv
 replace E:=E.trans e1
 have z1:=e1.size
 refine Qa (Qe Z) Z (Qd (Qf (Qh [true,false,true] Z Z (Qa (Qc Z) Z (Qv Tryz.call166 Z (c_isNaN b _ ) Z (fun _ w2 e2 hv=>?_))))))
 subst hv
 replace E:=E.trans e2
 have z2:=e2.size
 refine Qa (Qe Z) Z (Qd (Qf (Qf (Qh [true] Z Z (Qa (Qc Z) Z (Qd (S_condF Z (Qn (Qf (Qf (Qh [true] Z Z (Qa (Qc Z) Z (Qd (S_condF Z (Qn (Qf (Qf (Qh [true,true,true] Z Z (Qa (Qc Z) Z (Qa (Qc Z) Z (Qa (Yf Z Z) Z (Qd (Qs Z (fun hc1=>?_) (fun hc1=>?_))))))))))))))))))))))))
 ·refine Qf (Qh [true] Z Z (Qa (Qe Z) Z (Qd (Qw (Ql Z Z E (congrArg (Value.int .i64) ?_))))))
  simp at *
  unfold Xt;(repeat' split) <;> first | rfl | omega
 ·refine Qn (Qf (Qf (Qh [true,true,true] Z Z (Qa (Qc Z) Z (Qa (Qc Z) Z (Qa (V0 Z Z) Z (Qd (Qs Z (fun hc2=>?_) (fun hc2=>?_)))))))))
  ·refine Qf (Qh [true] Z Z (Qa (Qe Z) Z (Qd (Qw (Ql Z Z E (congrArg (Value.int .i64) ?_))))))
   simp at *
   unfold Xt;(repeat' split) <;> first | rfl | omega
  ·refine Qn (Qf (Qh [true] Z Z (Qa (Qe Z) Z (Qd (Qw (Ql Z Z E (congrArg (Value.int .i64) ?_)))))))
   simp at *
   unfold Xt;(repeat' split) <;> first | rfl | omega

set_option maxRecDepth 20000 in
theorem c_slicesCompare (vxs : Value) (xs : List Int) (vys : Value) (ys : List Int) (w : World) (hxs : RdS w vxs xs) (hys : RdS w vys ys) : Ct Tryz.prog 159 [vxs,vys] w (fun v _=>v = .int .i64 (Vt xs ys)):=by
 refine Yh Tryz.func159 Z Tryz.ntmps159 Z ?_
 refine Q7 [(0,vxs),(1,vys)] ⟨Z,Z,trivial⟩ ?_
 have E : Ext w w:=Ext.refl w
 refine Qf (Qh [true] Z Z (Qa (Qe Z) Z (Qd (Qf (Qf (Qh [true,true,true] Z Z (Qa (Qc Z) Z (Qa (Ya Tryz.underlying66 Z (hxs.ext E).len) Z (Qa (Qc Z) Z (Qd (Q0 (Ym (fun (k : Nat)=>[(0,vxs),(1,vys),(4,.int .i64 0),(9,vxs),(10,.int .i64 ((xs.length : Nat) : Int)),(11,.int .i64 ((k : Nat) : Int))]) (fun (k : Nat) w'=>Ext w w' ∧ w.heap.size ≤ w'.heap.size ∧ k ≤ xs.length ∧ k ≤ ys.length ∧ Vt (xs.drop k) (ys.drop k) = Vt xs ys) (fun (k : Nat)=>xs.length - k) 0 ⟨Z,Z,Z,Z,Z,Z,trivial⟩ ⟨E,Nat.le_refl _,Nat.zero_le _,Nat.zero_le _,Z⟩ ?_))))))))))))
 clear E
 rintro k w1 ⟨E,z1,hk,hky,hI⟩
 refine Qf (Qh [true] Z Z (Qa (Yf Z Z) Z (Qd (Qf (Qs Z (fun hc1=>?_) (fun hc1=>?_))))))
 ·have hc1n : k < xs.length:=by first | (have h:=of_decide_eq_true hc1;omega) | (have h:=hc1;simp at h;omega)
  refine Qn (Qf (Q0 (Qf (Qh [true,true,true,true,true] Z Z (Qa (Qc Z) Z ?_)))))
  have hi1 : k < xs.length:=(by first | assumption | omega | (simp only [List.length_set];first | assumption | omega))
  refine Qa (Q1 (i:=k) Uv Z Z (hxs.ext E) hi1) Z (Qa (Qj Yo Z (((hxs.ext E).get hi1).one 0 Z)) Z (Qa (Qe Z) Z (Qa (Qe Z) Z (Qd (Qf (Qf (Qh [true,true,true,true] Z Z (Qa (Qc Z) Z (Qa (Qc Z) Z (Qa (Ya Tryz.underlying66 Z (hys.ext E).len) Z (Qa (T0 Z Z) Z (Qd (Qs Z (fun hc2=>?_) (fun hc2=>?_))))))))))))))
  ·have hc2n : k ≥ ys.length:=by first | (have h:=of_decide_eq_true hc2;omega) | (have h:=hc2;simp at h;omega)
   refine Qf (Qh [true] Z Z (Qa (Qe Z) Z (Qd (Qw (Q2 (Y0 (Q2 (Ql Z Z E ?_))))))))
   exact cmpL_1 hI (by omega) (by omega)
  ·have hc2n : ¬ k ≥ ys.length:=by first | (have h:=of_decide_eq_false hc2;omega) | (have h:=hc2;simp at h;omega)
   refine Qn (Qf (Qh [true,true,true,true,true] Z Z (Qa (Qc Z) Z (Qa (Qc Z) Z ?_))))
   have hi2 : k < ys.length:=(by first | assumption | omega | (simp only [List.length_set];first | assumption | omega))
   refine Qa (Q1 (i:=k) Uv Z Z (hys.ext E) hi2) Z (Qa (Qj Yo Z (((hys.ext E).get hi2).one 0 Z)) Z (Qa (Qe Z) Z (Qd (Qf (Qh [true,true,false,true] Z Z (Qa (Qc Z) Z (Qa (Qc Z) Z (Qv Tryz.call164 Z (c_cmpCompare (xs[k]'hi1) (ys[k]'hi2) _ ) Z (fun _ w2 e1 hv=>?_)))))))))
   subst hv
   replace E:=E.trans e1
   have z2:=e1.size
   refine Qa (Qe Z) Z (Qd (Qf (Qh [true,true] Z Z (Qa (Qc Z) Z (Qa (Yu Z Z) Z (Qd (Qs Z (fun hc3=>?_) (fun hc3=>?_))))))))
   ·refine Qf (Qh [true,true] Z Z (Qa (Qc Z) Z (Qa (Qe Z) Z (Qd (Qw (Q2 (Y0 (Q2 (Ql Z Z E ?_)))))))))
    exact cmpL_2 hI (by omega) (by omega) (by simpa using hc3)
   ·refine Qn (Q4 (Yr (Qh [true,true] Z Z (Qa (Q8 Z Z (Yt hc1n hxs.1)) Z (Qa (Qc Z) Z (Qd (Q4 (Yc (k + 1) (by omega) ⟨Z,Z,Z,Z,Z,Z,trivial⟩ ⟨E,(by omega),(by omega),(by omega),cmpL_step hI (by omega) (by omega) (by simpa using hc3)⟩))))))))
 ·have hc1n : ¬ k < xs.length:=by first | (have h:=of_decide_eq_false hc1;omega) | (have h:=hc1;simp at h;omega)
  refine Yn (Q5 (Q3 ?_))
  refine Qf (Qf (Qh [true,true,true,true,true] Z Z (Qa (Qc Z) Z (Qa (Ya Tryz.underlying66 Z (hxs.ext E).len) Z (Qa (Qc Z) Z (Qa (Ya Tryz.underlying66 Z (hys.ext E).len) Z (Qa (Yf Z Z) Z (Qd (Qs Z (fun hc4=>?_) (fun hc4=>?_))))))))))
  ·have hc4n : xs.length < ys.length:=by first | (have h:=of_decide_eq_true hc4;omega) | (have h:=hc4;simp at h;omega)
   refine Qf (Qh [true] Z Z (Qa (Qe Z) Z (Qd (Qw (Ql Z Z E ?_)))))
   exact cmpL_3 hI (by omega) (by omega)
  ·have hc4n : ¬ xs.length < ys.length:=by first | (have h:=of_decide_eq_false hc4;omega) | (have h:=hc4;simp at h;omega)
   refine Qn (Qf (Qh [true] Z Z (Qa (Qe Z) Z (Qd (Qw (Ql Z Z E ?_))))))
   exact cmpL_4 hI (by omega) (by omega)

set_option maxRecDepth 20000 in
theorem c_orderOf (vxs : Value) (xs : List Int) (vys : Value) (ys : List Int) (w : World) (hxs : RdS w vxs xs) (hys : RdS w vys ys) : Ct Tryz.prog 149 [vxs,vys] w (fun v _=>v = .int .i64 (Vt xs ys)):=by
 refine Yh Tryz.func149 Z Tryz.ntmps149 Z ?_
 refine Q7 [(0,vxs),(1,vys)] ⟨Z,Z,trivial⟩ ?_
 have E : Ext w w:=Ext.refl w
 refine Qf (Qh [true] Z Z (Qa (Qe Z) Z (Qd (Qf (Qh [true,true,false,true] Z Z (Qa (Qc Z) Z (Qa (Qc Z) Z (Qv Tryz.call159 Z (c_slicesCompare vxs xs vys ys _ (hxs.ext E) (hys.ext E)) Z (fun _ w1 e1 hv=>?_)))))))))
 subst hv
 replace E:=E.trans e1
 have z1:=e1.size
 refine Qa (Qe Z) Z (Qd (Qw (Ql Z Z E ?_)))
 rfl

set_option maxRecDepth 20000 in
theorem c_CellOrder (x : Cell) (y : Cell) (w : World)  : Ct Tryz.prog 136 [.agg (Enc.enc x).toArray,.agg (Enc.enc y).toArray] w (fun v _=>v = .int .i64 (Ka x y)):=by
 refine Yh Tryz.func136 Z Tryz.ntmps136 Z ?_
 refine Q7 [(0,.agg (Enc.enc x).toArray),(1,.agg (Enc.enc y).toArray)] ⟨Z,Z,trivial⟩ ?_
 have E : Ext w w:=Ext.refl w
 refine Qf (Qh [false,false,true] Z Z (Y1 Z Z (fun b1 w1 e1 s1 h1=>?_)))
 have g_b1 : w.heap.size ≤ b1:=by have:=E.size;omega
 have y_b1:=h1.lt
 replace E:=E.trans e1
 have z1:=e1.size
 refine Y1 Z Z (fun b2 w2 e2 s2 h2=>?_)
 have g_b2 : w.heap.size ≤ b2:=by have:=E.size;omega
 have y_b2:=h2.lt
 replace E:=E.trans e2;replace h1:=h1.ext e2
 have z2:=e2.size
 refine Qa (Qe Z) Z (Qd (Qf (Qh [true,true,true,true,true,true,true,true,false,true,true,true,true,true,true,true,true,false,false,true] Z Z (Qa (Qb K4 Z) Z (Qa (Qj Yo Z (h1.one 1 Z)) Z (Qa (Qb K5 Z) Z (Qa (Qj Yo Z (h1.one 0 Z)) Z (Qa (Qb K3 Z) Z (Qa (Qj Yo Z (h1.one 2 Z)) Z (Qa (Qb Ul Z) Z (Qa (Qj Yo Z (h1.one 3 Z)) Z (Yz (vs:=[.int .i64 x.epoch,.int .i64 x.op,.int .i64 x.key,.int .i64 x.val]) (css:=[[.int .i64 x.epoch],[.int .i64 x.op],[.int .i64 x.key],[.int .i64 x.val]]) Uv Z Z ⟨⟨Z,Z⟩,⟨Z,Z⟩,⟨Z,Z⟩,⟨Z,Z⟩,trivial⟩ Z Z (fun b3 w3 e3 s3 h3=>?_)))))))))))))
 replace h3 : Blk w3 b3 [.int .i64 x.epoch,.int .i64 x.op,.int .i64 x.key,.int .i64 x.val]:=h3
 have g_b3 : w.heap.size ≤ b3:=by have:=E.size;omega
 have y_b3:=h3.lt
 replace E:=E.trans e3;replace h1:=h1.ext e3;replace h2:=h2.ext e3
 have z3:=e3.size
 refine Qa (Qb K4 Z) Z (Qa (Qj Yo Z (h2.one 1 Z)) Z (Qa (Qb K5 Z) Z (Qa (Qj Yo Z (h2.one 0 Z)) Z (Qa (Qb K3 Z) Z (Qa (Qj Yo Z (h2.one 2 Z)) Z (Qa (Qb Ul Z) Z (Qa (Qj Yo Z (h2.one 3 Z)) Z (Yz (vs:=[.int .i64 y.epoch,.int .i64 y.op,.int .i64 y.key,.int .i64 y.val]) (css:=[[.int .i64 y.epoch],[.int .i64 y.op],[.int .i64 y.key],[.int .i64 y.val]]) Uv Z Z ⟨⟨Z,Z⟩,⟨Z,Z⟩,⟨Z,Z⟩,⟨Z,Z⟩,trivial⟩ Z Z (fun b4 w4 e4 s4 h4=>?_)))))))))
 replace h4 : Blk w4 b4 [.int .i64 y.epoch,.int .i64 y.op,.int .i64 y.key,.int .i64 y.val]:=h4
 have g_b4 : w.heap.size ≤ b4:=by have:=E.size;omega
 have y_b4:=h4.lt
 replace E:=E.trans e4;replace h1:=h1.ext e4;replace h2:=h2.ext e4;replace h3:=h3.ext e4
 have z4:=e4.size
 refine Qv Tryz.call149 Z (c_orderOf (.slice (some ⟨b3,0,none⟩) 4 4) [x.epoch,x.op,x.key,x.val] (.slice (some ⟨b4,0,none⟩) 4 4) [y.epoch,y.op,y.key,y.val] _ (Blk.rd (α:=Int) (xs:=[x.epoch,x.op,x.key,x.val]) (by decide) h3 Z (by simp [maxLen])) (Blk.rd (α:=Int) (xs:=[y.epoch,y.op,y.key,y.val]) (by decide) h4 Z (by simp [maxLen]))) Z (fun _ w5 e5 hv=>?_)
 subst hv
 replace E:=E.trans e5;replace h1:=h1.ext e5;replace h2:=h2.ext e5;replace h3:=h3.ext e5;replace h4:=h4.ext e5
 have z5:=e5.size
 refine Qa (Qe Z) Z (Qd (Qw (Ql Z Z E ?_)))
 rfl

set_option maxRecDepth 20000 in
theorem s_CellOrder (x : Cell) (y : Cell) (w : World)  : Ct Tryz.prog 147 [.agg (Enc.enc x).toArray,.agg (Enc.enc y).toArray] w (fun v _=>v = .int .i64 (Ka x y)):=by
 refine Yh Tryz.func147 Z Tryz.ntmps147 Z ?_
 refine Q7 [(0,.agg (Enc.enc x).toArray),(1,.agg (Enc.enc y).toArray)] ⟨Z,Z,trivial⟩ ?_
 have E : Ext w w:=Ext.refl w
 refine Qf (Qh [false,false,true] Z Z (Y1 Z Z (fun b1 w1 e1 s1 h1=>?_)))
 have g_b1 : w.heap.size ≤ b1:=by have:=E.size;omega
 have y_b1:=h1.lt
 replace E:=E.trans e1
 have z1:=e1.size
 refine Y1 Z Z (fun b2 w2 e2 s2 h2=>?_)
 have g_b2 : w.heap.size ≤ b2:=by have:=E.size;omega
 have y_b2:=h2.lt
 replace E:=E.trans e2;replace h1:=h1.ext e2
 have z2:=e2.size
 refine Qa (Qe Z) Z (Qd (Qf (Xj Xi [(0,true),(1,true),(2,true),(3,true),(5,true),(6,true),(7,true),(8,true),(10,true),(11,true),(12,true),(13,true),(15,true),(16,true),(17,true),(18,true),(4,false),(9,false),(14,false),(19,false),(20,false),(21,true)] (by decide +kernel) Z (fun w3 e3=>?_))))
 replace E:=E.trans e3;replace h1:=h1.ext e3;replace h2:=h2.ext e3
 have z3:=e3.size
 refine Qa (Qb K4 Z) Z (Qa (Qj Yo Z (h1.one 1 Z)) Z (Qa (Qb K4 Z) Z (Qa (Qj Yo Z (h2.one 1 Z)) Z (Qa (Qb K5 Z) Z (Qa (Qj Yo Z (h1.one 0 Z)) Z (Qa (Qb K5 Z) Z (Qa (Qj Yo Z (h2.one 0 Z)) Z (Qa (Qb K3 Z) Z (Qa (Qj Yo Z (h1.one 2 Z)) Z (Qa (Qb K3 Z) Z (Qa (Qj Yo Z (h2.one 2 Z)) Z (Qa (Qb Ul Z) Z (Qa (Qj Yo Z (h1.one 3 Z)) Z (Qa (Qb Ul Z) Z (Qa (Qj Yo Z (h2.one 3 Z)) Z (Qv Tryz.call158 Z (c_l02Order x.epoch y.epoch _ ) Z (fun _ w4 e4 hv=>?_)))))))))))))))))
 subst hv
 replace E:=E.trans e4;replace h1:=h1.ext e4;replace h2:=h2.ext e4
 have z4:=e4.size
 refine Qv Tryz.call158 Z (c_l02Order x.op y.op _ ) Z (fun _ w5 e5 hv=>?_)
 subst hv
 replace E:=E.trans e5;replace h1:=h1.ext e5;replace h2:=h2.ext e5
 have z5:=e5.size
 refine Qv Tryz.call158 Z (c_l02Order x.key y.key _ ) Z (fun _ w6 e6 hv=>?_)
 subst hv
 replace E:=E.trans e6;replace h1:=h1.ext e6;replace h2:=h2.ext e6
 have z6:=e6.size
 refine Qv Tryz.call158 Z (c_l02Order x.val y.val _ ) Z (fun _ w7 e7 hv=>?_)
 subst hv
 replace E:=E.trans e7;replace h1:=h1.ext e7;replace h2:=h2.ext e7
 have z7:=e7.size
 refine Yz (vs:=[.int .i64 (Xt x.epoch y.epoch),.int .i64 (Xt x.op y.op),.int .i64 (Xt x.key y.key),.int .i64 (Xt x.val y.val)]) (css:=[[.int .i64 (Xt x.epoch y.epoch)],[.int .i64 (Xt x.op y.op)],[.int .i64 (Xt x.key y.key)],[.int .i64 (Xt x.val y.val)]]) Uv Z Z ⟨⟨Z,Z⟩,⟨Z,Z⟩,⟨Z,Z⟩,⟨Z,Z⟩,trivial⟩ Z Z (fun b3 w8 e8 s3 h3=>?_)
 replace h3 : Blk w8 b3 [.int .i64 (Xt x.epoch y.epoch),.int .i64 (Xt x.op y.op),.int .i64 (Xt x.key y.key),.int .i64 (Xt x.val y.val)]:=h3
 have g_b3 : w.heap.size ≤ b3:=by have:=E.size;omega
 have y_b3:=h3.lt
 replace E:=E.trans e8;replace h1:=h1.ext e8;replace h2:=h2.ext e8
 have z8:=e8.size
 refine Qa (Qe Z) Z (Qd (Qf (Qf (Qh [true] Z Z (Qa (Qe Z) Z (Qd (Q0 (Ym (fun (k : Nat)=>[(4,.int .i64 0),(5,.slice (some ⟨b3,0,none⟩) 4 4),(6,.int .i64 ((k : Nat) : Int))]) (fun (k : Nat) w'=>Ext w w' ∧ w8.heap.size ≤ w'.heap.size ∧ Blk w' b1 (Enc.enc x) ∧ Blk w' b2 (Enc.enc y) ∧ Blk w' b3 [.int .i64 (Xt x.epoch y.epoch),.int .i64 (Xt x.op y.op),.int .i64 (Xt x.key y.key),.int .i64 (Xt x.val y.val)] ∧ k ≤ 4 ∧ Ku (List.drop k [Xt x.epoch y.epoch,Xt x.op y.op,Xt x.key y.key,Xt x.val y.val]) = Ku [Xt x.epoch y.epoch,Xt x.op y.op,Xt x.key y.key,Xt x.val y.val]) (fun (k : Nat)=>4 - k) 0 ⟨Z,Z,Z,trivial⟩ ⟨E,Nat.le_refl _,h1,h2,h3,Nat.zero_le _,Z⟩ ?_))))))))
 clear E h1 h2 h3
 rintro k w9 ⟨E,z9,h1,h2,h3,hk,hI⟩
 refine Qf (Qf (Qh [true,true] Z Z (Qa (Qc Z) Z (Qa (Yf Z Z) Z (Qd (Qs Z (fun hc1=>?_) (fun hc1=>?_)))))))
 ·have hc1n : k < 4:=by first | (have h:=of_decide_eq_true hc1;omega) | (have h:=hc1;simp at h;omega)
  refine Qn (Qf (Q0 (Qf (Qh [true,true,true,true,true] Z Z (Qa (Qc Z) Z (Qa (Qc Z) Z ?_))))))
  have hi1 : k < [Xt x.epoch y.epoch,Xt x.op y.op,Xt x.key y.key,Xt x.val y.val].length:=(by first | assumption | omega | (simp only [List.length_set];first | assumption | omega))
  refine Qa (Q1 (i:=k) Uv Z Z (Blk.rd (α:=Int) (xs:=[Xt x.epoch y.epoch,Xt x.op y.op,Xt x.key y.key,Xt x.val y.val]) (by decide) h3 Z (by simp [maxLen])) hi1) Z (Qa (Qj Yo Z (((Blk.rd (α:=Int) (xs:=[Xt x.epoch y.epoch,Xt x.op y.op,Xt x.key y.key,Xt x.val y.val]) (by decide) h3 Z (by simp [maxLen])).get hi1).one 0 Z)) Z (Qa (Yu Z Z) Z (Qd (Qs Z (fun hc2=>?_) (fun hc2=>?_)))))
  ·refine Qf (Qh [true,true,true,true,true] Z Z (Qa (Qc Z) Z (Qa (Qc Z) Z (Qa (Q1 (i:=k) Uv Z Z (Blk.rd (α:=Int) (xs:=[Xt x.epoch y.epoch,Xt x.op y.op,Xt x.key y.key,Xt x.val y.val]) (by decide) h3 Z (by simp [maxLen])) hi1) Z (Qa (Qj Yo Z (((Blk.rd (α:=Int) (xs:=[Xt x.epoch y.epoch,Xt x.op y.op,Xt x.key y.key,Xt x.val y.val]) (by decide) h3 Z (by simp [maxLen])).get hi1).one 0 Z)) Z (Qa (Qe Z) Z (Qd (Qw (Q2 (Y0 (Q2 (Ql Z Z E ?_))))))))))))
   exact cellOrd_a (firstNZ_yes hI (by simpa using hc1n) (by simpa using hc2))
  ·refine Qn (Q4 (Yr (Qh [true,true,true] Z Z (Qa (Qc Z) Z (Qa (Q8 Z Z (Yt hc1n (by first | assumption | (unfold maxLen;omega)))) Z (Qa (Qe Z) Z (Qd (Q4 (Yc (k + 1) (by omega) ⟨Z,Z,Z,trivial⟩ ⟨E,(by omega),h1,h2,h3,(by omega),firstNZ_step hI (by simpa using hc1n) (by simpa using hc2)⟩)))))))))
 ·have hc1n : ¬ k < 4:=by first | (have h:=of_decide_eq_false hc1;omega) | (have h:=hc1;simp at h;omega)
  refine Yn (Q5 (Q3 ?_))
  refine Qf (Qh [true] Z Z (Qa (Qe Z) Z (Qd (Qw (Ql Z Z E ?_)))))
  exact cellOrd_b (firstNZ_no hI (by simp;omega))

set_option maxRecDepth 20000 in
theorem c_toCellS (vxs : Value) (xs : List Cell) (w : World) (hxs : RdS w vxs xs) (hb : xs.length ≤ 1048576) : Ct Tryz.prog 102 [vxs] w (fun v w'=>Own w' w.heap.size w'.heap.size 4 v (List.flatMap (Enc.enc (α:=Cell)) xs)):=by
 refine Yh Tryz.func102 Z Tryz.ntmps102 Z ?_
 refine Q7 [(0,vxs)] ⟨Z,trivial⟩ ?_
 have E : Ext w w:=Ext.refl w
 refine Qf (Qh [true] Z Z (Qa (Qe Z) Z (Qd (Qf (Qh [true,true,false,true] Z Z (Qa (Qc Z) Z (Qa (Ya Tryz.underlying86 Z (hxs.ext E).len) Z (H9 (m:=xs.length) Xq Z Z (by omega) (by decide) Z (fun b1 w1 e1 s1 h1=>?_)))))))))
 have g_b1 : w.heap.size ≤ b1:=by have:=E.size;omega
 have y_b1:=h1.lt
 replace E:=E.trans e1
 have z1:=e1.size
 refine Qa (Qe Z) Z (Qd (Qf (Qf (Qh [true] Z Z (Qa (Qe Z) Z (Qd (Q0 (Ym (fun (k : Nat)=>[(0,vxs),(2,.slice none 0 0),(3,.slice (some ⟨b1,0,none⟩) xs.length xs.length),(4,.int .i64 ((k : Nat) : Int))]) (fun (k : Nat) w'=>Ext w w' ∧ w1.heap.size ≤ w'.heap.size ∧ k ≤ xs.length ∧ Blk w' b1 (mk xs [.int .i64 0,.int .i64 0,.int .i64 0,.int .i64 0] k xs.length)) (fun (k : Nat)=>xs.length - k) 0 ⟨Z,Z,Z,Z,trivial⟩ ⟨E,Nat.le_refl _,Nat.zero_le _,(Tl xs [.int .i64 0,.int .i64 0,.int .i64 0,.int .i64 0] xs.length) ▸ h1⟩ ?_))))))))
 clear E h1
 rintro k w2 ⟨E,z2,hk,h1⟩
 refine Qf (Qf (Qh [true,true,true,true] Z Z (Qa (Qc Z) Z (Qa (Qc Z) Z (Qa (Ya Tryz.underlying86 Z (hxs.ext E).len) Z (Qa (Yf Z Z) Z (Qd (Qs Z (fun hc1=>?_) (fun hc1=>?_)))))))))
 ·have hc1n : k < xs.length:=by first | (have h:=of_decide_eq_true hc1;omega) | (have h:=hc1;simp at h;omega)
  refine Qn (Qf (Q0 (Qh [true,true,true,true,true,true,false,true,false] Z Z (Qa (Qc Z) Z (Qa (Qc Z) Z (Qa (Qc Z) Z (Qa (Qc Z) Z ?_)))))))
  have hi1 : k < xs.length:=(by first | assumption | omega | (simp only [List.length_set];first | assumption | omega))
  refine Qa (Q1 (i:=k) sl86 Z Z (hxs.ext E) hi1) Z (Qa (Qt st184 Z ((hxs.ext E).get hi1) Z) Z (Qv Tryz.call133 Z (c_toCell (xs[k]'hi1) _ ) Z (fun _ w3 e2 hv=>?_)))
  subst hv
  replace E:=E.trans e2;replace h1:=h1.ext e2
  have z3:=e2.size
  refine Qa (Vo Xq Z Z (by first | assumption | omega | (simp only [List.length_set];first | assumption | omega))) Z (Q6 (cs':=mk xs [.int .i64 0,.int .i64 0,.int .i64 0,.int .i64 0] (k + 1) xs.length) Xn Z Z Z Z h1 (Tn xs [.int .i64 0,.int .i64 0,.int .i64 0,.int .i64 0] Z hc1n hc1n (by rfl)) (Tm xs [.int .i64 0,.int .i64 0,.int .i64 0,.int .i64 0] Z hc1n hc1n) (fun w4 m1 h1'=>?_))
  replace h1:=h1'
  replace E:=E.step m1 (fun g hg=>by cases hg;omega)
  have z4:=m1.size
  refine Qd (Q4 (Yr (Qh [true,true,true] Z Z (Qa (Qc Z) Z (Qa (Q8 Z Z (Yt hc1n hxs.1)) Z (Qa (Qe Z) Z (Qd (Q4 (Yc (k + 1) (by omega) ⟨Z,Z,Z,Z,trivial⟩ ⟨E,(by omega),(by omega),h1⟩)))))))))
 ·have hc1n : ¬ k < xs.length:=by first | (have h:=of_decide_eq_false hc1;omega) | (have h:=hc1;simp at h;omega)
  refine Yn (Q5 (Q3 ?_))
  refine Qf (Qh [true,true] Z Z (Qa (Qc Z) Z (Qa (Qe Z) Z (Qd (Qw (Ql Z Z E ?_))))))
  obtain rfl : k = xs.length:=by omega
  rw [C7] at h1
  exact Own.ofBlk h1 (by omega) (by have:=h1.lt;omega) (Yb xs) hxs.1

set_option maxRecDepth 20000 in
theorem s_HasCell (vxs : Value) (xs : List Cell) (x : Cell) (w : World) (hxs : RdS w vxs xs) : Ct Tryz.prog 129 [vxs,.agg (Enc.enc x).toArray] w (fun v _=>v = .bool (decide (x ∈ xs))):=by
 refine Yh Tryz.func129 Z Tryz.ntmps129 Z ?_
 refine Q7 [(0,vxs),(1,.agg (Enc.enc x).toArray)] ⟨Z,Z,trivial⟩ ?_
 have E : Ext w w:=Ext.refl w
 refine Qf (Qh [false,true] Z Z (Y1 Z Z (fun b1 w1 e1 s1 h1=>?_)))
 have g_b1 : w.heap.size ≤ b1:=by have:=E.size;omega
 have y_b1:=h1.lt
 replace E:=E.trans e1
 have z1:=e1.size
 refine Qa (Qe Z) Z (Qd (Qf (Qf (Qh [true] Z Z (Qa (Qe Z) Z (Qd (Q0 (Ym (fun (k : Nat)=>[(0,vxs),(3,.pointer (some ⟨b1,0,none⟩)),(4,.bool false),(5,.int .i64 ((k : Nat) : Int))]) (fun (k : Nat) w'=>Ext w w' ∧ w1.heap.size ≤ w'.heap.size ∧ Blk w' b1 (Enc.enc x) ∧ k ≤ xs.length ∧ x ∉ xs.take k) (fun (k : Nat)=>xs.length - k) 0 ⟨Z,Z,Z,Z,trivial⟩ ⟨E,Nat.le_refl _,h1,Nat.zero_le _,(by simp)⟩ ?_))))))))
 clear E h1
 rintro k w2 ⟨E,z2,h1,hk,hI⟩
 refine Qf (Qf (Qh [true,true,true,true] Z Z (Qa (Qc Z) Z (Qa (Qc Z) Z (Qa (Ya Tryz.underlying65 Z (hxs.ext E).len) Z (Qa (Yf Z Z) Z (Qd (Qs Z (fun hc1=>?_) (fun hc1=>?_)))))))))
 ·have hc1n : k < xs.length:=by first | (have h:=of_decide_eq_true hc1;omega) | (have h:=hc1;simp at h;omega)
  refine Qn (Qf (Q0 (Qf (Xj Xi [(0,true),(1,true),(2,true),(3,true),(4,true),(5,true)] (by decide +kernel) Z (fun w3 e2=>?_)))))
  replace E:=E.trans e2;replace h1:=h1.ext e2
  have z3:=e2.size
  refine Qa (Qc Z) Z (Qa (Qc Z) Z ?_)
  have hi1 : k < xs.length:=(by first | assumption | omega | (simp only [List.length_set];first | assumption | omega))
  refine Qa (Q1 (i:=k) Xq Z Z (hxs.ext E) hi1) Z (Qa (Qt Xn Z ((hxs.ext E).get hi1) Z) Z (Qa (Qt Xn Z h1.at Z) Z (Qa (R_eqlS (eq149 (xs[k]'hi1) x) eqg149 Z Z) Z (Qd (Qs Z (fun hc2=>?_) (fun hc2=>?_))))))
  ·refine Qf (Qh [true] Z Z (Qa (Qe Z) Z (Qd (Qw (Q2 (Y0 (Q2 (Ql Z Z E ?_))))))))
   exact has_yes hc1n (by simpa using hc2)
  ·refine Qn (Q4 (Yr (Qh [true,true,true] Z Z (Qa (Qc Z) Z (Qa (Q8 Z Z (Yt hc1n hxs.1)) Z (Qa (Qe Z) Z (Qd (Q4 (Yc (k + 1) (by omega) ⟨Z,Z,Z,Z,trivial⟩ ⟨E,(by omega),h1,(by omega),has_step hI (by assumption) (by simpa using hc2)⟩)))))))))
 ·have hc1n : ¬ k < xs.length:=by first | (have h:=of_decide_eq_false hc1;omega) | (have h:=hc1;simp at h;omega)
  refine Yn (Q5 (Q3 ?_))
  refine Qf (Qh [true] Z Z (Qa (Qe Z) Z (Qd (Qw (Ql Z Z E ?_)))))
  exact has_no hI (by omega)

set_option maxRecDepth 20000 in
theorem c_slicesIndex (vxs : Value) (xs : List Cell) (x : Cell) (w : World) (hxs : RdS w vxs xs) : Ct Tryz.prog 163 [vxs,.agg (Enc.enc x).toArray] w (fun v _=>v = .int .i64 (idxI xs x)):=by
 refine Yh Tryz.func163 Z Tryz.ntmps163 Z ?_
 refine Q7 [(0,vxs),(1,.agg (Enc.enc x).toArray)] ⟨Z,Z,trivial⟩ ?_
 have E : Ext w w:=Ext.refl w
 refine Qf (Qh [false,true] Z Z (Y1 Z Z (fun b1 w1 e1 s1 h1=>?_)))
 have g_b1 : w.heap.size ≤ b1:=by have:=E.size;omega
 have y_b1:=h1.lt
 replace E:=E.trans e1
 have z1:=e1.size
 refine Qa (Qe Z) Z (Qd (Qf (Qf (Qh [true,true,true] Z Z (Qa (Qc Z) Z (Qa (Ya Tryz.underlying65 Z (hxs.ext E).len) Z (Qa (Qc Z) Z (Qd (Q0 (Ym (fun (k : Nat)=>[(0,vxs),(3,.pointer (some ⟨b1,0,none⟩)),(4,.int .i64 0),(7,.int .i64 ((xs.length : Nat) : Int)),(8,.int .i64 ((k : Nat) : Int))]) (fun (k : Nat) w'=>Ext w w' ∧ w1.heap.size ≤ w'.heap.size ∧ Blk w' b1 (Enc.enc x) ∧ k ≤ xs.length ∧ x ∉ xs.take k) (fun (k : Nat)=>xs.length - k) 0 ⟨Z,Z,Z,Z,Z,trivial⟩ ⟨E,Nat.le_refl _,h1,Nat.zero_le _,(by simp)⟩ ?_))))))))))
 clear E h1
 rintro k w2 ⟨E,z2,h1,hk,hI⟩
 refine Qf (Qh [true] Z Z (Qa (Yf Z Z) Z (Qd (Qf (Qs Z (fun hc1=>?_) (fun hc1=>?_))))))
 ·have hc1n : k < xs.length:=by first | (have h:=of_decide_eq_true hc1;omega) | (have h:=hc1;simp at h;omega)
  refine Qn (Qf (Q0 (Qf (Qh [true,true] Z Z (Qa (Qc Z) Z (Qa (Qe Z) Z (Qd (Qf (Xj Xi [(0,true),(1,true),(2,true),(3,true),(4,true),(5,true)] (by decide +kernel) Z (fun w3 e2=>?_))))))))))
  replace E:=E.trans e2;replace h1:=h1.ext e2
  have z3:=e2.size
  refine Qa (Qt Xn Z h1.at Z) Z (Qa (Qc Z) Z (Qa (Qc Z) Z ?_))
  have hi1 : k < xs.length:=(by first | assumption | omega | (simp only [List.length_set];first | assumption | omega))
  refine Qa (Q1 (i:=k) Xq Z Z (hxs.ext E) hi1) Z (Qa (Qt Xn Z ((hxs.ext E).get hi1) Z) Z (Qa (R_eqlS (eq149 x (xs[k]'hi1)) eqg149 Z Z) Z (Qd (Qs Z (fun hc2=>?_) (fun hc2=>?_)))))
  ·refine Qf (Qh [true,true] Z Z (Qa (Qc Z) Z (Qa (Qe Z) Z (Qd (Qw (Q2 (Y0 (Q2 (Ql Z Z E ?_)))))))))
   exact idx_yes hI hc1n (by simpa [eq_comm] using hc2)
  ·refine Qn (Q4 (Yr (Qh [true,true] Z Z (Qa (Q8 Z Z (Yt hc1n hxs.1)) Z (Qa (Qc Z) Z (Qd (Q4 (Yc (k + 1) (by omega) ⟨Z,Z,Z,Z,Z,trivial⟩ ⟨E,(by omega),h1,(by omega),has_step hI (by assumption) (by simpa [eq_comm] using hc2)⟩))))))))
 ·have hc1n : ¬ k < xs.length:=by first | (have h:=of_decide_eq_false hc1;omega) | (have h:=hc1;simp at h;omega)
  refine Yn (Q5 (Q3 ?_))
  refine Qf (Qh [true] Z Z (Qa (Qe Z) Z (Qd (Qw (Ql Z Z E ?_)))))
  exact idx_no hI (by omega)

set_option maxRecDepth 20000 in
theorem c_slicesContains (vxs : Value) (xs : List Cell) (x : Cell) (w : World) (hxs : RdS w vxs xs) : Ct Tryz.prog 156 [vxs,.agg (Enc.enc x).toArray] w (fun v _=>v = .bool (decide (x ∈ xs))):=by
 refine Yh Tryz.func156 Z Tryz.ntmps156 Z ?_
 refine Q7 [(0,vxs),(1,.agg (Enc.enc x).toArray)] ⟨Z,Z,trivial⟩ ?_
 have E : Ext w w:=Ext.refl w
 refine Qf (Qh [false,true] Z Z (Y1 Z Z (fun b1 w1 e1 s1 h1=>?_)))
 have g_b1 : w.heap.size ≤ b1:=by have:=E.size;omega
 have y_b1:=h1.lt
 replace E:=E.trans e1
 have z1:=e1.size
 refine Qa (Qe Z) Z (Qd (Qf (Qh [true,true,false,true,true] Z Z (Qa (Qc Z) Z (Qa (Qt Xn Z h1.at Z) Z (Qv Tryz.call163 Z (c_slicesIndex vxs xs x _ (hxs.ext E)) Z (fun _ w2 e2 hv=>?_)))))))
 subst hv
 replace E:=E.trans e2;replace h1:=h1.ext e2
 have z2:=e2.size
 refine Qa (T0 Z Z) Z (Qa (Qe Z) Z (Qd (Qw (Ql Z Z E ?_))))
 exact has_idx

set_option maxRecDepth 20000 in
theorem c_HasCell (vxs : Value) (xs : List Cell) (x : Cell) (w : World) (hxs : RdS w vxs xs) : Ct Tryz.prog 143 [vxs,.agg (Enc.enc x).toArray] w (fun v _=>v = .bool (decide (x ∈ xs))):=by
 refine Yh Tryz.func143 Z Tryz.ntmps143 Z ?_
 refine Q7 [(0,vxs),(1,.agg (Enc.enc x).toArray)] ⟨Z,Z,trivial⟩ ?_
 have E : Ext w w:=Ext.refl w
 refine Qf (Qh [false,true] Z Z (Y1 Z Z (fun b1 w1 e1 s1 h1=>?_)))
 have g_b1 : w.heap.size ≤ b1:=by have:=E.size;omega
 have y_b1:=h1.lt
 replace E:=E.trans e1
 have z1:=e1.size
 refine Qa (Qe Z) Z (Qd (Qf (Qh [true,true,false,true] Z Z (Qa (Qc Z) Z (Qa (Qt Xn Z h1.at Z) Z (Qv Tryz.call156 Z (c_slicesContains vxs xs x _ (hxs.ext E)) Z (fun _ w2 e2 hv=>?_)))))))
 subst hv
 replace E:=E.trans e2;replace h1:=h1.ext e2
 have z2:=e2.size
 refine Qa (Qe Z) Z (Qd (Qw (Ql Z Z E ?_)))
 rfl

set_option maxRecDepth 20000 in
theorem c_sameSlot (x : Cell) (y : Cell) (w : World)  : Ct Tryz.prog 154 [.agg (Enc.enc x).toArray,.agg (Enc.enc y).toArray] w (fun v _=>v = .bool (K6 x y)):=by
 refine Yh Tryz.func154 Z Tryz.ntmps154 Z ?_
 refine Q7 [(0,.agg (Enc.enc x).toArray),(1,.agg (Enc.enc y).toArray)] ⟨Z,Z,trivial⟩ ?_
 have E : Ext w w:=Ext.refl w
 refine Qf (Qh [false,false,true] Z Z (Y1 Z Z (fun b1 w1 e1 s1 h1=>?_)))
 have g_b1 : w.heap.size ≤ b1:=by have:=E.size;omega
 have y_b1:=h1.lt
 replace E:=E.trans e1
 have z1:=e1.size
 refine Y1 Z Z (fun b2 w2 e2 s2 h2=>?_)
 have g_b2 : w.heap.size ≤ b2:=by have:=E.size;omega
 have y_b2:=h2.lt
 replace E:=E.trans e2;replace h1:=h1.ext e2
 have z2:=e2.size
 refine Qa (Qe Z) Z (Qd (Qf (Qh [true,true,true,true,true,true,true,true,true,true,true,true,true,true,true,true,true,true,true,true] Z Z (Qa (Qb K5 Z) Z (Qa (Qj Yo Z (h1.one 0 Z)) Z (Qa (Qb K5 Z) Z (Qa (Qj Yo Z (h2.one 0 Z)) Z (Qa (Y6 Z Z) Z (Qa (Qc Z) Z (Y7 13 [(0,.agg (Enc.enc x).toArray),(1,.agg (Enc.enc y).toArray),(2,.pointer (some ⟨b1,0,none⟩)),(3,.pointer (some ⟨b2,0,none⟩)),(4,.bool false),(23,.bool (((x.op == y.op) && (x.epoch == y.epoch)) && (x.key == y.key)))] (fun w'=>w2 = w') ?_ ?_))))))))))
 ·refine Y3 (gd:=10) Z Z (fun hg1=>?_) (fun hg1=>?_)
  ·refine Qm Z Z (Qb K4 Z) Z (Qm Z Z (Qj Yo Z (h1.one 1 Z)) Z (Qm Z Z (Qb K4 Z) Z (Qm Z Z (Qj Yo Z (h2.one 1 Z)) Z (Qm Z Z (Y6 Z Z) Z (Qa (Qx Z Z) Z (Qa (Qc Z) Z ?_))))))
   refine Y3 (gd:=17) Z Z (fun hg2=>?_) (fun hg2=>?_)
   ·refine Qm Z Z (Qb K3 Z) Z (Qm Z Z (Qj Yo Z (h1.one 2 Z)) Z (Qm Z Z (Qb K3 Z) Z (Qm Z Z (Qj Yo Z (h2.one 2 Z)) Z (Qm Z Z (Y6 Z Z) Z (Qa (Qx Z Z) Z (Qp ⟨Z,Z,Z,Z,Z,congrArg (fun b=>some (Value.bool b)) (show (x.key == y.key) = (((x.op == y.op) && (x.epoch == y.epoch)) && (x.key == y.key)) by first | (rw [hg1,hg2] <;> rfl) | (simp [hg1,hg2];done) | (simp only [Qo] <;> simp)),trivial⟩ Z))))))
   ·refine Qg Z Z Z Z (Qg Z Z Z Z (Qg Z Z Z Z (Qg Z Z Z Z (Qg Z Z Z Z (Qa (Qy Z Z) Z (Qp ⟨Z,Z,Z,Z,Z,congrArg (fun b=>some (Value.bool b)) (show false = (((x.op == y.op) && (x.epoch == y.epoch)) && (x.key == y.key)) by first | (rw [hg1,hg2] <;> rfl) | (simp [hg1,hg2];done) | (simp only [Qo] <;> simp)),trivial⟩ Z))))))
  ·refine Qg Z Z Z Z (Qg Z Z Z Z (Qg Z Z Z Z (Qg Z Z Z Z (Qg Z Z Z Z (Qa (Qy Z Z) Z (Qa (Qc Z) Z (Qg Z Z Z Z (Qg Z Z Z Z (Qg Z Z Z Z (Qg Z Z Z Z (Qg Z Z Z Z (Qa (Qy Z Z) Z (Qp ⟨Z,Z,Z,Z,Z,congrArg (fun b=>some (Value.bool b)) (show false = (((x.op == y.op) && (x.epoch == y.epoch)) && (x.key == y.key)) by first | (rw [hg1] <;> rfl) | (simp [hg1];done) | (simp only [Qo] <;> simp)),trivial⟩ Z)))))))))))))
 rintro _ rfl
 refine Qa (Qe Z) Z (Qd (Qw (Ql Z Z E ?_)))
 rfl

set_option maxRecDepth 20000 in
theorem c_LeastOf (vxs : Value) (xs : List Cell) (op : Int) (epoch : Int) (key : Int) (w : World) (hxs : RdS w vxs xs) : Ct Tryz.prog 151 [vxs,.int .i64 op,.int .i64 epoch,.int .i64 key] w (fun v _=>v = .tuple [.int .i64 ((Y4 xs op epoch key).1),.bool ((Y4 xs op epoch key).2)].toArray):=by
 refine Yh Tryz.func151 Z Tryz.ntmps151 Z ?_
 refine Q7 [(0,vxs),(1,.int .i64 op),(2,.int .i64 epoch),(3,.int .i64 key)] ⟨Z,Z,Z,Z,trivial⟩ ?_
 have E : Ext w w:=Ext.refl w
 refine Qf (Qh [true,true] Z Z (Qa (Qe Z) Z (Qa (Qe Z) Z (Qd (Qf (Qh [true,true] Z Z (Qa (Qe Z) Z (Qa (Qe Z) Z (Qd (Qf (Qf (Qh [true,true,true] Z Z (Qa (Qc Z) Z (Qa (Ya Tryz.underlying65 Z (hxs.ext E).len) Z (Qa (Qc Z) Z (Qd (Q0 (Ym (fun (xq : Nat × Int × Bool)=>let ⟨k,n,s⟩:=xq;[(1,.int .i64 op),(2,.int .i64 epoch),(3,.int .i64 key),(8,.int .i64 0),(9,.bool false),(10,.int .i64 n),(11,.bool s),(14,vxs),(15,.int .i64 ((xs.length : Nat) : Int)),(16,.int .i64 ((k : Nat) : Int))]) (fun (xq : Nat × Int × Bool) w'=>let ⟨k,n,s⟩:=xq;Ext w w' ∧ w.heap.size ≤ w'.heap.size ∧ k ≤ xs.length ∧ K2 op epoch key (xs.drop k) n s = Y4 xs op epoch key) (fun (xq : Nat × Int × Bool)=>let ⟨k,n,s⟩:=xq;xs.length - k) (0,0,false) ⟨Z,Z,Z,Z,Z,Z,Z,Z,Z,Z,trivial⟩ ⟨E,Nat.le_refl _,Nat.zero_le _,Z⟩ ?_))))))))))))))))))
 clear E
 rintro ⟨k,n,s⟩ w1 ⟨E,z1,hk,hI⟩
 refine Q7 [(1,.int .i64 op),(2,.int .i64 epoch),(3,.int .i64 key),(8,.int .i64 0),(9,.bool false),(10,.int .i64 n),(11,.bool s),(14,vxs),(15,.int .i64 ((xs.length : Nat) : Int)),(16,.int .i64 ((k : Nat) : Int))] ⟨Z,Z,Z,Z,Z,Z,Z,Z,Z,Z,trivial⟩ ?_
 refine Qf (Qh [true] Z Z (Qa (Yf Z Z) Z (Qd (Qf (Qs Z (fun hc1=>?_) (fun hc1=>?_))))))
 ·have hc1n : k < xs.length:=by first | (have h:=of_decide_eq_true hc1;omega) | (have h:=hc1;simp at h;omega)
  refine Qn (Qf (Q0 (Qf (Qh [true,true,false,false] Z Z ?_))))
  have hi1 : k < xs.length:=(by first | assumption | omega | (simp only [List.length_set];first | assumption | omega))
  refine Qa (Q1 (i:=k) Xq Z Z (hxs.ext E) hi1) Z (Qa (Qt Xn Z ((hxs.ext E).get hi1) Z) Z (Yk Xn Z (fun b1 w2 e1 s1 h1=>?_)))
  have g_b1 : w.heap.size ≤ b1:=by have:=E.size;omega
  have y_b1:=h1.lt
  replace E:=E.trans e1
  have z2:=e1.size
  refine Q6 (cs':=[.int .i64 ((xs[k]'hi1).op),.int .i64 ((xs[k]'hi1).epoch),.int .i64 ((xs[k]'hi1).key),.int .i64 ((xs[k]'hi1).val)]) Xn Z Z Z Z h1 (Nat.le_of_ble_eq_true Z) Z (fun w3 m1 h1'=>?_)
  replace h1:=h1'
  replace E:=E.step m1 (fun g hg=>by cases hg;omega)
  have z3:=m1.size
  refine Qd (Qf (Qh [true,true,true,true,true,false,true,true,true,true,true,true,true,true,true,true] Z Z (Qa (Qt Xn Z h1.at Z) Z (Qa (Qc Z) Z (Qa (Qc Z) Z (Qa (Qc Z) Z (Qa (Gs (⟨op,epoch,key,0⟩ : Cell) Z (fun _=>by kernel_rfl)) Z (Qv Tryz.call154 Z (c_sameSlot (xs[k]'hi1) (⟨op,epoch,key,0⟩ : Cell) _ ) Z (fun _ w4 e2 hv=>?_)))))))))
  subst hv
  replace E:=E.trans e2;replace h1:=h1.ext e2
  have z4:=e2.size
  refine Qa (Qc Z) Z (Y7 9 [(1,.int .i64 op),(2,.int .i64 epoch),(3,.int .i64 key),(8,.int .i64 0),(9,.bool false),(10,.int .i64 n),(11,.bool s),(13,.pointer (some ⟨b1,0,none⟩)),(14,vxs),(15,.int .i64 ((xs.length : Nat) : Int)),(16,.int .i64 ((k : Nat) : Int)),(17,.bool (decide (((k : Nat) : Int) < ((xs.length : Nat) : Int)))),(18,.pointer (some ⟨Xf vxs,Xm vxs + k * 4,none⟩)),(19,.agg (Enc.enc (xs[k]'hi1)).toArray),(35,.bool ((K6 (xs[k]'hi1) (⟨op,epoch,key,0⟩ : Cell)) && ((!s) || (decide (((xs[k]'hi1).val) < n)))))] (fun w'=>w4 = w') ?_ ?_)
  ·refine Y3 (gd:=26) Z Z (fun hg1=>?_) (fun hg1=>?_)
   ·refine Qm Z Z (Qc Z) Z (Qm Z Z (Yq Z) Z (Qm Z Z (Qc Z) Z ?_))
    refine Y3 (gd:=29) Z Z (fun hg2=>?_) (fun hg2=>?_)
    ·refine Qg Z Z Z Z (Qg Z Z Z Z (Qg Z Z Z Z (Qg Z Z Z Z (Qm Z Z (Qx Z Z) Z (Qa (Qx Z Z) Z (Qp ⟨Z,Z,Z,Z,Z,Z,Z,Z,Z,Z,Z,Z,Z,Z,congrArg (fun b=>some (Value.bool b)) (show true = ((K6 (xs[k]'hi1) (⟨op,epoch,key,0⟩ : Cell)) && ((!s) || (decide (((xs[k]'hi1).val) < n)))) by first | (rw [hg1,hg2] <;> rfl) | (simp [hg1,hg2];done) | (simp only [Qo] <;> simp)),trivial⟩ Z))))))
    ·refine Qm Z Z (Qb Ul Z) Z (Qm Z Z (Qj Yo Z (h1.one 3 Z)) Z (Qm Z Z (Qc Z) Z (Qm Z Z (Yf Z Z) Z (Qm Z Z (Qy Z Z) Z (Qa (Qx Z Z) Z (Qp ⟨Z,Z,Z,Z,Z,Z,Z,Z,Z,Z,Z,Z,Z,Z,congrArg (fun b=>some (Value.bool b)) (show (decide (((xs[k]'hi1).val) < n)) = ((K6 (xs[k]'hi1) (⟨op,epoch,key,0⟩ : Cell)) && ((!s) || (decide (((xs[k]'hi1).val) < n)))) by first | (rw [hg1,hg2] <;> rfl) | (simp [hg1,hg2];done) | (simp only [Qo] <;> simp)),trivial⟩ Z))))))
   ·refine Qg Z Z Z Z (Qg Z Z Z Z (Qg Z Z Z Z (Q9 Z Z Z (Q9 Z Z Z (Q9 Z Z Z (Q9 Z Z Z (Qg Z Z Z Z (Qa (Qy Z Z) Z (Qp ⟨Z,Z,Z,Z,Z,Z,Z,Z,Z,Z,Z,Z,Z,Z,congrArg (fun b=>some (Value.bool b)) (show false = ((K6 (xs[k]'hi1) (⟨op,epoch,key,0⟩ : Cell)) && ((!s) || (decide (((xs[k]'hi1).val) < n)))) by first | (rw [hg1] <;> rfl) | (simp [hg1];done) | (simp only [Qo] <;> simp)),trivial⟩ Z)))))))))
  rintro _ rfl
  refine Qd (Qs Z (fun hc2=>?_) (fun hc2=>?_))
  ·refine Qh [true,true,true,true] Z Z (Qa (Qb Ul Z) Z (Qa (Qj Yo Z (h1.one 3 Z)) Z (Qa (Qe Z) Z (Qa (Qe Z) Z (Qd (Q4 (Yr (Qh [true,true] Z Z (Qa (Q8 Z Z (Yt hc1n hxs.1)) Z (Qa (Qc Z) Z (Qd (Q4 (Yc (k + 1,(xs[k]'hi1).val,true) (by simp;omega) ⟨Z,Z,Z,Z,Z,Z,Z,Z,Z,Z,trivial⟩ ⟨E,(by omega),(by omega),Bl hI hc1n (by simpa [K6] using hc2)⟩)))))))))))))
  ·refine Qn (Q4 (Yr (Qh [true,true] Z Z (Qa (Q8 Z Z (Yt hc1n hxs.1)) Z (Qa (Qc Z) Z (Qd (Q4 (Yc (k + 1,n,s) (by simp;omega) ⟨Z,Z,Z,Z,Z,Z,Z,Z,Z,Z,trivial⟩ ⟨E,(by omega),(by omega),Dl hI hc1n (by simpa [K6] using hc2)⟩))))))))
 ·have hc1n : ¬ k < xs.length:=by first | (have h:=of_decide_eq_false hc1;omega) | (have h:=hc1;simp at h;omega)
  refine Yn (Q5 (Q3 ?_))
  refine Qf (Qh [true,true,true,true] Z Z (Qa (Qc Z) Z (Qa (Qc Z) Z (Qa (Qe Z) Z (Qa (Qe Z) Z (Qd (Qw (Y5 (l:=[.tmp 8,.tmp 9]) (vs:=[.int .i64 n,.bool s]) Z ⟨.tmp Z,.tmp Z,trivial⟩ Z E ?_))))))))
  simp only [← hI,List.drop_of_length_le (show xs.length ≤ k by omega),K2]

set_option maxRecDepth 20000 in
theorem s_LeastOf (vxs : Value) (xs : List Cell) (op : Int) (epoch : Int) (key : Int) (w : World) (hxs : RdS w vxs xs) : Ct Tryz.prog 131 [vxs,.int .i64 op,.int .i64 epoch,.int .i64 key] w (fun v _=>v = .tuple [.int .i64 ((Y4 xs op epoch key).1),.bool ((Y4 xs op epoch key).2)].toArray):=by
 refine Yh Tryz.func131 Z Tryz.ntmps131 Z ?_
 refine Q7 [(0,vxs),(1,.int .i64 op),(2,.int .i64 epoch),(3,.int .i64 key)] ⟨Z,Z,Z,Z,trivial⟩ ?_
 have E : Ext w w:=Ext.refl w
 refine Qf (Qh [true,true] Z Z (Qa (Qe Z) Z (Qa (Qe Z) Z (Qd (Qf (Qh [true] Z Z (Qa (Qe Z) Z (Qd (Qf (Qh [true] Z Z (Qa (Qe Z) Z (Qd (Qf (Qf (Qh [true] Z Z (Qa (Qe Z) Z (Qd (Q0 (Ym (fun (xq : Nat × Int × Bool)=>let ⟨k,n,s⟩:=xq;[(0,vxs),(1,.int .i64 op),(2,.int .i64 epoch),(3,.int .i64 key),(8,.int .i64 0),(9,.bool false),(10,.int .i64 n),(11,.bool s),(12,.int .i64 ((k : Nat) : Int))]) (fun (xq : Nat × Int × Bool) w'=>let ⟨k,n,s⟩:=xq;Ext w w' ∧ w.heap.size ≤ w'.heap.size ∧ k ≤ xs.length ∧ K2 op epoch key (xs.drop k) n s = Y4 xs op epoch key) (fun (xq : Nat × Int × Bool)=>let ⟨k,n,s⟩:=xq;xs.length - k) (0,0,false) ⟨Z,Z,Z,Z,Z,Z,Z,Z,Z,trivial⟩ ⟨E,Nat.le_refl _,Nat.zero_le _,Z⟩ ?_)))))))))))))))))))
 clear E
 rintro ⟨k,n,s⟩ w1 ⟨E,z1,hk,hI⟩
 refine Q7 [(0,vxs),(1,.int .i64 op),(2,.int .i64 epoch),(3,.int .i64 key),(8,.int .i64 0),(9,.bool false),(10,.int .i64 n),(11,.bool s),(12,.int .i64 ((k : Nat) : Int))] ⟨Z,Z,Z,Z,Z,Z,Z,Z,Z,trivial⟩ ?_
 refine Qf (Qf (Qh [true,true,true,true] Z Z (Qa (Qc Z) Z (Qa (Qc Z) Z (Qa (Ya Tryz.underlying65 Z (hxs.ext E).len) Z (Qa (Yf Z Z) Z (Qd (Qs Z (fun hc1=>?_) (fun hc1=>?_)))))))))
 ·have hc1n : k < xs.length:=by first | (have h:=of_decide_eq_true hc1;omega) | (have h:=hc1;simp at h;omega)
  refine Qn (Qf (Q0 (Qf (Qh [true,true,true,true,false,false] Z Z (Qa (Qc Z) Z (Qa (Qc Z) Z ?_))))))
  have hi1 : k < xs.length:=(by first | assumption | omega | (simp only [List.length_set];first | assumption | omega))
  refine Qa (Q1 (i:=k) Xq Z Z (hxs.ext E) hi1) Z (Qa (Qt Xn Z ((hxs.ext E).get hi1) Z) Z (Yk Xn Z (fun b1 w2 e1 s1 h1=>?_)))
  have g_b1 : w.heap.size ≤ b1:=by have:=E.size;omega
  have y_b1:=h1.lt
  replace E:=E.trans e1
  have z2:=e1.size
  refine Q6 (cs':=[.int .i64 ((xs[k]'hi1).op),.int .i64 ((xs[k]'hi1).epoch),.int .i64 ((xs[k]'hi1).key),.int .i64 ((xs[k]'hi1).val)]) Xn Z Z Z Z h1 (Nat.le_of_ble_eq_true Z) Z (fun w3 m1 h1'=>?_)
  replace h1:=h1'
  replace E:=E.step m1 (fun g hg=>by cases hg;omega)
  have z3:=m1.size
  refine Qd (Qf (Qh [true,true,true,true,true,true,true,true,true,true,true,true,true,true,true,true,true,true,true,true,true,true,true,true,true,true] Z Z (Qa (Qb K5 Z) Z (Qa (Qj Yo Z (h1.one 0 Z)) Z (Qa (Qc Z) Z (Qa (Y6 Z Z) Z (Qa (Qc Z) Z (Y7 21 [(0,vxs),(1,.int .i64 op),(2,.int .i64 epoch),(3,.int .i64 key),(8,.int .i64 0),(9,.bool false),(10,.int .i64 n),(11,.bool s),(12,.int .i64 ((k : Nat) : Int)),(13,.pointer (some ⟨b1,0,none⟩)),(14,.int .i64 ((k : Nat) : Int)),(15,vxs),(16,.int .i64 ((xs.length : Nat) : Int)),(17,.bool (decide (((k : Nat) : Int) < ((xs.length : Nat) : Int)))),(20,vxs),(21,.int .i64 ((k : Nat) : Int)),(22,.pointer (some ⟨Xf vxs,Xm vxs + k * 4,none⟩)),(23,.agg (Enc.enc (xs[k]'hi1)).toArray),(49,.bool ((((((xs[k]'hi1).op) == op) && (((xs[k]'hi1).epoch) == epoch)) && (((xs[k]'hi1).key) == key)) && ((!s) || (decide (((xs[k]'hi1).val) < n)))))] (fun w'=>w3 = w') ?_ ?_))))))))
  ·refine Y3 (gd:=28) Z Z (fun hg1=>?_) (fun hg1=>?_)
   ·refine Qm Z Z (Qb K4 Z) Z (Qm Z Z (Qj Yo Z (h1.one 1 Z)) Z (Qm Z Z (Qc Z) Z (Qm Z Z (Y6 Z Z) Z (Qa (Qx Z Z) Z (Qa (Qc Z) Z ?_)))))
    refine Y3 (gd:=34) Z Z (fun hg2=>?_) (fun hg2=>?_)
    ·refine Qm Z Z (Qb K3 Z) Z (Qm Z Z (Qj Yo Z (h1.one 2 Z)) Z (Qm Z Z (Qc Z) Z (Qm Z Z (Y6 Z Z) Z (Qa (Qx Z Z) Z (Qa (Qc Z) Z ?_)))))
     refine Y3 (gd:=40) Z Z (fun hg3=>?_) (fun hg3=>?_)
     ·refine Qm Z Z (Qc Z) Z (Qm Z Z (Yq Z) Z (Qm Z Z (Qc Z) Z ?_))
      refine Y3 (gd:=43) Z Z (fun hg4=>?_) (fun hg4=>?_)
      ·refine Qg Z Z Z Z (Qg Z Z Z Z (Qg Z Z Z Z (Qg Z Z Z Z (Qm Z Z (Qx Z Z) Z (Qa (Qx Z Z) Z (Qp ⟨Z,Z,Z,Z,Z,Z,Z,Z,Z,Z,Z,Z,Z,Z,Z,Z,Z,Z,congrArg (fun b=>some (Value.bool b)) (show true = ((((((xs[k]'hi1).op) == op) && (((xs[k]'hi1).epoch) == epoch)) && (((xs[k]'hi1).key) == key)) && ((!s) || (decide (((xs[k]'hi1).val) < n)))) by first | (rw [hg1,hg2,hg3,hg4] <;> rfl) | (simp [hg1,hg2,hg3,hg4];done) | (simp only [Qo] <;> simp)),trivial⟩ Z))))))
      ·refine Qm Z Z (Qb Ul Z) Z (Qm Z Z (Qj Yo Z (h1.one 3 Z)) Z (Qm Z Z (Qc Z) Z (Qm Z Z (Yf Z Z) Z (Qm Z Z (Qy Z Z) Z (Qa (Qx Z Z) Z (Qp ⟨Z,Z,Z,Z,Z,Z,Z,Z,Z,Z,Z,Z,Z,Z,Z,Z,Z,Z,congrArg (fun b=>some (Value.bool b)) (show (decide (((xs[k]'hi1).val) < n)) = ((((((xs[k]'hi1).op) == op) && (((xs[k]'hi1).epoch) == epoch)) && (((xs[k]'hi1).key) == key)) && ((!s) || (decide (((xs[k]'hi1).val) < n)))) by first | (rw [hg1,hg2,hg3,hg4] <;> rfl) | (simp [hg1,hg2,hg3,hg4];done) | (simp only [Qo] <;> simp)),trivial⟩ Z))))))
     ·refine Qg Z Z Z Z (Qg Z Z Z Z (Qg Z Z Z Z (Q9 Z Z Z (Q9 Z Z Z (Q9 Z Z Z (Q9 Z Z Z (Qg Z Z Z Z (Qa (Qy Z Z) Z (Qp ⟨Z,Z,Z,Z,Z,Z,Z,Z,Z,Z,Z,Z,Z,Z,Z,Z,Z,Z,congrArg (fun b=>some (Value.bool b)) (show false = ((((((xs[k]'hi1).op) == op) && (((xs[k]'hi1).epoch) == epoch)) && (((xs[k]'hi1).key) == key)) && ((!s) || (decide (((xs[k]'hi1).val) < n)))) by first | (rw [hg1,hg2,hg3] <;> rfl) | (simp [hg1,hg2,hg3];done) | (simp only [Qo] <;> simp)),trivial⟩ Z)))))))))
    ·refine Qg Z Z Z Z (Qg Z Z Z Z (Qg Z Z Z Z (Qg Z Z Z Z (Qa (Qy Z Z) Z (Qa (Qc Z) Z (Qg Z Z Z Z (Qg Z Z Z Z (Qg Z Z Z Z (Q9 Z Z Z (Q9 Z Z Z (Q9 Z Z Z (Q9 Z Z Z (Qg Z Z Z Z (Qa (Qy Z Z) Z (Qp ⟨Z,Z,Z,Z,Z,Z,Z,Z,Z,Z,Z,Z,Z,Z,Z,Z,Z,Z,congrArg (fun b=>some (Value.bool b)) (show false = ((((((xs[k]'hi1).op) == op) && (((xs[k]'hi1).epoch) == epoch)) && (((xs[k]'hi1).key) == key)) && ((!s) || (decide (((xs[k]'hi1).val) < n)))) by first | (rw [hg1,hg2] <;> rfl) | (simp [hg1,hg2];done) | (simp only [Qo] <;> simp)),trivial⟩ Z)))))))))))))))
   ·refine Qg Z Z Z Z (Qg Z Z Z Z (Qg Z Z Z Z (Qg Z Z Z Z (Qa (Qy Z Z) Z (Qa (Qc Z) Z (Qg Z Z Z Z (Qg Z Z Z Z (Qg Z Z Z Z (Qg Z Z Z Z (Qa (Qy Z Z) Z (Qa (Qc Z) Z (Qg Z Z Z Z (Qg Z Z Z Z (Qg Z Z Z Z (Q9 Z Z Z (Q9 Z Z Z (Q9 Z Z Z (Q9 Z Z Z (Qg Z Z Z Z (Qa (Qy Z Z) Z (Qp ⟨Z,Z,Z,Z,Z,Z,Z,Z,Z,Z,Z,Z,Z,Z,Z,Z,Z,Z,congrArg (fun b=>some (Value.bool b)) (show false = ((((((xs[k]'hi1).op) == op) && (((xs[k]'hi1).epoch) == epoch)) && (((xs[k]'hi1).key) == key)) && ((!s) || (decide (((xs[k]'hi1).val) < n)))) by first | (rw [hg1] <;> rfl) | (simp [hg1];done) | (simp only [Qo] <;> simp)),trivial⟩ Z)))))))))))))))))))))
  rintro _ rfl
  refine Qd (Qs Z (fun hc2=>?_) (fun hc2=>?_))
  ·refine Qf (Qh [true,true,true] Z Z (Qa (Qb Ul Z) Z (Qa (Qj Yo Z (h1.one 3 Z)) Z (Qa (Qe Z) Z (Qd (Qh [true] Z Z (Qa (Qe Z) Z (Qd (Q4 (Yr (Qh [true,true,true] Z Z (Qa (Qc Z) Z (Qa (Q8 Z Z (Yt hc1n hxs.1)) Z (Qa (Qe Z) Z (Qd (Q4 (Yc (k + 1,(xs[k]'hi1).val,true) (by simp;omega) ⟨Z,Z,Z,Z,Z,Z,Z,Z,Z,trivial⟩ ⟨E,(by omega),(by omega),Bl hI hc1n (by simpa [K6] using hc2)⟩)))))))))))))))))
  ·refine Qn (Q4 (Yr (Qh [true,true,true] Z Z (Qa (Qc Z) Z (Qa (Q8 Z Z (Yt hc1n hxs.1)) Z (Qa (Qe Z) Z (Qd (Q4 (Yc (k + 1,n,s) (by simp;omega) ⟨Z,Z,Z,Z,Z,Z,Z,Z,Z,trivial⟩ ⟨E,(by omega),(by omega),Dl hI hc1n (by simpa [K6] using hc2)⟩)))))))))
 ·have hc1n : ¬ k < xs.length:=by first | (have h:=of_decide_eq_false hc1;omega) | (have h:=hc1;simp at h;omega)
  refine Yn (Q5 (Q3 ?_))
  refine Qf (Qh [true,true,true,true] Z Z (Qa (Qc Z) Z (Qa (Qc Z) Z (Qa (Qe Z) Z (Qa (Qe Z) Z (Qd (Qw (Y5 (l:=[.tmp 8,.tmp 9]) (vs:=[.int .i64 n,.bool s]) Z ⟨.tmp Z,.tmp Z,trivial⟩ Z E ?_))))))))
  simp only [← hI,List.drop_of_length_le (show xs.length ≤ k by omega),K2]

set_option maxRecDepth 20000 in
theorem s_CellsOk (vxs : Value) (xs : List Cell) (w : World) (hxs : RdS w vxs xs) : Ct Tryz.prog 126 [vxs] w (fun v _=>v = .bool ((T5 xs).all Ko)):=by
 refine Yh Tryz.func126 Z Tryz.ntmps126 Z ?_
 refine Q7 [(0,vxs)] ⟨Z,trivial⟩ ?_
 have E : Ext w w:=Ext.refl w
 refine Qf (Qh [true] Z Z (Qa (Qe Z) Z (Qd (Qf (Qf (Qh [true] Z Z (Qa (Qe Z) Z (Qd (Q0 (Ym (fun (j : Nat)=>[(0,vxs),(2,.bool false),(3,.int .i64 ((j + 1 : Nat) : Int))]) (fun (j : Nat) w'=>Ext w w' ∧ w.heap.size ≤ w'.heap.size ∧ ((T5 xs).take j).all Ko = true) (fun (j : Nat)=>xs.length - j) 0 ⟨Z,Z,Z,trivial⟩ ⟨E,Nat.le_refl _,Z⟩ ?_))))))))))
 clear E
 rintro j w1 ⟨E,z1,hI⟩
 have hlm:=hxs.1
 unfold maxLen at hlm
 refine Qf (Qf (Qh [true,true,true,true] Z Z (Qa (Qc Z) Z (Qa (Qc Z) Z (Qa (Ya Tryz.underlying65 Z (hxs.ext E).len) Z (Qa (Yf Z Z) Z (Qd (Qs Z (fun hc1=>?_) (fun hc1=>?_)))))))))
 ·have hc1n : j + 1 < xs.length:=by first | (have h:=of_decide_eq_true hc1;omega) | (have h:=hc1;simp at h;omega)
  refine Qn (Qf (Q0 (Qf (Xj Xi [(0,true),(1,true),(2,true),(3,true),(4,true),(5,true),(6,true),(7,true),(8,true),(9,false),(10,true)] (by decide +kernel) Z (fun w2 e1=>?_)))))
  replace E:=E.trans e1
  have z2:=e1.size
  refine Qa (Qc Z) Z (Qa (Qc Z) Z (Qa (Uu Z Z (sub_one (m:=j) (by unfold maxLen;omega))) Z ?_))
  have hi1 : j < xs.length:=(by first | assumption | omega | (simp only [List.length_set];first | assumption | omega))
  refine Qa (Q1 (i:=j) Xq Z Z (hxs.ext E) hi1) Z (Qa (Qt Xn Z ((hxs.ext E).get hi1) Z) Z (Qa (Qc Z) Z (Qa (Qc Z) Z ?_)))
  have hi2 : j + 1 < xs.length:=(by first | assumption | omega | (simp only [List.length_set];first | assumption | omega))
  refine Qa (Q1 (i:=j + 1) Xq Z Z (hxs.ext E) hi2) Z (Qa (Qt Xn Z ((hxs.ext E).get hi2) Z) Z (Qv Tryz.call147 Z (s_CellOrder (xs[j]'hi1) (xs[j + 1]'hi2) _ ) Z (fun _ w3 e2 hv=>?_)))
  subst hv
  replace E:=E.trans e2
  have z3:=e2.size
  refine Qa (T0 Z Z) Z (Qd (Qs Z (fun hc2=>?_) (fun hc2=>?_)))
  ·refine Qf (Qh [true] Z Z (Qa (Qe Z) Z (Qd (Qw (Q2 (Y0 (Q2 (Ql Z Z E ?_))))))))
   exact adj_no hc1n (by simpa [Ko] using hc2)
  ·refine Qn (Q4 (Yr (Qh [true,true,true] Z Z (Qa (Qc Z) Z (Qa (Q8 Z Z (Yt hc1n hxs.1)) Z (Qa (Qe Z) Z (Qd (Q4 (Yc (j + 1) (by omega) ⟨Z,Z,Z,trivial⟩ ⟨E,(by omega),adj_step hI (by assumption) (by simpa [Ko] using hc2)⟩)))))))))
 ·have hc1n : ¬ j + 1 < xs.length:=by first | (have h:=of_decide_eq_false hc1;omega) | (have h:=hc1;simp at h;omega)
  refine Yn (Q5 (Q3 ?_))
  refine Qf (Qh [true] Z Z (Qa (Qe Z) Z (Qd (Qw (Ql Z Z E ?_)))))
  exact adj_yes hI (by omega)

set_option maxRecDepth 20000 in
theorem c_CellsOk (vxs : Value) (xs : List Cell) (w : World) (hxs : RdS w vxs xs) : Ct Tryz.prog 112 [vxs] w (fun v _=>v = .bool ((T5 xs).all Ko)):=by
 refine Yh Tryz.func112 Z Tryz.ntmps112 Z ?_
 refine Q7 [(0,vxs)] ⟨Z,trivial⟩ ?_
 have E : Ext w w:=Ext.refl w
 refine Qf (Qh [true] Z Z (Qa (Qe Z) Z (Qd (Qf (Qf (Qh [true] Z Z (Qa (Qe Z) Z (Qd (Q0 (Ym (fun (j : Nat)=>[(0,vxs),(2,.bool false),(3,.int .i64 ((j + 1 : Nat) : Int))]) (fun (j : Nat) w'=>Ext w w' ∧ w.heap.size ≤ w'.heap.size ∧ ((T5 xs).take j).all Ko = true) (fun (j : Nat)=>xs.length - j) 0 ⟨Z,Z,Z,trivial⟩ ⟨E,Nat.le_refl _,Z⟩ ?_))))))))))
 clear E
 rintro j w1 ⟨E,z1,hI⟩
 have hlm:=hxs.1
 unfold maxLen at hlm
 refine Qf (Qf (Qh [true,true,true,true] Z Z (Qa (Qc Z) Z (Qa (Qc Z) Z (Qa (Ya Tryz.underlying65 Z (hxs.ext E).len) Z (Qa (Yf Z Z) Z (Qd (Qs Z (fun hc1=>?_) (fun hc1=>?_)))))))))
 ·have hc1n : j + 1 < xs.length:=by first | (have h:=of_decide_eq_true hc1;omega) | (have h:=hc1;simp at h;omega)
  refine Qn (Qf (Q0 (Qf (Xj Xi [(0,true),(1,true),(2,true),(3,true),(4,true),(5,true),(6,true),(7,true),(8,true),(9,false),(10,true)] (by decide +kernel) Z (fun w2 e1=>?_)))))
  replace E:=E.trans e1
  have z2:=e1.size
  refine Qa (Qc Z) Z (Qa (Qc Z) Z (Qa (Uu Z Z (sub_one (m:=j) (by unfold maxLen;omega))) Z ?_))
  have hi1 : j < xs.length:=(by first | assumption | omega | (simp only [List.length_set];first | assumption | omega))
  refine Qa (Q1 (i:=j) Xq Z Z (hxs.ext E) hi1) Z (Qa (Qt Xn Z ((hxs.ext E).get hi1) Z) Z (Qa (Qc Z) Z (Qa (Qc Z) Z ?_)))
  have hi2 : j + 1 < xs.length:=(by first | assumption | omega | (simp only [List.length_set];first | assumption | omega))
  refine Qa (Q1 (i:=j + 1) Xq Z Z (hxs.ext E) hi2) Z (Qa (Qt Xn Z ((hxs.ext E).get hi2) Z) Z (Qv Tryz.call136 Z (c_CellOrder (xs[j]'hi1) (xs[j + 1]'hi2) _ ) Z (fun _ w3 e2 hv=>?_)))
  subst hv
  replace E:=E.trans e2
  have z3:=e2.size
  refine Qa (T0 Z Z) Z (Qd (Qs Z (fun hc2=>?_) (fun hc2=>?_)))
  ·refine Qf (Qh [true] Z Z (Qa (Qe Z) Z (Qd (Qw (Q2 (Y0 (Q2 (Ql Z Z E ?_))))))))
   exact adj_no hc1n (by simpa [Ko] using hc2)
  ·refine Qn (Q4 (Yr (Qh [true,true,true] Z Z (Qa (Qc Z) Z (Qa (Q8 Z Z (Yt hc1n hxs.1)) Z (Qa (Qe Z) Z (Qd (Q4 (Yc (j + 1) (by omega) ⟨Z,Z,Z,trivial⟩ ⟨E,(by omega),adj_step hI (by assumption) (by simpa [Ko] using hc2)⟩)))))))))
 ·have hc1n : ¬ j + 1 < xs.length:=by first | (have h:=of_decide_eq_false hc1;omega) | (have h:=hc1;simp at h;omega)
  refine Yn (Q5 (Q3 ?_))
  refine Qf (Qh [true] Z Z (Qa (Qe Z) Z (Qd (Qw (Ql Z Z E ?_)))))
  exact adj_yes hI (by omega)

set_option maxRecDepth 20000 in
theorem markCellS (vxs : Value) (lo hi : Nat) (xs : List Cell) (k : Nat) (w : World) (hxs : Own w lo hi 4 vxs (List.flatMap (Enc.enc (α:=Cell)) xs)) (hb : k + xs.length * 4 ≤ 1099511627776) : CtR Tryz.prog 70 [vxs,.int .i64 ((k : Nat) : Int)] w lo hi (fun v w'=>v = .int .i64 ((k + 4 * xs.length : Nat) : Int) ∧ Own w' lo hi 4 vxs (List.flatMap (Enc.enc (α:=Cell)) (V2 4 To k xs.length))):=by
 refine Vs Tryz.func70 Z Tryz.ntmps70 Z ?_
 refine Q7 [(0,vxs),(1,.int .i64 ((k : Nat) : Int))] ⟨Z,Z,trivial⟩ ?_
 have E : ModR w w lo hi:=ModR.refl w lo hi
 refine Qf (Qh [true] Z Z (Qa (Qe Z) Z (Qd (Qf (Qf (Qh [true] Z Z (Qa (Qe Z) Z (Qd (Q0 (Ym (fun (xq : Nat × Nat × List Cell)=>let ⟨i,q,bs⟩:=xq;[(0,vxs),(1,.int .i64 ((q : Nat) : Int)),(4,.int .i64 0),(5,.int .i64 ((i : Nat) : Int))]) (fun (xq : Nat × Nat × List Cell) w'=>let ⟨i,q,bs⟩:=xq;ModR w w' lo hi ∧ w.heap.size ≤ w'.heap.size ∧ i + bs.length = xs.length ∧ q = k + 4 * i ∧ Own w' lo hi 4 vxs (List.flatMap (Enc.enc (α:=Cell)) (V2 4 To k i ++ bs))) (fun (xq : Nat × Nat × List Cell)=>let ⟨i,q,bs⟩:=xq;xs.length - i) (0,k,xs) ⟨Z,Z,Z,Z,trivial⟩ ⟨E,Nat.le_refl _,(by simp),(by simp),(by simpa [V2] using hxs)⟩ ?_))))))))))
 clear E hxs
 rintro ⟨i,q,bs⟩ w1 ⟨E,z1,hi,hq,hxs⟩
 refine Q7 [(0,vxs),(1,.int .i64 ((q : Nat) : Int)),(4,.int .i64 0),(5,.int .i64 ((i : Nat) : Int))] ⟨Z,Z,Z,Z,trivial⟩ ?_
 refine Qf (Qf (Qh [true,true,true,true] Z Z (Qa (Qc Z) Z (Qa (Qc Z) Z (Qa (Ya Tryz.underlying65 Z (Own.lenE (by decide) hxs (by simp only [List.length_append,Qi,List.length_cons];omega))) Z (Qa (Yf Z Z) Z (Qd (Qs Z (fun hc1=>?_) (fun hc1=>?_)))))))))
 ·rcases bs with _ | ⟨x,bs⟩
  ·exact absurd hi (by have h:=hc1;simp at h ⊢;omega)
  simp only [List.length_cons] at hi
  have hc1n : i < xs.length:=by first | (have h:=of_decide_eq_true hc1;omega) | (have h:=hc1;simp at h;omega)
  refine Qn (Qf (Q0 (Qf (Qh [true,true,true,true,true,false] Z Z (Qa (Qc Z) Z (Qa (Qc Z) Z (Qa (Qc Z) Z (Qa (Q1 Xq Z Z (Own.rd (by decide) hxs) (by simp only [List.length_append,Qi,List.length_cons];omega)) Z (Qa (Qz K5 Z) Z (Xh (α:=Cell) (i:=i) (f:=0) (⟨((q : Nat) : Int),x.epoch,x.key,x.val⟩ : Cell) Yo Z Z Z Z hxs (Qi _ _ _ _) (by decide) Z (fun w2 m1 hxs'=>?_)))))))))))
  have hq:=hxs.blk
  replace hxs:=hxs'
  replace E:=E.mod m1 (fun g hg=>by have:=hq g hg;omega)
  have z2:=m1.size
  clear hq
  refine Qd (Qf (Qh [true,true,true] Z Z (Qa (Qc Z) Z (Qa (Q8 Z Z (Ye (by unfold maxLen;omega))) Z (Qa (Qe Z) Z (Qd (Qf (Qh [true,true,true,true,true,false] Z Z (Qa (Qc Z) Z (Qa (Qc Z) Z (Qa (Qc Z) Z (Qa (Q1 Xq Z Z (Own.rd (by decide) hxs) (by simp only [List.length_append,Qi,List.length_cons];omega)) Z (Qa (Qz K4 Z) Z (Xh (α:=Cell) (i:=i) (f:=1) (⟨((q : Nat) : Int),((q + 1 : Nat) : Int),x.key,x.val⟩ : Cell) Yo Z Z Z Z hxs (Qi _ _ _ _) (by decide) Z (fun w3 m2 hxs'=>?_)))))))))))))))
  have hq:=hxs.blk
  replace hxs:=hxs'
  replace E:=E.mod m2 (fun g hg=>by have:=hq g hg;omega)
  have z3:=m2.size
  clear hq
  refine Qd (Qf (Qh [true,true,true] Z Z (Qa (Qc Z) Z (Qa (Q8 Z Z (Ye (by unfold maxLen;omega))) Z (Qa (Qe Z) Z (Qd (Qf (Qh [true,true,true,true,true,false] Z Z (Qa (Qc Z) Z (Qa (Qc Z) Z (Qa (Qc Z) Z (Qa (Q1 Xq Z Z (Own.rd (by decide) hxs) (by simp only [List.length_append,Qi,List.length_cons];omega)) Z (Qa (Qz K3 Z) Z (Xh (α:=Cell) (i:=i) (f:=2) (⟨((q : Nat) : Int),((q + 1 : Nat) : Int),((q + 1 + 1 : Nat) : Int),x.val⟩ : Cell) Yo Z Z Z Z hxs (Qi _ _ _ _) (by decide) Z (fun w4 m3 hxs'=>?_)))))))))))))))
  have hq:=hxs.blk
  replace hxs:=hxs'
  replace E:=E.mod m3 (fun g hg=>by have:=hq g hg;omega)
  have z4:=m3.size
  clear hq
  refine Qd (Qf (Qh [true,true,true] Z Z (Qa (Qc Z) Z (Qa (Q8 Z Z (Ye (by unfold maxLen;omega))) Z (Qa (Qe Z) Z (Qd (Qf (Qh [true,true,true,true,true,false] Z Z (Qa (Qc Z) Z (Qa (Qc Z) Z (Qa (Qc Z) Z (Qa (Q1 Xq Z Z (Own.rd (by decide) hxs) (by simp only [List.length_append,Qi,List.length_cons];omega)) Z (Qa (Qz Ul Z) Z (Xh (α:=Cell) (i:=i) (f:=3) (⟨((q : Nat) : Int),((q + 1 : Nat) : Int),((q + 1 + 1 : Nat) : Int),((q + 1 + 1 + 1 : Nat) : Int)⟩ : Cell) Yo Z Z Z Z hxs (Qi _ _ _ _) (by decide) Z (fun w5 m4 hxs'=>?_)))))))))))))))
  have hq:=hxs.blk
  replace hxs:=hxs'
  replace E:=E.mod m4 (fun g hg=>by have:=hq g hg;omega)
  have z5:=m4.size
  clear hq
  refine Qd (Qh [true,true,true] Z Z (Qa (Qc Z) Z (Qa (Q8 Z Z (Ye (by unfold maxLen;omega))) Z (Qa (Qe Z) Z (Qd (Q4 (Yr (Qh [true,true,true] Z Z (Qa (Qc Z) Z (Qa (Q8 Z Z (Ye (by unfold maxLen;omega))) Z (Qa (Qe Z) Z (Qd (Q4 (Yc (i + 1,q + 1 + 1 + 1 + 1,bs) (by simp;omega) ⟨rfl,rfl,rfl,rfl,trivial⟩ ⟨E,(by omega),(by omega),(by omega),(by subst hq;rw [← Hi];exact hxs)⟩))))))))))))))
 ·have hc1n : ¬ i < xs.length:=by first | (have h:=of_decide_eq_false hc1;omega) | (have h:=hc1;simp at h;omega)
  refine Yn (Q5 (Q3 ?_))
  refine Qf (Qh [true,true] Z Z (Qa (Qc Z) Z (Qa (Qe Z) Z (Qd (Qw (Ql Z Z E ?_))))))
  exact ⟨by subst hq;rw [show i = xs.length from by omega],by obtain rfl : bs = []:=List.eq_nil_of_length_eq_zero (by omega);rw [show xs.length = i from by simp at hi;omega];simpa using hxs⟩

set_option maxRecDepth 20000 in
theorem heldCellS (vxs : Value) (xs : List Cell) (k : Nat) (w : World) (hxs : RdS w vxs xs) (hm : xs = V2 4 To k xs.length) (hb : k + xs.length * 4 ≤ 1099511627776) : Ct Tryz.prog 76 [vxs,.int .i64 ((k : Nat) : Int)] w (fun v _=>v = .int .i64 ((k + 4 * xs.length : Nat) : Int)):=by
 refine Yh Tryz.func76 Z Tryz.ntmps76 Z ?_
 refine Q7 [(0,vxs),(1,.int .i64 ((k : Nat) : Int))] ⟨Z,Z,trivial⟩ ?_
 have E : Ext w w:=Ext.refl w
 refine Qf (Qh [true] Z Z (Qa (Qe Z) Z (Qd (Qf (Qf (Qh [true] Z Z (Qa (Qe Z) Z (Qd (Q0 (Ym (fun (xq : Nat × Nat)=>let ⟨i,q⟩:=xq;[(0,vxs),(1,.int .i64 ((q : Nat) : Int)),(4,.int .i64 0),(5,.int .i64 ((i : Nat) : Int))]) (fun (xq : Nat × Nat) w'=>let ⟨i,q⟩:=xq;Ext w w' ∧ w.heap.size ≤ w'.heap.size ∧ i ≤ xs.length ∧ q = k + 4 * i) (fun (xq : Nat × Nat)=>let ⟨i,q⟩:=xq;xs.length - i) (0,k) ⟨Z,Z,Z,Z,trivial⟩ ⟨E,Nat.le_refl _,Nat.zero_le _,(by simp)⟩ ?_))))))))))
 clear E
 rintro ⟨i,q⟩ w1 ⟨E,z1,hi,hq⟩
 refine Q7 [(0,vxs),(1,.int .i64 ((q : Nat) : Int)),(4,.int .i64 0),(5,.int .i64 ((i : Nat) : Int))] ⟨Z,Z,Z,Z,trivial⟩ ?_
 refine Qf (Qf (Qh [true,true,true,true] Z Z (Qa (Qc Z) Z (Qa (Qc Z) Z (Qa (Ya Tryz.underlying65 Z (hxs.ext E).len) Z (Qa (Yf Z Z) Z (Qd (Qs Z (fun hc1=>?_) (fun hc1=>?_)))))))))
 ·have hc1n : i < xs.length:=by first | (have h:=of_decide_eq_true hc1;omega) | (have h:=hc1;simp at h;omega)
  refine Qn (Qf (Q0 (Qf (Qf (Qh [true,true,true,true,true,true,true] Z Z (Qa (Qc Z) Z (Qa (Qc Z) Z ?_)))))))
  have hi1 : i < xs.length:=(by first | assumption | omega | (simp only [List.length_set];first | assumption | omega))
  refine Qa (Q1 (i:=i) Xq Z Z (hxs.ext E) hi1) Z (Qa (Qz K5 Z) Z (Qa (Qj Yo Z (((hxs.ext E).get hi1).one 0 Z)) Z (Qa (Qc Z) Z (Qa (Yu Z Z) Z (Qd (Yy rfl (by subst hq;rw [Ui hm (by omega)];simp [To]) (Qn (Qf (Qh [true,true,true] Z Z (Qa (Qc Z) Z (Qa (Q8 Z Z (Ye (by unfold maxLen;omega))) Z (Qa (Qe Z) Z (Qd (Qf (Qf (Qh [true,true,true,true,true,true,true] Z Z (Qa (Qc Z) Z (Qa (Qc Z) Z (Qa (Q1 (i:=i) Xq Z Z (hxs.ext E) hi1) Z (Qa (Qz K4 Z) Z (Qa (Qj Yo Z (((hxs.ext E).get hi1).one 1 Z)) Z (Qa (Qc Z) Z (Qa (Yu Z Z) Z (Qd (Yy rfl (by subst hq;rw [Ui hm (by omega)];simp [To]) (Qn (Qf (Qh [true,true,true] Z Z (Qa (Qc Z) Z (Qa (Q8 Z Z (Ye (by unfold maxLen;omega))) Z (Qa (Qe Z) Z (Qd (Qf (Qf (Qh [true,true,true,true,true,true,true] Z Z (Qa (Qc Z) Z (Qa (Qc Z) Z (Qa (Q1 (i:=i) Xq Z Z (hxs.ext E) hi1) Z (Qa (Qz K3 Z) Z (Qa (Qj Yo Z (((hxs.ext E).get hi1).one 2 Z)) Z (Qa (Qc Z) Z (Qa (Yu Z Z) Z (Qd (Yy rfl (by subst hq;rw [Ui hm (by omega)];simp [To]) (Qn (Qf (Qh [true,true,true] Z Z (Qa (Qc Z) Z (Qa (Q8 Z Z (Ye (by unfold maxLen;omega))) Z (Qa (Qe Z) Z (Qd (Qf (Qf (Qh [true,true,true,true,true,true,true] Z Z (Qa (Qc Z) Z (Qa (Qc Z) Z (Qa (Q1 (i:=i) Xq Z Z (hxs.ext E) hi1) Z (Qa (Qz Ul Z) Z (Qa (Qj Yo Z (((hxs.ext E).get hi1).one 3 Z)) Z (Qa (Qc Z) Z (Qa (Yu Z Z) Z (Qd (Yy rfl (by subst hq;rw [Ui hm (by omega)];simp [To]) (Qn (Qh [true,true,true] Z Z (Qa (Qc Z) Z (Qa (Q8 Z Z (Ye (by unfold maxLen;omega))) Z (Qa (Qe Z) Z (Qd (Q4 (Yr (Qh [true,true,true] Z Z (Qa (Qc Z) Z (Qa (Q8 Z Z (Ye (by unfold maxLen;omega))) Z (Qa (Qe Z) Z (Qd (Q4 (Yc (i + 1,q + 1 + 1 + 1 + 1) (by simp;omega) ⟨Z,Z,Z,Z,trivial⟩ ⟨E,(by omega),(by omega),(by omega)⟩))))))))))))))))))))))))))))))))))))))))))))))))))))))))))))))))))))))))))))))
 ·have hc1n : ¬ i < xs.length:=by first | (have h:=of_decide_eq_false hc1;omega) | (have h:=hc1;simp at h;omega)
  refine Yn (Q5 (Q3 ?_))
  refine Qf (Qh [true,true] Z Z (Qa (Qc Z) Z (Qa (Qe Z) Z (Qd (Qw (Ql Z Z E ?_))))))
  subst hq;rw [show i = xs.length from by omega]

set_option maxRecDepth 20000 in
theorem c_szIntS (vxs : Value) (xs : List Int) (n : Int) (w : World) (hxs : RdS w vxs xs) (h0 : 0 ≤ n ∧ n ≤ 1048576) : Ct Tryz.prog 83 [vxs,.int .i64 n] w (fun v _=>v = .int .i64 (Up xs.length n)):=by
 refine Yh Tryz.func83 Z Tryz.ntmps83 Z ?_
 refine Q7 [(0,vxs),(1,.int .i64 n)] ⟨Z,Z,trivial⟩ ?_
 have E : Ext w w:=Ext.refl w
 refine Qf (Qh [true] Z Z (Qa (Qe Z) Z (Qd (Qf (Qh [true,true,true,true,true] Z Z (Qa (Qc Z) Z (Qa (Qc Z) Z (Qa (Ya Tryz.underlying66 Z (hxs.ext E).len) Z (Qa (Uu Z Z Z) Z (Qa (Qe Z) Z (Qd (Qf (Qf (Qh [true,true] Z Z (Qa (Qc Z) Z (Qa (Yf Z Z) Z (Qd (Qs Z (fun hc1=>?_) (fun hc1=>?_)))))))))))))))))))
 ·refine Qf (Qh [true] Z Z (Qa (Qe Z) Z (Qd (Qw (Ql Z Z E ?_)))))
  exact B3 h0.2 h0.1 hxs.1 hc1
 ·refine Qn (Qf (Qh [true,true] Z Z (Qa (Qc Z) Z (Qa (Qe Z) Z (Qd (Qw (Ql Z Z E ?_)))))))
  exact C0 h0.2 h0.1 hxs.1 hc1

set_option maxRecDepth 20000 in
theorem c_toIntS (vxs : Value) (xs : List Int) (w : World) (hxs : RdS w vxs xs) (hb : xs.length ≤ 1048576) : Ct Tryz.prog 103 [vxs] w (fun v w'=>Own w' w.heap.size w'.heap.size 1 v (List.flatMap (Enc.enc (α:=Int)) xs)):=by
 refine Yh Tryz.func103 Z Tryz.ntmps103 Z ?_
 refine Q7 [(0,vxs)] ⟨Z,trivial⟩ ?_
 have E : Ext w w:=Ext.refl w
 refine Qf (Qh [true] Z Z (Qa (Qe Z) Z (Qd (Qf (Qh [true,true,false,true] Z Z (Qa (Qc Z) Z (Qa (Ya Tryz.underlying66 Z (hxs.ext E).len) Z (H9 (m:=xs.length) Uv Z Z (by omega) (by decide) Z (fun b1 w1 e1 s1 h1=>?_)))))))))
 have g_b1 : w.heap.size ≤ b1:=by have:=E.size;omega
 have y_b1:=h1.lt
 replace E:=E.trans e1
 have z1:=e1.size
 refine Qa (Qe Z) Z (Qd (Qf (Qf (Qh [true] Z Z (Qa (Qe Z) Z (Qd (Q0 (Ym (fun (k : Nat)=>[(0,vxs),(2,.slice none 0 0),(3,.slice (some ⟨b1,0,none⟩) xs.length xs.length),(4,.int .i64 ((k : Nat) : Int))]) (fun (k : Nat) w'=>Ext w w' ∧ w1.heap.size ≤ w'.heap.size ∧ k ≤ xs.length ∧ Blk w' b1 (mk xs [.int .i64 0] k xs.length)) (fun (k : Nat)=>xs.length - k) 0 ⟨Z,Z,Z,Z,trivial⟩ ⟨E,Nat.le_refl _,Nat.zero_le _,(Tl xs [.int .i64 0] xs.length) ▸ h1⟩ ?_))))))))
 clear E h1
 rintro k w2 ⟨E,z2,hk,h1⟩
 refine Qf (Qf (Qh [true,true,true,true] Z Z (Qa (Qc Z) Z (Qa (Qc Z) Z (Qa (Ya Tryz.underlying66 Z (hxs.ext E).len) Z (Qa (Yf Z Z) Z (Qd (Qs Z (fun hc1=>?_) (fun hc1=>?_)))))))))
 ·have hc1n : k < xs.length:=by first | (have h:=of_decide_eq_true hc1;omega) | (have h:=hc1;simp at h;omega)
  refine Qn (Qf (Q0 (Qh [true,true,true,true,true,true,true,false] Z Z (Qa (Qc Z) Z (Qa (Qc Z) Z (Qa (Qc Z) Z (Qa (Qc Z) Z ?_)))))))
  have hi1 : k < xs.length:=(by first | assumption | omega | (simp only [List.length_set];first | assumption | omega))
  refine Qa (Q1 (i:=k) Uv Z Z (hxs.ext E) hi1) Z (Qa (Qj Yo Z (((hxs.ext E).get hi1).one 0 Z)) Z (Qa (Vo Uv Z Z (by first | assumption | omega | (simp only [List.length_set];first | assumption | omega))) Z (Yj (cs':=mk xs [.int .i64 0] (k + 1) xs.length) Yo Z Z Z h1 (Tn xs [.int .i64 0] Z hc1n hc1n (by rfl)) (Tm xs [.int .i64 0] Z hc1n hc1n) (fun w3 m1 h1'=>?_))))
  replace h1:=h1'
  replace E:=E.step m1 (fun g hg=>by cases hg;omega)
  have z3:=m1.size
  refine Qd (Q4 (Yr (Qh [true,true,true] Z Z (Qa (Qc Z) Z (Qa (Q8 Z Z (Yt hc1n hxs.1)) Z (Qa (Qe Z) Z (Qd (Q4 (Yc (k + 1) (by omega) ⟨Z,Z,Z,Z,trivial⟩ ⟨E,(by omega),(by omega),h1⟩)))))))))
 ·have hc1n : ¬ k < xs.length:=by first | (have h:=of_decide_eq_false hc1;omega) | (have h:=hc1;simp at h;omega)
  refine Yn (Q5 (Q3 ?_))
  refine Qf (Qh [true,true] Z Z (Qa (Qc Z) Z (Qa (Qe Z) Z (Qd (Qw (Ql Z Z E ?_))))))
  obtain rfl : k = xs.length:=by omega
  rw [C7] at h1
  exact Own.ofBlk h1 (by omega) (by have:=h1.lt;omega) (Yb xs) hxs.1

set_option maxRecDepth 20000 in
theorem c_eqIntS (vxs : Value) (xs : List Int) (vys : Value) (ys : List Int) (w : World) (hxs : RdS w vxs xs) (hys : RdS w vys ys) : Ct Tryz.prog 122 [vxs,vys] w (fun v _=>v = .bool (decide (xs = ys))):=by
 refine Yh Tryz.func122 Z Tryz.ntmps122 Z ?_
 refine Q7 [(0,vxs),(1,vys)] ⟨Z,Z,trivial⟩ ?_
 have E : Ext w w:=Ext.refl w
 refine Qf (Qh [true] Z Z (Qa (Qe Z) Z (Qd (Qf (Qf (Qh [true,true,true,true,true] Z Z (Qa (Qc Z) Z (Qa (Ya Tryz.underlying66 Z (hxs.ext E).len) Z (Qa (Qc Z) Z (Qa (Ya Tryz.underlying66 Z (hys.ext E).len) Z (Qa (Yu Z Z) Z (Qd (Qs Z (fun hc1=>?_) (fun hc1=>?_))))))))))))))
 ·have hc1n : ¬ xs.length = ys.length:=by first | (have h:=of_decide_eq_true hc1;omega) | (have h:=hc1;simp at h;omega)
  refine Qf (Qh [true] Z Z (Qa (Qe Z) Z (Qd (Qw (Ql Z Z E ?_)))))
  simp [H6 hc1n]
 ·have hc1n : xs.length = ys.length:=by first | (have h:=of_decide_eq_false hc1;omega) | (have h:=hc1;simp at h;omega)
  refine Qn (Qf (Qf (Qh [true] Z Z (Qa (Qe Z) Z (Qd (Q0 (Ym (fun (k : Nat)=>[(0,vxs),(1,vys),(4,.bool false),(5,.int .i64 ((k : Nat) : Int))]) (fun (k : Nat) w'=>Ext w w' ∧ w.heap.size ≤ w'.heap.size ∧ k ≤ xs.length ∧ xs.take k = ys.take k) (fun (k : Nat)=>xs.length - k) 0 ⟨Z,Z,Z,Z,trivial⟩ ⟨E,Nat.le_refl _,Nat.zero_le _,Z⟩ ?_)))))))
  clear E
  rintro k w1 ⟨E,z1,hk,hp⟩
  refine Qf (Qf (Qh [true,true,true,true] Z Z (Qa (Qc Z) Z (Qa (Qc Z) Z (Qa (Ya Tryz.underlying66 Z (hxs.ext E).len) Z (Qa (Yf Z Z) Z (Qd (Qs Z (fun hc2=>?_) (fun hc2=>?_)))))))))
  ·have hc2n : k < xs.length:=by first | (have h:=of_decide_eq_true hc2;omega) | (have h:=hc2;simp at h;omega)
   refine Qn (Qf (Q0 (Qf (Xj Xi [(0,true),(1,true),(2,true),(3,true),(4,true),(5,true),(6,true),(7,true),(8,true)] (by decide +kernel) Z (fun w2 e1=>?_)))))
   replace E:=E.trans e1
   have z2:=e1.size
   refine Qa (Qc Z) Z (Qa (Qc Z) Z ?_)
   have hi1 : k < xs.length:=(by first | assumption | omega | (simp only [List.length_set];first | assumption | omega))
   refine Qa (Q1 (i:=k) Uv Z Z (hxs.ext E) hi1) Z (Qa (Qj Yo Z (((hxs.ext E).get hi1).one 0 Z)) Z (Qa (Qc Z) Z (Qa (Qc Z) Z ?_)))
   have hi2 : k < ys.length:=(by first | assumption | omega | (simp only [List.length_set];first | assumption | omega))
   refine Qa (Q1 (i:=k) Uv Z Z (hys.ext E) hi2) Z (Qa (Qj Yo Z (((hys.ext E).get hi2).one 0 Z)) Z (Qa (Yu Z Z) Z (Qd (Qs Z (fun hc3=>?_) (fun hc3=>?_)))))
   ·refine Qf (Qh [true] Z Z (Qa (Qe Z) Z (Qd (Qw (Q2 (Y0 (Q2 (Ql Z Z E ?_))))))))
    exact H7 (by omega) (by omega) (by simpa using hc3)
   ·refine Qn (Q4 (Yr (Qh [true,true,true] Z Z (Qa (Qc Z) Z (Qa (Q8 Z Z (Yt hc2n hxs.1)) Z (Qa (Qe Z) Z (Qd (Q4 (Yc (k + 1) (by omega) ⟨Z,Z,Z,Z,trivial⟩ ⟨E,(by omega),(by omega),Vn hp (by assumption) (by omega) (by simpa using hc3)⟩)))))))))
  ·have hc2n : ¬ k < xs.length:=by first | (have h:=of_decide_eq_false hc2;omega) | (have h:=hc2;simp at h;omega)
   refine Yn (Q5 (Q3 ?_))
   refine Qf (Qh [true] Z Z (Qa (Qe Z) Z (Qd (Qw (Ql Z Z E ?_)))))
   exact Gr hp hc1n (by omega)

set_option maxRecDepth 20000 in
theorem c_szNode (cx : List Value) (x : Node) (n : Int) (w : World) (hx : Dat.R w 0 w.heap.size cx x) (h0 : 0 ≤ n ∧ n ≤ 1048576) : Ct Tryz.prog 80 [.agg cx.toArray,.int .i64 n] w (fun v _=>v = .int .i64 (Up (Xx x) n)):=by
 refine Yh Tryz.func80 Z Tryz.ntmps80 Z ?_
 obtain ⟨o1,rfl,hd1⟩:=Node.op hx
 refine Q7 [(0,.agg [.int .i64 x.kind,.int .i64 x.a,.int .i64 x.b,o1].toArray),(1,.int .i64 n)] ⟨Z,Z,trivial⟩ ?_
 have E : Ext w w:=Ext.refl w
 refine Qf (Qh [false,true] Z Z (Y1 Z Z (fun b1 w1 e1 s1 h1=>?_)))
 have g_b1 : w.heap.size ≤ b1:=by have:=E.size;omega
 have y_b1:=h1.lt
 replace E:=E.trans e1
 have z1:=e1.size
 refine Qa (Qe Z) Z (Qd (Qf (Qh [true,true,true,false,true] Z Z (Qa (Qb fl133_3 Z) Z (Qa (Qj Ke Z (h1.one 3 Z)) Z (Qa (Qc Z) Z (Qv Tryz.call83 Z (c_szIntS o1 x.outs n _ (hd1.rd.ext E) (by first | omega | (simp only [Qi];omega) | (rw [Qi];done) | (simp only [Qi];done))) Z (fun _ w2 e2 hv=>?_))))))))
 subst hv
 replace E:=E.trans e2;replace h1:=h1.ext e2
 have z2:=e2.size
 refine Qa (Qe Z) Z (Qd (Qf (Qf (Qh [true,true] Z Z (Qa (Qc Z) Z (Qa (Yf Z Z) Z (Qd (Qs Z (fun hc1=>?_) (fun hc1=>?_)))))))))
 ·have q1:=Uo hc1 (by omega)
  refine Qf (Qh [true] Z Z (Qa (Qe Z) Z (Qd (Qw (Ql Z Z E ?_)))))
  first | exact Kg (by unfold Xx;omega) | exact Kz (by unfold Xx;omega) (by unfold Xx;omega)
 ·have q2:=Un hc1 (by omega)
  refine Qn (Qf (Qh [true,true] Z Z (Qa (Qc Z) Z (Qa (Qe Z) Z (Qd (Qw (Ql Z Z E ?_)))))))
  first | exact Kg (by unfold Xx;omega) | exact Kz (by unfold Xx;omega) (by unfold Xx;omega)

set_option maxRecDepth 20000 in
theorem c_toNode (cx : List Value) (x : Node) (w : World) (hx : Dat.R w 0 w.heap.size cx x) (hb : Xx x ≤ 1048576) : Ct Tryz.prog 100 [.agg cx.toArray] w (fun v w'=>∃ cs,v = .agg cs.toArray ∧ Own1.O w' w.heap.size w'.heap.size cs x):=by
 unfold Xx at hb
 refine Yh Tryz.func100 Z Tryz.ntmps100 Z ?_
 obtain ⟨o1,rfl,hd1⟩:=Node.op hx
 refine Q7 [(0,.agg [.int .i64 x.kind,.int .i64 x.a,.int .i64 x.b,o1].toArray)] ⟨Z,trivial⟩ ?_
 have E : Ext w w:=Ext.refl w
 refine Qf (Qh [false,false] Z Z (Y1 Z Z (fun b1 w1 e1 s1 h1=>?_)))
 have g_b1 : w.heap.size ≤ b1:=by have:=E.size;omega
 have y_b1:=h1.lt
 replace E:=E.trans e1
 have z1:=e1.size
 refine Yk Xo Z (fun b2 w2 e2 s2 h2=>?_)
 have g_b2 : w.heap.size ≤ b2:=by have:=E.size;omega
 have y_b2:=h2.lt
 replace E:=E.trans e2;replace h1:=h1.ext e2
 have z2:=e2.size
 refine Qd (Qf (Qh [false] Z Z (Yk Xo Z (fun b3 w3 e3 s3 h3=>?_))))
 have g_b3 : w.heap.size ≤ b3:=by have:=E.size;omega
 have y_b3:=h3.lt
 replace E:=E.trans e3;replace h1:=h1.ext e3;replace h2:=h2.ext e3
 have z3:=e3.size
 refine Qd (Qf (Qh [true,true,true,false] Z Z (Qa (Qb fl133_0 Z) Z (Qa (Qj Yo Z (h1.one 0 Z)) Z (Qa (Qb Xk Z) Z (Yj (cs':=[.int .i64 x.kind,.int .i64 0,.int .i64 0,.slice none 0 0]) Yo Z Z Z h3 (Nat.le_of_ble_eq_true Z) Z (fun w4 m1 h3'=>?_)))))))
 replace h3:=h3'
 replace E:=E.step m1 (fun g hg=>by cases hg;omega);replace h1:=h1.mod m1 (fun g hg=>by cases hg;omega);replace h2:=h2.mod m1 (fun g hg=>by cases hg;omega)
 have z4:=m1.size
 refine Qd (Qf (Qh [true,true,true,false] Z Z (Qa (Qb fl133_1 Z) Z (Qa (Qj Yo Z (h1.one 1 Z)) Z (Qa (Qb X2 Z) Z (Yj (cs':=[.int .i64 x.kind,.int .i64 x.a,.int .i64 0,.slice none 0 0]) Yo Z Z Z h3 (Nat.le_of_ble_eq_true Z) Z (fun w5 m2 h3'=>?_)))))))
 replace h3:=h3'
 replace E:=E.step m2 (fun g hg=>by cases hg;omega);replace h1:=h1.mod m2 (fun g hg=>by cases hg;omega);replace h2:=h2.mod m2 (fun g hg=>by cases hg;omega)
 have z5:=m2.size
 refine Qd (Qf (Qh [true,true,true,false] Z Z (Qa (Qb fl133_2 Z) Z (Qa (Qj Yo Z (h1.one 2 Z)) Z (Qa (Qb Uf Z) Z (Yj (cs':=[.int .i64 x.kind,.int .i64 x.a,.int .i64 x.b,.slice none 0 0]) Yo Z Z Z h3 (Nat.le_of_ble_eq_true Z) Z (fun w6 m3 h3'=>?_)))))))
 replace h3:=h3'
 replace E:=E.step m3 (fun g hg=>by cases hg;omega);replace h1:=h1.mod m3 (fun g hg=>by cases hg;omega);replace h2:=h2.mod m3 (fun g hg=>by cases hg;omega)
 have z6:=m3.size
 refine Qd (Qf (Qh [true,true,false,true,false] Z Z (Qa (Qb fl133_3 Z) Z (Qa (Qj Ke Z (h1.one 3 Z)) Z (Qv Tryz.call103 Z (c_toIntS o1 x.outs _ (hd1.rd.ext E) (by first | omega | (simp only [Qi];omega) | (rw [Qi];done) | (simp only [Qi];done))) Z (fun v1 w7 e4 ho1=>?_))))))
 have g_ho1 : w.heap.size ≤ w6.heap.size:=E.size
 replace E:=E.trans e4;replace h1:=h1.ext e4;replace h2:=h2.ext e4;replace h3:=h3.ext e4
 have z7:=e4.size
 refine Qa (Qb Y8 Z) Z (Yj (cs':=[.int .i64 x.kind,.int .i64 x.a,.int .i64 x.b,v1]) Ke Z Z ho1.one h3 (Nat.le_of_ble_eq_true Z) Z (fun w8 m4 h3'=>?_))
 replace h3:=h3'
 replace E:=E.step m4 (fun g hg=>by cases hg;omega);replace h1:=h1.mod m4 (fun g hg=>by cases hg;omega);replace h2:=h2.mod m4 (fun g hg=>by cases hg;omega);replace ho1:=ho1.mod m4 (fun g hg=>by cases hg;omega)
 have z8:=m4.size
 refine Qd (Qf (Qh [true,false] Z Z (Qa (Qt Xo Z h3.at Z) Z (Q6 (cs':=[.int .i64 x.kind,.int .i64 x.a,.int .i64 x.b,v1]) Xo Z Z Z (Qk Z (Qk Z (Qk Z (Qk ho1.one Z)))) h2 (Nat.le_of_ble_eq_true Z) Z (fun w9 m5 h2'=>?_)))))
 replace h2:=h2'
 replace E:=E.step m5 (fun g hg=>by cases hg;omega);replace h1:=h1.mod m5 (fun g hg=>by cases hg;omega);replace h3:=h3.mod m5 (fun g hg=>by cases hg;omega);replace ho1:=ho1.mod m5 (fun g hg=>by cases hg;omega)
 have z9:=m5.size
 refine Qd (Qw (Kk Z Z (Yi Xo h2.at Z) E ?_))
 exact ⟨_,Z,Node.mkO x ⟨trivial,trivial⟩ (Own.widen ho1 (by omega) (by omega))⟩

set_option maxRecDepth 20000 in
theorem c_eqNode (cx : List Value) (x : Node) (cy : List Value) (y : Node) (w : World) (hx : Dat.R w 0 w.heap.size cx x) (hy : Dat.R w 0 w.heap.size cy y) : Ct Tryz.prog 119 [.agg cx.toArray,.agg cy.toArray] w (fun v _=>v = .bool (decide (x = y))):=by
 refine Yh Tryz.func119 Z Tryz.ntmps119 Z ?_
 obtain ⟨o1,rfl,hd1⟩:=Node.op hx
 obtain ⟨o2,rfl,hd2⟩:=Node.op hy
 refine Q7 [(0,.agg [.int .i64 x.kind,.int .i64 x.a,.int .i64 x.b,o1].toArray),(1,.agg [.int .i64 y.kind,.int .i64 y.a,.int .i64 y.b,o2].toArray)] ⟨Z,Z,trivial⟩ ?_
 have E : Ext w w:=Ext.refl w
 refine Qf (Qh [false,false,true] Z Z (Y1 Z Z (fun b1 w1 e1 s1 h1=>?_)))
 have g_b1 : w.heap.size ≤ b1:=by have:=E.size;omega
 have y_b1:=h1.lt
 replace E:=E.trans e1
 have z1:=e1.size
 refine Y1 Z Z (fun b2 w2 e2 s2 h2=>?_)
 have g_b2 : w.heap.size ≤ b2:=by have:=E.size;omega
 have y_b2:=h2.lt
 replace E:=E.trans e2;replace h1:=h1.ext e2
 have z2:=e2.size
 refine Qa (Qe Z) Z (Qd (Qf (Qf (Qh [true,true,true,true,true] Z Z (Qa (Qb Xk Z) Z (Qa (Qj Yo Z (h1.one 0 Z)) Z (Qa (Qb Xk Z) Z (Qa (Qj Yo Z (h2.one 0 Z)) Z (Qa (Yu Z Z) Z (Qd (Qs Z (fun hc1=>?_) (fun hc1=>?_))))))))))))
 ·refine Qf (Qh [true] Z Z (Qa (Qe Z) Z (Qd (Qw (Ql Z Z E ?_)))))
  cases x;cases y;simp_all
 ·refine Qn (Qf (Qf (Qh [true,true,true,true,true] Z Z (Qa (Qb X2 Z) Z (Qa (Qj Yo Z (h1.one 1 Z)) Z (Qa (Qb X2 Z) Z (Qa (Qj Yo Z (h2.one 1 Z)) Z (Qa (Yu Z Z) Z (Qd (Qs Z (fun hc2=>?_) (fun hc2=>?_)))))))))))
  ·refine Qf (Qh [true] Z Z (Qa (Qe Z) Z (Qd (Qw (Ql Z Z E ?_)))))
   cases x;cases y;simp_all
  ·refine Qn (Qf (Qf (Qh [true,true,true,true,true] Z Z (Qa (Qb Uf Z) Z (Qa (Qj Yo Z (h1.one 2 Z)) Z (Qa (Qb Uf Z) Z (Qa (Qj Yo Z (h2.one 2 Z)) Z (Qa (Yu Z Z) Z (Qd (Qs Z (fun hc3=>?_) (fun hc3=>?_)))))))))))
   ·refine Qf (Qh [true] Z Z (Qa (Qe Z) Z (Qd (Qw (Ql Z Z E ?_)))))
    cases x;cases y;simp_all
   ·refine Qn (Qf (Qf (Qh [true,true,true,true,false,true] Z Z (Qa (Qb Y8 Z) Z (Qa (Qj Ke Z (h1.one 3 Z)) Z (Qa (Qb Y8 Z) Z (Qa (Qj Ke Z (h2.one 3 Z)) Z (Qv Tryz.call122 Z (c_eqIntS o1 x.outs o2 y.outs _ (hd1.rd.ext E) (hd2.rd.ext E)) Z (fun _ w3 e3 hv=>?_)))))))))
    subst hv
    replace E:=E.trans e3;replace h1:=h1.ext e3;replace h2:=h2.ext e3
    have z3:=e3.size
    refine Qa (Yq Z) Z (Qd (Qs Z (fun hc4=>?_) (fun hc4=>?_)))
    ·refine Qf (Qh [true] Z Z (Qa (Qe Z) Z (Qd (Qw (Ql Z Z E ?_)))))
     cases x;cases y;simp_all
    ·refine Qn (Qf (Qh [true] Z Z (Qa (Qe Z) Z (Qd (Qw (Ql Z Z E ?_))))))
     cases x;cases y;simp_all

set_option maxRecDepth 20000 in
theorem c_szNodeS (vxs : Value) (xs : List Node) (n : Int) (w : World) (hxs : RdD w 0 w.heap.size vxs xs) (h0 : 0 ≤ n ∧ n ≤ 1048576) : Ct Tryz.prog 41 [vxs,.int .i64 n] w (fun v _=>v = .int .i64 (Up (X1 Xx xs) n)):=by
 have hlm:=hxs.1.1
 unfold maxLen at hlm
 refine Yh Tryz.func41 Z Tryz.ntmps41 Z ?_
 refine Q7 [(0,vxs),(1,.int .i64 n)] ⟨Z,Z,trivial⟩ ?_
 have E : Ext w w:=Ext.refl w
 refine Qf (Qh [true] Z Z (Qa (Qe Z) Z (Qd (Qf (Qh [true,true,true,true,true] Z Z (Qa (Qc Z) Z (Qa (Qc Z) Z (Qa (Ya Tryz.underlying22 Z (hxs.ext E).len) Z (Qa (Uu Z Z (Ub (by omega) (by omega))) Z (Qa (Qe Z) Z (Qd (Qf (Qf (Qh [true,true] Z Z (Qa (Qc Z) Z (Qa (Yf Z Z) Z (Qd (Qs Z (fun hc1=>?_) (fun hc1=>?_)))))))))))))))))))
 ·refine Qf (Qh [true] Z Z (Qa (Qe Z) Z (Qd (Qw (Ql Z Z E ?_)))))
  exact Kg (by have:=of_decide_eq_true hc1;unfold X1;omega)
 ·refine Qn (Qf (Qf (Qh [true] Z Z (Qa (Qe Z) Z (Qd (Q0 (Ym (fun (xq : Nat × Int)=>let ⟨k,l⟩:=xq;[(0,vxs),(1,.int .i64 l),(4,.int .i64 0),(5,.int .i64 ((k : Nat) : Int))]) (fun (xq : Nat × Int) w'=>let ⟨k,l⟩:=xq;Ext w w' ∧ w.heap.size ≤ w'.heap.size ∧ k ≤ xs.length ∧ 0 ≤ l ∧ l ≤ 1048576 ∧ l = n - ((xs.length : Nat) : Int) - ((((xs.take k).map Xx).sum : Nat) : Int)) (fun (xq : Nat × Int)=>let ⟨k,l⟩:=xq;xs.length - k) (0,n - ((xs.length : Nat) : Int)) ⟨Z,Z,Z,Z,trivial⟩ ⟨E,Nat.le_refl _,Nat.zero_le _,(by have:=of_decide_eq_false hc1;simp;omega)⟩ ?_)))))))
  clear E
  rintro ⟨k,l⟩ w1 ⟨E,z1,hk,hl⟩
  refine Q7 [(0,vxs),(1,.int .i64 l),(4,.int .i64 0),(5,.int .i64 ((k : Nat) : Int))] ⟨Z,Z,Z,Z,trivial⟩ ?_
  refine Qf (Qf (Qh [true,true,true,true] Z Z (Qa (Qc Z) Z (Qa (Qc Z) Z (Qa (Ya Tryz.underlying22 Z (hxs.ext E).len) Z (Qa (Yf Z Z) Z (Qd (Qs Z (fun hc2=>?_) (fun hc2=>?_)))))))))
  ·have hc2n : k < xs.length:=by first | (have h:=of_decide_eq_true hc2;omega) | (have h:=hc2;simp at h;omega)
   refine Qn (Qf (Q0 (Qf (Qh [true,true,true,true,true,false,true] Z Z (Qa (Qc Z) Z (Qa (Qc Z) Z ?_))))))
   have hi1 : k < xs.length:=(by first | assumption | omega | (simp only [List.length_set];first | assumption | omega))
   obtain ⟨_,hr1,ha1⟩:=RdD.get hxs hi1
   obtain ⟨o1,rfl,hd1⟩:=Node.op hr1
   replace ha1 : At w (Xf vxs) (Xm vxs + k * 4) [.int .i64 ((xs[k]'hi1).kind),.int .i64 ((xs[k]'hi1).a),.int .i64 ((xs[k]'hi1).b),o1]:=ha1
   refine Qa (Q1 (i:=k) sl22 Z Z (hxs.ext E).1 hi1) Z (Qa (Qt st133 Z (ha1.ext E) Z) Z (Qa (Qc Z) Z (Qv Tryz.call80 Z (c_szNode [.int .i64 ((xs[k]'hi1).kind),.int .i64 ((xs[k]'hi1).a),.int .i64 ((xs[k]'hi1).b),o1] (xs[k]'hi1) l _ (Node.mkR (xs[k]'hi1) (RdD.any (hd1.ext E))) (by first | omega | (simp only [Qi];omega) | (rw [Qi];done) | (simp only [Qi];done))) Z (fun _ w2 e1 hv=>?_))))
   subst hv
   replace E:=E.trans e1
   have z2:=e1.size
   refine Qa (Qe Z) Z (Qd (Qf (Qh [true,true] Z Z (Qa (Qc Z) Z (Qa (Yf Z Z) Z (Qd (Qs Z (fun hc3=>?_) (fun hc3=>?_))))))))
   ·have q1:=Uo hc3 (by omega)
    refine Qf (Qh [true] Z Z (Qa (Qe Z) Z (Qd (Qw (Q2 (Y0 (Q2 (Ql Z Z E ?_))))))))
    exact Kg (by have:=Gf (f:=Xx) (show k < xs.length by omega);unfold X1;omega)
   ·have q2:=Un hc3 (by omega)
    refine Qn (Q4 (Yr (Qh [true,true,true] Z Z (Qa (Qc Z) Z (Qa (Q8 Z Z (Yt hc2n (hxs.ext E).1.1)) Z (Qa (Qe Z) Z (Qd (Q4 (Yc (k + 1,Up (Xx (xs[k]'hi1)) l) (by simp;omega) ⟨Z,Z,Z,Z,trivial⟩ ⟨E,(by omega),(by omega),(by have:=B4 (f:=Xx) (show k < xs.length by omega);omega)⟩)))))))))
  ·have hc2n : ¬ k < xs.length:=by first | (have h:=of_decide_eq_false hc2;omega) | (have h:=hc2;simp at h;omega)
   refine Yn (Q5 (Q3 ?_))
   refine Qf (Qh [true,true] Z Z (Qa (Qc Z) Z (Qa (Qe Z) Z (Qd (Qw (Ql Z Z E ?_))))))
   have:=sum_all (f:=Xx) (show xs.length ≤ k by omega);exact Kz (by unfold X1;omega) (by unfold X1;omega)

set_option maxRecDepth 20000 in
theorem c_toNodeS (vxs : Value) (xs : List Node) (w : World) (hxs : RdD w 0 w.heap.size vxs xs) (hb : X1 Xx xs ≤ 1048576) : Ct Tryz.prog 49 [vxs] w (fun v w'=>OwS (α:=Node) w' w.heap.size w'.heap.size v xs):=by
 unfold X1 at hb
 refine Yh Tryz.func49 Z Tryz.ntmps49 Z ?_
 refine Q7 [(0,vxs)] ⟨Z,trivial⟩ ?_
 have E : Ext w w:=Ext.refl w
 refine Qf (Qh [true] Z Z (Qa (Qe Z) Z (Qd (Qf (Qh [true,true,false,true] Z Z (Qa (Qc Z) Z (Qa (Ya Tryz.underlying22 Z (hxs.ext E).len) Z (H9 (m:=xs.length) Gv Z Z (by omega) (by decide) Z (fun b1 w1 e1 s1 h1=>?_)))))))))
 have g_b1 : w.heap.size ≤ b1:=by have:=E.size;omega
 have y_b1:=h1.lt
 replace E:=E.trans e1
 have z1:=e1.size
 refine Qa (Qe Z) Z (Qd (Qf (Qf (Qh [true] Z Z (Qa (Qe Z) Z (Qd (Q0 (Ym (fun (xq : Nat × List (List Value))=>let ⟨k,css⟩:=xq;[(0,vxs),(2,.slice none 0 0),(3,.slice (some ⟨b1,0,none⟩) xs.length xs.length),(4,.int .i64 ((k : Nat) : Int))]) (fun (xq : Nat × List (List Value)) w'=>let ⟨k,css⟩:=xq;Ext w w' ∧ w1.heap.size ≤ w'.heap.size ∧ k ≤ xs.length ∧ css.length = k ∧ Blk w' b1 (D2 css [.int .i64 0,.int .i64 0,.int .i64 0,.slice none 0 0] (xs.length - k)) ∧ AllO w' w1.heap.size w'.heap.size css (xs.take k)) (fun (xq : Nat × List (List Value))=>let ⟨k,css⟩:=xq;xs.length - k) (0,[]) ⟨Z,Z,Z,Z,trivial⟩ ⟨E,Nat.le_refl _,Nat.zero_le _,Z,(by simpa [D2] using h1),(by simp [AllO,All2])⟩ ?_))))))))
 clear E h1
 rintro ⟨k,css⟩ w2 ⟨E,z2,hk,hlk,h1,hA⟩
 refine Q7 [(0,vxs),(2,.slice none 0 0),(3,.slice (some ⟨b1,0,none⟩) xs.length xs.length),(4,.int .i64 ((k : Nat) : Int))] ⟨Z,Z,Z,Z,trivial⟩ ?_
 refine Qf (Qf (Qh [true,true,true,true] Z Z (Qa (Qc Z) Z (Qa (Qc Z) Z (Qa (Ya Tryz.underlying22 Z (hxs.ext E).len) Z (Qa (Yf Z Z) Z (Qd (Qs Z (fun hc1=>?_) (fun hc1=>?_)))))))))
 ·have hc1n : k < xs.length:=by first | (have h:=of_decide_eq_true hc1;omega) | (have h:=hc1;simp at h;omega)
  refine Qn (Qf (Q0 (Qh [true,true,true,true,true,true,false,true,false] Z Z (Qa (Qc Z) Z (Qa (Qc Z) Z (Qa (Qc Z) Z (Qa (Qc Z) Z ?_)))))))
  have hi1 : k < xs.length:=(by first | assumption | omega | (simp only [List.length_set];first | assumption | omega))
  obtain ⟨_,hr1,ha1⟩:=RdD.get hxs hi1
  obtain ⟨o1,rfl,hd1⟩:=Node.op hr1
  replace ha1 : At w (Xf vxs) (Xm vxs + k * 4) [.int .i64 ((xs[k]'hi1).kind),.int .i64 ((xs[k]'hi1).a),.int .i64 ((xs[k]'hi1).b),o1]:=ha1
  refine Qa (Q1 (i:=k) sl22 Z Z (hxs.ext E).1 hi1) Z (Qa (Qt st133 Z (ha1.ext E) Z) Z (Qv Tryz.call100 Z (c_toNode [.int .i64 ((xs[k]'hi1).kind),.int .i64 ((xs[k]'hi1).a),.int .i64 ((xs[k]'hi1).b),o1] (xs[k]'hi1) _ (Node.mkR (xs[k]'hi1) (RdD.any (hd1.ext E))) (by have:=Gf (f:=Xx) (show k < xs.length by omega);omega)) Z (fun _ w3 e2 ho1=>?_)))
  obtain ⟨_,rfl,ho1⟩:=ho1
  have g_ho1 : w.heap.size ≤ w2.heap.size:=E.size
  replace E:=E.trans e2;replace h1:=h1.ext e2;replace hA:=hA.ext e2
  have z3:=e2.size
  obtain ⟨o2,rfl,sp1,hw1⟩:=Node.opO ho1
  refine Qa (Vo Gv Z Z (by first | assumption | omega | (simp only [List.length_set];first | assumption | omega))) Z (Q6 (cs':=D2 (css ++ [[.int .i64 ((xs[k]'hi1).kind),.int .i64 ((xs[k]'hi1).a),.int .i64 ((xs[k]'hi1).b),o2]]) [.int .i64 0,.int .i64 0,.int .i64 0,.slice none 0 0] (xs.length - (k + 1))) Xo Z Z Z (Qk Z (Qk Z (Qk Z (Qk hw1.one Z)))) h1 (Am hA.d hlk Z hc1n (by rfl)) (Dg hA.d hlk Z hc1n Z) (fun w4 m1 h1'=>?_))
  replace h1:=h1'
  replace E:=E.step m1 (fun g hg=>by cases hg;omega);replace hA:=hA.mod m1 (fun g hg=>by cases hg;omega);replace hw1:=hw1.mod m1 (fun g hg=>by cases hg;omega)
  have z4:=m1.size
  refine Qd (Q4 (Yr (Qh [true,true,true] Z Z (Qa (Qc Z) Z (Qa (Q8 Z Z (Yt hc1n (hxs.ext E).1.1)) Z (Qa (Qe Z) Z (Qd (Q4 (Yc (k + 1,css ++ [[.int .i64 ((xs[k]'hi1).kind),.int .i64 ((xs[k]'hi1).a),.int .i64 ((xs[k]'hi1).b),o2]]) (by simp;omega) ⟨Z,Z,Z,Z,trivial⟩ ⟨E,(by omega),(by omega),(by simp [hlk]),h1,(AllO.widen (AllO.step hA hc1n (Node.mkO (xs[k]'hi1) sp1 (Own.widen hw1 (by omega) (by omega))) (Nat.le_refl _) (Nat.le_refl _) (by omega) (by omega)) (Nat.le_refl _) (by omega))⟩)))))))))
 ·have hc1n : ¬ k < xs.length:=by first | (have h:=of_decide_eq_false hc1;omega) | (have h:=hc1;simp at h;omega)
  refine Yn (Q5 (Q3 ?_))
  refine Qf (Qh [true,true] Z Z (Qa (Qc Z) Z (Qa (Qe Z) Z (Qd (Qw (Ql Z Z E ?_))))))
  obtain rfl : k = xs.length:=by omega
  rw [Nat.sub_self,mkc_all] at h1
  rw [List.take_length] at hA
  exact OwS.ofBlk h1 hA (by have:=E.size;omega) (by omega) (by have:=E.size;omega) (by omega) (by omega) Z (by unfold maxLen;omega)

set_option maxRecDepth 20000 in
theorem c_eqNodeS (vxs : Value) (xs : List Node) (vys : Value) (ys : List Node) (w : World) (hxs : RdD w 0 w.heap.size vxs xs) (hys : RdD w 0 w.heap.size vys ys) : Ct Tryz.prog 63 [vxs,vys] w (fun v _=>v = .bool (decide (xs = ys))):=by
 refine Yh Tryz.func63 Z Tryz.ntmps63 Z ?_
 refine Q7 [(0,vxs),(1,vys)] ⟨Z,Z,trivial⟩ ?_
 have E : Ext w w:=Ext.refl w
 refine Qf (Qh [true] Z Z (Qa (Qe Z) Z (Qd (Qf (Qf (Qh [true,true,true,true,true] Z Z (Qa (Qc Z) Z (Qa (Ya Tryz.underlying32 Z (hxs.ext E).len) Z (Qa (Qc Z) Z (Qa (Ya Tryz.underlying32 Z (hys.ext E).len) Z (Qa (Yu Z Z) Z (Qd (Qs Z (fun hc1=>?_) (fun hc1=>?_))))))))))))))
 ·have hc1n : ¬ xs.length = ys.length:=by first | (have h:=of_decide_eq_true hc1;omega) | (have h:=hc1;simp at h;omega)
  refine Qf (Qh [true] Z Z (Qa (Qe Z) Z (Qd (Qw (Ql Z Z E ?_)))))
  simp [H6 hc1n]
 ·have hc1n : xs.length = ys.length:=by first | (have h:=of_decide_eq_false hc1;omega) | (have h:=hc1;simp at h;omega)
  refine Qn (Qf (Qf (Qh [true] Z Z (Qa (Qe Z) Z (Qd (Q0 (Ym (fun (k : Nat)=>[(0,vxs),(1,vys),(4,.bool false),(5,.int .i64 ((k : Nat) : Int))]) (fun (k : Nat) w'=>Ext w w' ∧ w.heap.size ≤ w'.heap.size ∧ k ≤ xs.length ∧ xs.take k = ys.take k) (fun (k : Nat)=>xs.length - k) 0 ⟨Z,Z,Z,Z,trivial⟩ ⟨E,Nat.le_refl _,Nat.zero_le _,Z⟩ ?_)))))))
  clear E
  rintro k w1 ⟨E,z1,hk,hp⟩
  refine Qf (Qf (Qh [true,true,true,true] Z Z (Qa (Qc Z) Z (Qa (Qc Z) Z (Qa (Ya Tryz.underlying32 Z (hxs.ext E).len) Z (Qa (Yf Z Z) Z (Qd (Qs Z (fun hc2=>?_) (fun hc2=>?_)))))))))
  ·have hc2n : k < xs.length:=by first | (have h:=of_decide_eq_true hc2;omega) | (have h:=hc2;simp at h;omega)
   refine Qn (Qf (Q0 (Qf (Xj Xi [(0,true),(1,true),(2,true),(3,true),(4,true),(5,true),(6,true),(7,true),(8,false),(9,true)] (by decide +kernel) Z (fun w2 e1=>?_)))))
   replace E:=E.trans e1
   have z2:=e1.size
   refine Qa (Qc Z) Z (Qa (Qc Z) Z ?_)
   have hi1 : k < xs.length:=(by first | assumption | omega | (simp only [List.length_set];first | assumption | omega))
   obtain ⟨_,hr1,ha1⟩:=RdD.get hxs hi1
   obtain ⟨o1,rfl,hd1⟩:=Node.op hr1
   replace ha1 : At w (Xf vxs) (Xm vxs + k * 4) [.int .i64 ((xs[k]'hi1).kind),.int .i64 ((xs[k]'hi1).a),.int .i64 ((xs[k]'hi1).b),o1]:=ha1
   refine Qa (Q1 (i:=k) Gv Z Z (hxs.ext E).1 hi1) Z (Qa (Qt Xo Z (ha1.ext E) Z) Z (Qa (Qc Z) Z (Qa (Qc Z) Z ?_)))
   have hi2 : k < ys.length:=(by first | assumption | omega | (simp only [List.length_set];first | assumption | omega))
   obtain ⟨_,hr2,ha2⟩:=RdD.get hys hi2
   obtain ⟨o2,rfl,hd2⟩:=Node.op hr2
   replace ha2 : At w (Xf vys) (Xm vys + k * 4) [.int .i64 ((ys[k]'hi2).kind),.int .i64 ((ys[k]'hi2).a),.int .i64 ((ys[k]'hi2).b),o2]:=ha2
   refine Qa (Q1 (i:=k) Gv Z Z (hys.ext E).1 hi2) Z (Qa (Qt Xo Z (ha2.ext E) Z) Z (Qv Tryz.call119 Z (c_eqNode [.int .i64 ((xs[k]'hi1).kind),.int .i64 ((xs[k]'hi1).a),.int .i64 ((xs[k]'hi1).b),o1] (xs[k]'hi1) [.int .i64 ((ys[k]'hi2).kind),.int .i64 ((ys[k]'hi2).a),.int .i64 ((ys[k]'hi2).b),o2] (ys[k]'hi2) _ (Node.mkR (xs[k]'hi1) (RdD.any (hd1.ext E))) (Node.mkR (ys[k]'hi2) (RdD.any (hd2.ext E)))) Z (fun _ w3 e2 hv=>?_)))
   subst hv
   replace E:=E.trans e2
   have z3:=e2.size
   refine Qa (Yq Z) Z (Qd (Qs Z (fun hc3=>?_) (fun hc3=>?_)))
   ·refine Qf (Qh [true] Z Z (Qa (Qe Z) Z (Qd (Qw (Q2 (Y0 (Q2 (Ql Z Z E ?_))))))))
    exact H7 (by omega) (by omega) (by simpa using hc3)
   ·refine Qn (Q4 (Yr (Qh [true,true,true] Z Z (Qa (Qc Z) Z (Qa (Q8 Z Z (Yt hc2n (hxs.ext E).1.1)) Z (Qa (Qe Z) Z (Qd (Q4 (Yc (k + 1) (by omega) ⟨Z,Z,Z,Z,trivial⟩ ⟨E,(by omega),(by omega),Vn hp (by assumption) (by omega) (by simpa using hc3)⟩)))))))))
  ·have hc2n : ¬ k < xs.length:=by first | (have h:=of_decide_eq_false hc2;omega) | (have h:=hc2;simp at h;omega)
   refine Yn (Q5 (Q3 ?_))
   refine Qf (Qh [true] Z Z (Qa (Qe Z) Z (Qd (Qw (Ql Z Z E ?_)))))
   exact Gr hp hc1n (by omega)

set_option maxRecDepth 20000 in
theorem c_szGraph (cx : List Value) (x : Graph) (n : Int) (w : World) (hx : Dat.R w 0 w.heap.size cx x) (h0 : 0 ≤ n ∧ n ≤ 1048576) : Ct Tryz.prog 11 [.agg cx.toArray,.int .i64 n] w (fun v _=>v = .int .i64 (Up (Xa x) n)):=by
 refine Yh Tryz.func11 Z Tryz.ntmps11 Z ?_
 obtain ⟨o1,rfl,hd1⟩:=Graph.op hx
 refine Q7 [(0,.agg [o1,.int .i64 x.workers,.int .i64 x.cap].toArray),(1,.int .i64 n)] ⟨Z,Z,trivial⟩ ?_
 have E : Ext w w:=Ext.refl w
 refine Qf (Qh [false,true] Z Z (Y1 Z Z (fun b1 w1 e1 s1 h1=>?_)))
 have g_b1 : w.heap.size ≤ b1:=by have:=E.size;omega
 have y_b1:=h1.lt
 replace E:=E.trans e1
 have z1:=e1.size
 refine Qa (Qe Z) Z (Qd (Qf (Qh [true,true,true,false,true] Z Z (Qa (Qb fl24_0 Z) Z (Qa (Qj sc22 Z (h1.one 0 Z)) Z (Qa (Qc Z) Z (Qv Tryz.call41 Z (c_szNodeS o1 x.nodes n _ (RdD.any (hd1.ext E)) (by first | omega | (simp only [Qi];omega) | (rw [Qi];done) | (simp only [Qi];done))) Z (fun _ w2 e2 hv=>?_))))))))
 subst hv
 replace E:=E.trans e2;replace h1:=h1.ext e2
 have z2:=e2.size
 refine Qa (Qe Z) Z (Qd (Qf (Qf (Qh [true,true] Z Z (Qa (Qc Z) Z (Qa (Yf Z Z) Z (Qd (Qs Z (fun hc1=>?_) (fun hc1=>?_)))))))))
 ·have q1:=Uo hc1 (by omega)
  refine Qf (Qh [true] Z Z (Qa (Qe Z) Z (Qd (Qw (Ql Z Z E ?_)))))
  first | exact Kg (by unfold Xa;omega) | exact Kz (by unfold Xa;omega) (by unfold Xa;omega)
 ·have q2:=Un hc1 (by omega)
  refine Qn (Qf (Qh [true,true] Z Z (Qa (Qc Z) Z (Qa (Qe Z) Z (Qd (Qw (Ql Z Z E ?_)))))))
  first | exact Kg (by unfold Xa;omega) | exact Kz (by unfold Xa;omega) (by unfold Xa;omega)

set_option maxRecDepth 20000 in
theorem c_eqGraph (cx : List Value) (x : Graph) (cy : List Value) (y : Graph) (w : World) (hx : Dat.R w 0 w.heap.size cx x) (hy : Dat.R w 0 w.heap.size cy y) : Ct Tryz.prog 26 [.agg cx.toArray,.agg cy.toArray] w (fun v _=>v = .bool (decide (x = y))):=by
 refine Yh Tryz.func26 Z Tryz.ntmps26 Z ?_
 obtain ⟨o1,rfl,hd1⟩:=Graph.op hx
 obtain ⟨o2,rfl,hd2⟩:=Graph.op hy
 refine Q7 [(0,.agg [o1,.int .i64 x.workers,.int .i64 x.cap].toArray),(1,.agg [o2,.int .i64 y.workers,.int .i64 y.cap].toArray)] ⟨Z,Z,trivial⟩ ?_
 have E : Ext w w:=Ext.refl w
 refine Qf (Qh [false,false,true] Z Z (Y1 Z Z (fun b1 w1 e1 s1 h1=>?_)))
 have g_b1 : w.heap.size ≤ b1:=by have:=E.size;omega
 have y_b1:=h1.lt
 replace E:=E.trans e1
 have z1:=e1.size
 refine Y1 Z Z (fun b2 w2 e2 s2 h2=>?_)
 have g_b2 : w.heap.size ≤ b2:=by have:=E.size;omega
 have y_b2:=h2.lt
 replace E:=E.trans e2;replace h1:=h1.ext e2
 have z2:=e2.size
 refine Qa (Qe Z) Z (Qd (Qf (Qf (Qh [true,true,true,true,false,true] Z Z (Qa (Qb Kd Z) Z (Qa (Qj Gc Z (h1.one 0 Z)) Z (Qa (Qb Kd Z) Z (Qa (Qj Gc Z (h2.one 0 Z)) Z (Qv Tryz.call63 Z (c_eqNodeS o1 x.nodes o2 y.nodes _ (RdD.any (hd1.ext E)) (RdD.any (hd2.ext E))) Z (fun _ w3 e3 hv=>?_))))))))))
 subst hv
 replace E:=E.trans e3;replace h1:=h1.ext e3;replace h2:=h2.ext e3
 have z3:=e3.size
 refine Qa (Yq Z) Z (Qd (Qs Z (fun hc1=>?_) (fun hc1=>?_)))
 ·refine Qf (Qh [true] Z Z (Qa (Qe Z) Z (Qd (Qw (Ql Z Z E ?_)))))
  cases x;cases y;simp_all
 ·refine Qn (Qf (Qf (Qh [true,true,true,true,true] Z Z (Qa (Qb Cg Z) Z (Qa (Qj Yo Z (h1.one 1 Z)) Z (Qa (Qb Cg Z) Z (Qa (Qj Yo Z (h2.one 1 Z)) Z (Qa (Yu Z Z) Z (Qd (Qs Z (fun hc2=>?_) (fun hc2=>?_)))))))))))
  ·refine Qf (Qh [true] Z Z (Qa (Qe Z) Z (Qd (Qw (Ql Z Z E ?_)))))
   cases x;cases y;simp_all
  ·refine Qn (Qf (Qf (Qh [true,true,true,true,true] Z Z (Qa (Qb Cf Z) Z (Qa (Qj Yo Z (h1.one 2 Z)) Z (Qa (Qb Cf Z) Z (Qa (Qj Yo Z (h2.one 2 Z)) Z (Qa (Yu Z Z) Z (Qd (Qs Z (fun hc3=>?_) (fun hc3=>?_)))))))))))
   ·refine Qf (Qh [true] Z Z (Qa (Qe Z) Z (Qd (Qw (Ql Z Z E ?_)))))
    cases x;cases y;simp_all
   ·refine Qn (Qf (Qh [true] Z Z (Qa (Qe Z) Z (Qd (Qw (Ql Z Z E ?_))))))
    cases x;cases y;simp_all

set_option maxRecDepth 20000 in
theorem c_toGraph (cx : List Value) (x : Graph) (w : World) (hx : Dat.R w 0 w.heap.size cx x) (hb : Xa x ≤ 1048576) : Ct Tryz.prog 18 [.agg cx.toArray] w (fun v w'=>∃ o,v = .agg [o,.int .i64 x.workers,.int .i64 x.cap].toArray ∧ OwS w' w.heap.size w'.heap.size o x.nodes):=by
 unfold Xa at hb
 refine Yh Tryz.func18 Z Tryz.ntmps18 Z ?_
 obtain ⟨o1,rfl,hd1⟩:=Graph.op hx
 refine Q7 [(0,.agg [o1,.int .i64 x.workers,.int .i64 x.cap].toArray)] ⟨Z,trivial⟩ ?_
 have E : Ext w w:=Ext.refl w
 refine Qf (Qh [false,false] Z Z (Y1 Z Z (fun b1 w1 e1 s1 h1=>?_)))
 have g_b1 : w.heap.size ≤ b1:=by have:=E.size;omega
 have y_b1:=h1.lt
 replace E:=E.trans e1
 have z1:=e1.size
 refine Yk Km Z (fun b2 w2 e2 s2 h2=>?_)
 have g_b2 : w.heap.size ≤ b2:=by have:=E.size;omega
 have y_b2:=h2.lt
 replace E:=E.trans e2;replace h1:=h1.ext e2
 have z2:=e2.size
 refine Qd (Qf (Qh [false] Z Z (Yk Km Z (fun b3 w3 e3 s3 h3=>?_))))
 have g_b3 : w.heap.size ≤ b3:=by have:=E.size;omega
 have y_b3:=h3.lt
 replace E:=E.trans e3;replace h1:=h1.ext e3;replace h2:=h2.ext e3
 have z3:=e3.size
 refine Qd (Qf (Qh [true,true,false,true,false] Z Z (Qa (Qb fl24_0 Z) Z (Qa (Qj sc22 Z (h1.one 0 Z)) Z (Qv Tryz.call49 Z (c_toNodeS o1 x.nodes _ (RdD.any (hd1.ext E)) (by first | omega | (simp only [Qi];omega) | (rw [Qi];done) | (simp only [Qi];done))) Z (fun v1 w4 e4 ho1=>?_))))))
 have g_ho1 : w.heap.size ≤ w3.heap.size:=E.size
 replace E:=E.trans e4;replace h1:=h1.ext e4;replace h2:=h2.ext e4;replace h3:=h3.ext e4
 have z4:=e4.size
 refine Qa (Qb Kd Z) Z (Yj (cs':=[v1,.int .i64 0,.int .i64 0]) Gc Z Z (RdD.one (OwS.rd ho1)) h3 (Nat.le_of_ble_eq_true Z) Z (fun w5 m1 h3'=>?_))
 replace h3:=h3'
 replace E:=E.step m1 (fun g hg=>by cases hg;omega);replace h1:=h1.mod m1 (fun g hg=>by cases hg;omega);replace h2:=h2.mod m1 (fun g hg=>by cases hg;omega);replace ho1:=ho1.mod m1 (fun g hg=>by cases hg;omega)
 have z5:=m1.size
 refine Qd (Qf (Qh [true,true,true,false] Z Z (Qa (Qb fl24_1 Z) Z (Qa (Qj Yo Z (h1.one 1 Z)) Z (Qa (Qb Cg Z) Z (Yj (cs':=[v1,.int .i64 x.workers,.int .i64 0]) Yo Z Z Z h3 (Nat.le_of_ble_eq_true Z) Z (fun w6 m2 h3'=>?_)))))))
 replace h3:=h3'
 replace E:=E.step m2 (fun g hg=>by cases hg;omega);replace h1:=h1.mod m2 (fun g hg=>by cases hg;omega);replace h2:=h2.mod m2 (fun g hg=>by cases hg;omega);replace ho1:=ho1.mod m2 (fun g hg=>by cases hg;omega)
 have z6:=m2.size
 refine Qd (Qf (Qh [true,true,true,false] Z Z (Qa (Qb fl24_2 Z) Z (Qa (Qj Yo Z (h1.one 2 Z)) Z (Qa (Qb Cf Z) Z (Yj (cs':=[v1,.int .i64 x.workers,.int .i64 x.cap]) Yo Z Z Z h3 (Nat.le_of_ble_eq_true Z) Z (fun w7 m3 h3'=>?_)))))))
 replace h3:=h3'
 replace E:=E.step m3 (fun g hg=>by cases hg;omega);replace h1:=h1.mod m3 (fun g hg=>by cases hg;omega);replace h2:=h2.mod m3 (fun g hg=>by cases hg;omega);replace ho1:=ho1.mod m3 (fun g hg=>by cases hg;omega)
 have z7:=m3.size
 refine Qd (Qf (Qh [true,false] Z Z (Qa (Qt Km Z h3.at Z) Z (Q6 (cs':=[v1,.int .i64 x.workers,.int .i64 x.cap]) Km Z Z Z (Qk (RdD.one (OwS.rd ho1)) (Qk Z (Qk Z Z))) h2 (Nat.le_of_ble_eq_true Z) Z (fun w8 m4 h2'=>?_)))))
 replace h2:=h2'
 replace E:=E.step m4 (fun g hg=>by cases hg;omega);replace h1:=h1.mod m4 (fun g hg=>by cases hg;omega);replace h3:=h3.mod m4 (fun g hg=>by cases hg;omega);replace ho1:=ho1.mod m4 (fun g hg=>by cases hg;omega)
 have z8:=m4.size
 refine Qd (Qw (Kk Z Z (Yi Km h2.at Z) E ?_))
 exact ⟨_,Z,OwS.widen ho1 (by have:=E.size;omega) (by omega)⟩

set_option maxRecDepth 20000 in
theorem s_l01In (x : Int) (lo : Int) (hi : Int) (w : World)  : Ct Tryz.prog 93 [.int .i64 x,.int .i64 lo,.int .i64 hi] w (fun v _=>v = .bool (Yw x lo hi)):=by
 refine Yh Tryz.func93 Z Tryz.ntmps93 Z ?_
 refine Q7 [(0,.int .i64 x),(1,.int .i64 lo),(2,.int .i64 hi)] ⟨Z,Z,Z,trivial⟩ ?_
 have E : Ext w w:=Ext.refl w
 refine Qf (Qh [true] Z Z (Qa (Qe Z) Z (Qd (Qf (Qh [true,true,true,true,true,true,true,true,true] Z Z (Qa (Qc Z) Z (Qa (Qc Z) Z (Qa (T0 Z Z) Z (Qa (Qc Z) Z (Y7 4 [(0,.int .i64 x),(1,.int .i64 lo),(2,.int .i64 hi),(6,.bool false),(14,.bool ((decide (lo ≤ x)) && (decide (x ≤ hi))))] (fun w'=>w = w') ?_ ?_))))))))))
 ·refine Y3 (gd:=10) Z Z (fun hg1=>?_) (fun hg1=>?_)
  ·refine Qm Z Z (Qc Z) Z (Qm Z Z (Qc Z) Z (Qm Z Z (Aw Z Z) Z (Qa (Qx Z Z) Z (Qp ⟨Z,Z,Z,Z,congrArg (fun b=>some (Value.bool b)) (show (decide (x ≤ hi)) = ((decide (lo ≤ x)) && (decide (x ≤ hi))) by first | (rw [hg1] <;> rfl) | (simp [hg1];done) | (simp only [Qo] <;> simp)),trivial⟩ Z))))
  ·refine Qg Z Z Z Z (Qg Z Z Z Z (Qg Z Z Z Z (Qa (Qy Z Z) Z (Qp ⟨Z,Z,Z,Z,congrArg (fun b=>some (Value.bool b)) (show false = ((decide (lo ≤ x)) && (decide (x ≤ hi))) by first | (rw [hg1] <;> rfl) | (simp [hg1];done) | (simp only [Qo] <;> simp)),trivial⟩ Z))))
 rintro _ rfl
 refine Qa (Qe Z) Z (Qd (Qw (Ql Z Z E ?_)))
 rfl

set_option maxRecDepth 20000 in
theorem c_within (x : Int) (lo : Int) (hi : Int) (w : World)  : Ct Tryz.prog 58 [.int .i64 x,.int .i64 lo,.int .i64 hi] w (fun v _=>v = .bool (Yw x lo hi)):=by
 refine Yh Tryz.func58 Z Tryz.ntmps58 Z ?_
 refine Q7 [(0,.int .i64 x),(1,.int .i64 lo),(2,.int .i64 hi)] ⟨Z,Z,Z,trivial⟩ ?_
 have E : Ext w w:=Ext.refl w
 refine Qf (Qh [true] Z Z (Qa (Qe Z) Z (Qd (Qf (Qh [true,true,true,true,true,true,true,true,true] Z Z (Qa (Qc Z) Z (Qa (Qc Z) Z (Qa (T0 Z Z) Z (Qa (Qc Z) Z (Y7 4 [(0,.int .i64 x),(1,.int .i64 lo),(2,.int .i64 hi),(6,.bool false),(14,.bool ((decide (lo ≤ x)) && (decide (x ≤ hi))))] (fun w'=>w = w') ?_ ?_))))))))))
 ·refine Y3 (gd:=10) Z Z (fun hg1=>?_) (fun hg1=>?_)
  ·refine Qm Z Z (Qc Z) Z (Qm Z Z (Qc Z) Z (Qm Z Z (Aw Z Z) Z (Qa (Qx Z Z) Z (Qp ⟨Z,Z,Z,Z,congrArg (fun b=>some (Value.bool b)) (show (decide (x ≤ hi)) = ((decide (lo ≤ x)) && (decide (x ≤ hi))) by first | (rw [hg1] <;> rfl) | (simp [hg1];done) | (simp only [Qo] <;> simp)),trivial⟩ Z))))
  ·refine Qg Z Z Z Z (Qg Z Z Z Z (Qg Z Z Z Z (Qa (Qy Z Z) Z (Qp ⟨Z,Z,Z,Z,congrArg (fun b=>some (Value.bool b)) (show false = ((decide (lo ≤ x)) && (decide (x ≤ hi))) by first | (rw [hg1] <;> rfl) | (simp [hg1];done) | (simp only [Qo] <;> simp)),trivial⟩ Z))))
 rintro _ rfl
 refine Qa (Qe Z) Z (Qd (Qw (Ql Z Z E ?_)))
 rfl

set_option maxHeartbeats 4000000 in
set_option maxRecDepth 20000 in
theorem c_NodeOk (cx : List Value) (x : Node) (w : World) (hx : Dat.R w 0 w.heap.size cx x) : Ct Tryz.prog 111 [.agg cx.toArray] w (fun v _=>v = .bool (Xb x)):=by
 refine Yh Tryz.func111 Z Tryz.ntmps111 Z ?_
 obtain ⟨o1,rfl,hd1⟩:=Node.op hx
 refine Q7 [(0,.agg [.int .i64 x.kind,.int .i64 x.a,.int .i64 x.b,o1].toArray)] ⟨Z,trivial⟩ ?_
 have E : Ext w w:=Ext.refl w
 refine Qf (Qh [false,true] Z Z (Y1 Z Z (fun b1 w1 e1 s1 h1=>?_)))
 have g_b1 : w.heap.size ≤ b1:=by have:=E.size;omega
 have y_b1:=h1.lt
 replace E:=E.trans e1
 have z1:=e1.size
 refine Qa (Qe Z) Z (Qd (Qf (Qf (Qh [true,true] Z Z (Qa (Qb Xk Z) Z (Qa (Qj Yo Z (h1.one 0 Z)) Z (Qd (S_cutG (fun (_ : Unit)=>[(1,.pointer (some ⟨b1,0,none⟩)),(2,.bool false)]) (fun (_ : Unit) w'=>Ext w w' ∧ w1.heap.size ≤ w'.heap.size ∧ Blk w' b1 ([.int .i64 x.kind,.int .i64 x.a,.int .i64 x.b,o1]) ∧ U6 x = true) ?_ ?_))))))))
 ·refine Q0 (Qf (Qh [true,true] Z Z (Qa (Y6 Z Z) Z (Qa (Qe Z) Z (Qd (Qs Z (fun hc1=>?_) (fun hc1=>?_)))))))
  ·refine Qf (Qh [true,true,false,true,true,true,true,true,true] Z Z (Qa (Qb X2 Z) Z (Qa (Qj Yo Z (h1.one 1 Z)) Z (Qv Tryz.call58 Z (c_within x.a 0 999 _ ) Z (fun _ w2 e2 hv=>?_)))))
   subst hv
   replace E:=E.trans e2;replace h1:=h1.ext e2
   have z3:=e2.size
   refine Qa (Yq Z) Z (Qa (Qc Z) Z (Y7 4 [(0,.agg [.int .i64 x.kind,.int .i64 x.a,.int .i64 x.b,o1].toArray),(1,.pointer (some ⟨b1,0,none⟩)),(2,.bool false),(5,.pointer (some ⟨b1,0,none⟩)),(6,.int .i64 x.kind),(7,.bool (x.kind == 2)),(8,.bool (x.kind == 2)),(17,.bool ((!(Yw x.a 0 999)) || (x.b != 0)))] (fun w'=>w2 = w') ?_ ?_))
   ·refine Y3 (gd:=13) Z Z (fun hg1=>?_) (fun hg1=>?_)
    ·refine Qg Z Z Z Z (Qg Z Z Z Z (Qg Z Z Z Z (Qa (Qx Z Z) Z (Qp ⟨Z,Z,Z,Z,Z,Z,Z,congrArg (fun b=>some (Value.bool b)) (show true = ((!(Yw x.a 0 999)) || (x.b != 0)) by first | (rw [hg1] <;> rfl) | (simp [hg1];done) | (simp only [Qo] <;> simp)),trivial⟩ Z))))
    ·refine Qm Z Z (Qb Uf Z) Z (Qm Z Z (Qj Yo Z (h1.one 2 Z)) Z (Qm Z Z (Yu Z Z) Z (Qa (Qy Z Z) Z (Qp ⟨Z,Z,Z,Z,Z,Z,Z,congrArg (fun b=>some (Value.bool b)) (show (x.b != 0) = ((!(Yw x.a 0 999)) || (x.b != 0)) by first | (rw [hg1] <;> rfl) | (simp [hg1];done) | (simp only [Qo] <;> simp)),trivial⟩ Z))))
   rintro _ rfl
   refine Qd (Qs Z (fun hc2=>?_) (fun hc2=>?_))
   ·refine Qf (Qh [true] Z Z (Qa (Qe Z) Z (Qd (Qw (Q2 (Vg (Ql Z Z E ?_)))))))
    exact H4 (by rw [node_2 (by assumption)];exact kx (by assumption))
   ·refine Qn (Q4 (Yr (Q4 (G3 () ⟨Z,Z,trivial⟩ ⟨E,(by omega),h1,(by rw [node_2 (by assumption)];exact ky (by assumption))⟩))))
  ·refine Qf (Qh [true,true] Z Z (Qa (Y6 Z Z) Z (Qa (Qe Z) Z (Qd (Qs Z (fun hc3=>?_) (fun hc3=>?_))))))
   ·refine Qf (Qh [true,true,false,true,true,true,true,true,true,true,false,true,true] Z Z (Qa (Qb X2 Z) Z (Qa (Qj Yo Z (h1.one 1 Z)) Z (Qv Tryz.call58 Z (c_within x.a 1 10 _ ) Z (fun _ w4 e3 hv=>?_)))))
    subst hv
    replace E:=E.trans e3;replace h1:=h1.ext e3
    have z4:=e3.size
    refine Qa (Yq Z) Z (Qa (Qc Z) Z (Y7 8 [(0,.agg [.int .i64 x.kind,.int .i64 x.a,.int .i64 x.b,o1].toArray),(1,.pointer (some ⟨b1,0,none⟩)),(2,.bool false),(5,.pointer (some ⟨b1,0,none⟩)),(6,.int .i64 x.kind),(7,.bool (x.kind == 2)),(8,.bool (x.kind == 2)),(18,.bool (x.kind == 3)),(19,.bool (x.kind == 3)),(32,.bool ((!(Yw x.a 1 10)) || (!(Yw x.b 0 (IntKind.i64.wrap (x.a - 1))))))] (fun w'=>Ext w w' ∧ w4.heap.size ≤ w'.heap.size ∧ Blk w' b1 ([.int .i64 x.kind,.int .i64 x.a,.int .i64 x.b,o1])) ?_ ?_))
    ·refine Y3 (gd:=24) Z Z (fun hg2=>?_) (fun hg2=>?_)
     ·refine Qg Z Z Z Z (Qg Z Z Z Z (Qg Z Z Z Z (Qg Z Z Z Z (Qg Z Z Z Z ?_))))
      refine Yp Z Z Z Z ?_
      refine Qg Z Z Z Z (Qa (Qx Z Z) Z (Qp ⟨Z,Z,Z,Z,Z,Z,Z,Z,Z,congrArg (fun b=>some (Value.bool b)) (show true = ((!(Yw x.a 1 10)) || (!(Yw x.b 0 (IntKind.i64.wrap (x.a - 1))))) by first | (rw [hg2] <;> rfl) | (simp [hg2];done) | (simp only [Qo] <;> simp)),trivial⟩ ⟨E,(by omega),h1⟩))
     ·refine Qm Z Z (Qb Uf Z) Z (Qm Z Z (Qj Yo Z (h1.one 2 Z)) Z (Qm Z Z (Qb X2 Z) Z (Qm Z Z (Qj Yo Z (h1.one 1 Z)) Z (Qm Z Z (Uu Z Z Z) Z ?_))))
      refine Xp Z Z ?_
      refine Qv Tryz.call58 Z (c_within x.b 0 (IntKind.i64.wrap (x.a - 1)) _ ) Z (fun _ w6 e4 hv=>?_)
      subst hv
      replace E:=E.trans e4;replace h1:=h1.ext e4
      have z5:=e4.size
      refine Qm Z Z (Yq Z) Z (Qa (Qy Z Z) Z (Qp ⟨Z,Z,Z,Z,Z,Z,Z,Z,Z,congrArg (fun b=>some (Value.bool b)) (show (!(Yw x.b 0 (IntKind.i64.wrap (x.a - 1)))) = ((!(Yw x.a 1 10)) || (!(Yw x.b 0 (IntKind.i64.wrap (x.a - 1))))) by first | (rw [hg2] <;> rfl) | (simp [hg2];done) | (simp only [Qo] <;> simp)),trivial⟩ ⟨E,(by omega),h1⟩))
    clear E h1
    rintro w5 ⟨E,z6,h1⟩
    refine Qd (Qs Z (fun hc4=>?_) (fun hc4=>?_))
    ·refine Qf (Qh [true] Z Z (Qa (Qe Z) Z (Qd (Qw (Q2 (Vg (Ql Z Z E ?_)))))))
     exact H4 (by rw [node_3 (by assumption)];exact kx (by assumption))
    ·refine Qn (Q4 (Yr (Q4 (G3 () ⟨Z,Z,trivial⟩ ⟨E,(by omega),h1,(by rw [node_3 (by assumption)];exact ky (by assumption))⟩))))
   ·refine Qf (Qh [true,true] Z Z (Qa (Y6 Z Z) Z (Qa (Qe Z) Z (Qd (Qs Z (fun hc5=>?_) (fun hc5=>?_))))))
    ·refine Qf (Qh [true,true,false,true,true,true,true,true,true] Z Z (Qa (Qb X2 Z) Z (Qa (Qj Yo Z (h1.one 1 Z)) Z (Qv Tryz.call58 Z (c_within x.a 0 99 _ ) Z (fun _ w7 e5 hv=>?_)))))
     subst hv
     replace E:=E.trans e5;replace h1:=h1.ext e5
     have z7:=e5.size
     refine Qa (Yq Z) Z (Qa (Qc Z) Z (Y7 4 [(0,.agg [.int .i64 x.kind,.int .i64 x.a,.int .i64 x.b,o1].toArray),(1,.pointer (some ⟨b1,0,none⟩)),(2,.bool false),(5,.pointer (some ⟨b1,0,none⟩)),(6,.int .i64 x.kind),(7,.bool (x.kind == 2)),(8,.bool (x.kind == 2)),(18,.bool (x.kind == 3)),(19,.bool (x.kind == 3)),(33,.bool (x.kind == 4)),(34,.bool (x.kind == 4)),(43,.bool ((!(Yw x.a 0 99)) || (x.b != 0)))] (fun w'=>w7 = w') ?_ ?_))
     ·refine Y3 (gd:=39) Z Z (fun hg3=>?_) (fun hg3=>?_)
      ·refine Qg Z Z Z Z (Qg Z Z Z Z (Qg Z Z Z Z (Qa (Qx Z Z) Z (Qp ⟨Z,Z,Z,Z,Z,Z,Z,Z,Z,Z,Z,congrArg (fun b=>some (Value.bool b)) (show true = ((!(Yw x.a 0 99)) || (x.b != 0)) by first | (rw [hg3] <;> rfl) | (simp [hg3];done) | (simp only [Qo] <;> simp)),trivial⟩ Z))))
      ·refine Qm Z Z (Qb Uf Z) Z (Qm Z Z (Qj Yo Z (h1.one 2 Z)) Z (Qm Z Z (Yu Z Z) Z (Qa (Qy Z Z) Z (Qp ⟨Z,Z,Z,Z,Z,Z,Z,Z,Z,Z,Z,congrArg (fun b=>some (Value.bool b)) (show (x.b != 0) = ((!(Yw x.a 0 99)) || (x.b != 0)) by first | (rw [hg3] <;> rfl) | (simp [hg3];done) | (simp only [Qo] <;> simp)),trivial⟩ Z))))
     rintro _ rfl
     refine Qd (Qs Z (fun hc6=>?_) (fun hc6=>?_))
     ·refine Qf (Qh [true] Z Z (Qa (Qe Z) Z (Qd (Qw (Q2 (Vg (Ql Z Z E ?_)))))))
      exact H4 (by rw [node_4 (by assumption)];exact kx (by assumption))
     ·refine Qn (Q4 (Yr (Q4 (G3 () ⟨Z,Z,trivial⟩ ⟨E,(by omega),h1,(by rw [node_4 (by assumption)];exact ky (by assumption))⟩))))
    ·refine Qf (Qf (Qh [true,true] Z Z (Qa (Y6 Z Z) Z (Qa (Qe Z) Z (Qd (Qs Z (fun hc7=>?_) (fun hc7=>?_)))))))
     ·refine Qn (Hq Z hc7 (Qf (Qh [true,true,true,true,true,true,true,true] Z Z (Qa (Qb X2 Z) Z (Qa (Qj Yo Z (h1.one 1 Z)) Z (Qa (Yu Z Z) Z (Qa (Qc Z) Z (Y7 4 [(0,.agg [.int .i64 x.kind,.int .i64 x.a,.int .i64 x.b,o1].toArray),(1,.pointer (some ⟨b1,0,none⟩)),(2,.bool false),(5,.pointer (some ⟨b1,0,none⟩)),(6,.int .i64 x.kind),(7,.bool (x.kind == 2)),(8,.bool (x.kind == 2)),(18,.bool (x.kind == 3)),(19,.bool (x.kind == 3)),(33,.bool (x.kind == 4)),(34,.bool (x.kind == 4)),(44,.bool (x.kind == 1)),(45,.bool (x.kind == 1)),(57,.bool ((x.a != 0) || (x.b != 0)))] (fun w'=>w1 = w') ?_ ?_))))))))
      ·refine Y3 (gd:=53) Z Z (fun hg4=>?_) (fun hg4=>?_)
       ·refine Qg Z Z Z Z (Qg Z Z Z Z (Qg Z Z Z Z (Qa (Qx Z Z) Z (Qp ⟨Z,Z,Z,Z,Z,Z,Z,Z,Z,Z,Z,Z,Z,congrArg (fun b=>some (Value.bool b)) (show true = ((x.a != 0) || (x.b != 0)) by first | (rw [hg4] <;> rfl) | (simp [hg4];done) | (simp only [Qo] <;> simp)),trivial⟩ Z))))
       ·refine Qm Z Z (Qb Uf Z) Z (Qm Z Z (Qj Yo Z (h1.one 2 Z)) Z (Qm Z Z (Yu Z Z) Z (Qa (Qy Z Z) Z (Qp ⟨Z,Z,Z,Z,Z,Z,Z,Z,Z,Z,Z,Z,Z,congrArg (fun b=>some (Value.bool b)) (show (x.b != 0) = ((x.a != 0) || (x.b != 0)) by first | (rw [hg4] <;> rfl) | (simp [hg4];done) | (simp only [Qo] <;> simp)),trivial⟩ Z))))
      rintro _ rfl
      refine Qd (Qs Z (fun hc8=>?_) (fun hc8=>?_))
      ·refine Qf (Qh [true] Z Z (Qa (Qe Z) Z (Qd (Qw (Q2 (Vg (Ql Z Z E ?_)))))))
       exact H4 (by rw [G1 (by assumption) (by assumption) (by assumption)];exact kx0 (by assumption))
      ·refine Qn (Q4 (Yr (Q4 (G3 () ⟨Z,Z,trivial⟩ ⟨E,(by omega),h1,(by rw [G1 (by assumption) (by assumption) (by assumption)];exact ky0 (by assumption) (Gt (by simp at *;omega)))⟩))))
     ·refine Qf (Qh [true,true] Z Z (Qa (Y6 Z Z) Z (Qa (Qe Z) Z (Qd (Qs Z (fun hc9=>?_) (fun hc9=>?_))))))
      ·refine Qn (Hq Z hc9 (Qf (Qh [true,true,true,true,true,true,true,true] Z Z (Qa (Qb X2 Z) Z (Qa (Qj Yo Z (h1.one 1 Z)) Z (Qa (Yu Z Z) Z (Qa (Qc Z) Z (Y7 4 [(0,.agg [.int .i64 x.kind,.int .i64 x.a,.int .i64 x.b,o1].toArray),(1,.pointer (some ⟨b1,0,none⟩)),(2,.bool false),(5,.pointer (some ⟨b1,0,none⟩)),(6,.int .i64 x.kind),(7,.bool (x.kind == 2)),(8,.bool (x.kind == 2)),(18,.bool (x.kind == 3)),(19,.bool (x.kind == 3)),(33,.bool (x.kind == 4)),(34,.bool (x.kind == 4)),(44,.bool (x.kind == 5)),(45,.bool (x.kind == 1)),(46,.bool (x.kind == 5)),(57,.bool ((x.a != 0) || (x.b != 0)))] (fun w'=>w1 = w') ?_ ?_))))))))
       ·refine Y3 (gd:=53) Z Z (fun hg5=>?_) (fun hg5=>?_)
        ·refine Qg Z Z Z Z (Qg Z Z Z Z (Qg Z Z Z Z (Qa (Qx Z Z) Z (Qp ⟨Z,Z,Z,Z,Z,Z,Z,Z,Z,Z,Z,Z,Z,Z,congrArg (fun b=>some (Value.bool b)) (show true = ((x.a != 0) || (x.b != 0)) by first | (rw [hg5] <;> rfl) | (simp [hg5];done) | (simp only [Qo] <;> simp)),trivial⟩ Z))))
        ·refine Qm Z Z (Qb Uf Z) Z (Qm Z Z (Qj Yo Z (h1.one 2 Z)) Z (Qm Z Z (Yu Z Z) Z (Qa (Qy Z Z) Z (Qp ⟨Z,Z,Z,Z,Z,Z,Z,Z,Z,Z,Z,Z,Z,Z,congrArg (fun b=>some (Value.bool b)) (show (x.b != 0) = ((x.a != 0) || (x.b != 0)) by first | (rw [hg5] <;> rfl) | (simp [hg5];done) | (simp only [Qo] <;> simp)),trivial⟩ Z))))
       rintro _ rfl
       refine Qd (Qs Z (fun hc10=>?_) (fun hc10=>?_))
       ·refine Qf (Qh [true] Z Z (Qa (Qe Z) Z (Qd (Qw (Q2 (Vg (Ql Z Z E ?_)))))))
        exact H4 (by rw [G1 (by assumption) (by assumption) (by assumption)];exact kx0 (by assumption))
       ·refine Qn (Q4 (Yr (Q4 (G3 () ⟨Z,Z,trivial⟩ ⟨E,(by omega),h1,(by rw [G1 (by assumption) (by assumption) (by assumption)];exact ky0 (by assumption) (Gt (by simp at *;omega)))⟩))))
      ·refine Qf (Qh [true,true] Z Z (Qa (Y6 Z Z) Z (Qa (Qe Z) Z (Qd (Qs Z (fun hc11=>?_) (fun hc11=>?_))))))
       ·refine Qn (Hq Z hc11 (Qf (Qh [true,true,true,true,true,true,true,true] Z Z (Qa (Qb X2 Z) Z (Qa (Qj Yo Z (h1.one 1 Z)) Z (Qa (Yu Z Z) Z (Qa (Qc Z) Z (Y7 4 [(0,.agg [.int .i64 x.kind,.int .i64 x.a,.int .i64 x.b,o1].toArray),(1,.pointer (some ⟨b1,0,none⟩)),(2,.bool false),(5,.pointer (some ⟨b1,0,none⟩)),(6,.int .i64 x.kind),(7,.bool (x.kind == 2)),(8,.bool (x.kind == 2)),(18,.bool (x.kind == 3)),(19,.bool (x.kind == 3)),(33,.bool (x.kind == 4)),(34,.bool (x.kind == 4)),(44,.bool (x.kind == 6)),(45,.bool (x.kind == 1)),(46,.bool (x.kind == 5)),(47,.bool (x.kind == 6)),(57,.bool ((x.a != 0) || (x.b != 0)))] (fun w'=>w1 = w') ?_ ?_))))))))
        ·refine Y3 (gd:=53) Z Z (fun hg6=>?_) (fun hg6=>?_)
         ·refine Qg Z Z Z Z (Qg Z Z Z Z (Qg Z Z Z Z (Qa (Qx Z Z) Z (Qp ⟨Z,Z,Z,Z,Z,Z,Z,Z,Z,Z,Z,Z,Z,Z,Z,congrArg (fun b=>some (Value.bool b)) (show true = ((x.a != 0) || (x.b != 0)) by first | (rw [hg6] <;> rfl) | (simp [hg6];done) | (simp only [Qo] <;> simp)),trivial⟩ Z))))
         ·refine Qm Z Z (Qb Uf Z) Z (Qm Z Z (Qj Yo Z (h1.one 2 Z)) Z (Qm Z Z (Yu Z Z) Z (Qa (Qy Z Z) Z (Qp ⟨Z,Z,Z,Z,Z,Z,Z,Z,Z,Z,Z,Z,Z,Z,Z,congrArg (fun b=>some (Value.bool b)) (show (x.b != 0) = ((x.a != 0) || (x.b != 0)) by first | (rw [hg6] <;> rfl) | (simp [hg6];done) | (simp only [Qo] <;> simp)),trivial⟩ Z))))
        rintro _ rfl
        refine Qd (Qs Z (fun hc12=>?_) (fun hc12=>?_))
        ·refine Qf (Qh [true] Z Z (Qa (Qe Z) Z (Qd (Qw (Q2 (Vg (Ql Z Z E ?_)))))))
         exact H4 (by rw [G1 (by assumption) (by assumption) (by assumption)];exact kx0 (by assumption))
        ·refine Qn (Q4 (Yr (Q4 (G3 () ⟨Z,Z,trivial⟩ ⟨E,(by omega),h1,(by rw [G1 (by assumption) (by assumption) (by assumption)];exact ky0 (by assumption) (Gt (by simp at *;omega)))⟩))))
       ·refine Qf (Qh [true,true] Z Z (Qa (Y6 Z Z) Z (Qa (Qe Z) Z (Qd (Qs Z (fun hc13=>?_) (fun hc13=>?_))))))
        ·refine Qn (Hq Z hc13 (Qf (Qh [true,true,true,true,true,true,true,true] Z Z (Qa (Qb X2 Z) Z (Qa (Qj Yo Z (h1.one 1 Z)) Z (Qa (Yu Z Z) Z (Qa (Qc Z) Z (Y7 4 [(0,.agg [.int .i64 x.kind,.int .i64 x.a,.int .i64 x.b,o1].toArray),(1,.pointer (some ⟨b1,0,none⟩)),(2,.bool false),(5,.pointer (some ⟨b1,0,none⟩)),(6,.int .i64 x.kind),(7,.bool (x.kind == 2)),(8,.bool (x.kind == 2)),(18,.bool (x.kind == 3)),(19,.bool (x.kind == 3)),(33,.bool (x.kind == 4)),(34,.bool (x.kind == 4)),(44,.bool (x.kind == 7)),(45,.bool (x.kind == 1)),(46,.bool (x.kind == 5)),(47,.bool (x.kind == 6)),(48,.bool (x.kind == 7)),(57,.bool ((x.a != 0) || (x.b != 0)))] (fun w'=>w1 = w') ?_ ?_))))))))
         ·refine Y3 (gd:=53) Z Z (fun hg7=>?_) (fun hg7=>?_)
          ·refine Qg Z Z Z Z (Qg Z Z Z Z (Qg Z Z Z Z (Qa (Qx Z Z) Z (Qp ⟨Z,Z,Z,Z,Z,Z,Z,Z,Z,Z,Z,Z,Z,Z,Z,Z,congrArg (fun b=>some (Value.bool b)) (show true = ((x.a != 0) || (x.b != 0)) by first | (rw [hg7] <;> rfl) | (simp [hg7];done) | (simp only [Qo] <;> simp)),trivial⟩ Z))))
          ·refine Qm Z Z (Qb Uf Z) Z (Qm Z Z (Qj Yo Z (h1.one 2 Z)) Z (Qm Z Z (Yu Z Z) Z (Qa (Qy Z Z) Z (Qp ⟨Z,Z,Z,Z,Z,Z,Z,Z,Z,Z,Z,Z,Z,Z,Z,Z,congrArg (fun b=>some (Value.bool b)) (show (x.b != 0) = ((x.a != 0) || (x.b != 0)) by first | (rw [hg7] <;> rfl) | (simp [hg7];done) | (simp only [Qo] <;> simp)),trivial⟩ Z))))
         rintro _ rfl
         refine Qd (Qs Z (fun hc14=>?_) (fun hc14=>?_))
         ·refine Qf (Qh [true] Z Z (Qa (Qe Z) Z (Qd (Qw (Q2 (Vg (Ql Z Z E ?_)))))))
          exact H4 (by rw [G1 (by assumption) (by assumption) (by assumption)];exact kx0 (by assumption))
         ·refine Qn (Q4 (Yr (Q4 (G3 () ⟨Z,Z,trivial⟩ ⟨E,(by omega),h1,(by rw [G1 (by assumption) (by assumption) (by assumption)];exact ky0 (by assumption) (Gt (by simp at *;omega)))⟩))))
        ·refine Qh [true,true] Z Z (Qa (Y6 Z Z) Z (Qa (Qe Z) Z (Qd (Qs Z (fun hc15=>?_) (fun hc15=>?_)))))
         ·refine Qf (Qh [true,true,true,true,true,true,true,true] Z Z (Qa (Qb X2 Z) Z (Qa (Qj Yo Z (h1.one 1 Z)) Z (Qa (Yu Z Z) Z (Qa (Qc Z) Z (Y7 4 [(0,.agg [.int .i64 x.kind,.int .i64 x.a,.int .i64 x.b,o1].toArray),(1,.pointer (some ⟨b1,0,none⟩)),(2,.bool false),(5,.pointer (some ⟨b1,0,none⟩)),(6,.int .i64 x.kind),(7,.bool (x.kind == 2)),(8,.bool (x.kind == 2)),(18,.bool (x.kind == 3)),(19,.bool (x.kind == 3)),(33,.bool (x.kind == 4)),(34,.bool (x.kind == 4)),(44,.bool (x.kind == 8)),(45,.bool (x.kind == 1)),(46,.bool (x.kind == 5)),(47,.bool (x.kind == 6)),(48,.bool (x.kind == 7)),(49,.bool (x.kind == 8)),(57,.bool ((x.a != 0) || (x.b != 0)))] (fun w'=>w1 = w') ?_ ?_))))))
          ·refine Y3 (gd:=53) Z Z (fun hg8=>?_) (fun hg8=>?_)
           ·refine Qg Z Z Z Z (Qg Z Z Z Z (Qg Z Z Z Z (Qa (Qx Z Z) Z (Qp ⟨Z,Z,Z,Z,Z,Z,Z,Z,Z,Z,Z,Z,Z,Z,Z,Z,Z,congrArg (fun b=>some (Value.bool b)) (show true = ((x.a != 0) || (x.b != 0)) by first | (rw [hg8] <;> rfl) | (simp [hg8];done) | (simp only [Qo] <;> simp)),trivial⟩ Z))))
           ·refine Qm Z Z (Qb Uf Z) Z (Qm Z Z (Qj Yo Z (h1.one 2 Z)) Z (Qm Z Z (Yu Z Z) Z (Qa (Qy Z Z) Z (Qp ⟨Z,Z,Z,Z,Z,Z,Z,Z,Z,Z,Z,Z,Z,Z,Z,Z,Z,congrArg (fun b=>some (Value.bool b)) (show (x.b != 0) = ((x.a != 0) || (x.b != 0)) by first | (rw [hg8] <;> rfl) | (simp [hg8];done) | (simp only [Qo] <;> simp)),trivial⟩ Z))))
          rintro _ rfl
          refine Qd (Qs Z (fun hc16=>?_) (fun hc16=>?_))
          ·refine Qf (Qh [true] Z Z (Qa (Qe Z) Z (Qd (Qw (Q2 (Vg (Ql Z Z E ?_)))))))
           exact H4 (by rw [G1 (by assumption) (by assumption) (by assumption)];exact kx0 (by assumption))
          ·refine Qn (Q4 (Yr (Q4 (G3 () ⟨Z,Z,trivial⟩ ⟨E,(by omega),h1,(by rw [G1 (by assumption) (by assumption) (by assumption)];exact ky0 (by assumption) (Gt (by simp at *;omega)))⟩))))
         ·refine Qf (Qh [true] Z Z (Qa (Qe Z) Z (Qd (Qw (Q2 (Vg (Ql Z Z E ?_)))))))
          exact H4 (by rw [G1 (by assumption) (by assumption) (by assumption),win_not (by simp at *;omega)];rfl)
 ·clear E h1
  rintro _ w14 ⟨E,z2,h1,hkk⟩
  refine Qf (Qf (Xj Xi [(0,true),(1,true),(2,true),(3,true),(4,true),(5,true),(6,true),(7,true),(8,true),(9,true),(10,true),(11,true),(12,true),(13,true),(14,true),(15,true),(16,true),(17,true),(18,true),(19,true),(20,true),(21,true),(22,true),(23,true),(24,true),(25,true),(26,true),(27,true),(28,true),(29,true),(30,true),(31,true)] (by decide +kernel) Z (fun w15 e6=>?_)))
  replace E:=E.trans e6;replace h1:=h1.ext e6
  have z8:=e6.size
  refine Qa (Qb Y8 Z) Z (Qa (Qj Ke Z (h1.one 3 Z)) Z (Qa (Ya Tryz.underlying66 Z (hd1.ext E).len) Z (Qa (V0 Z Z) Z (Qa (Qc Z) Z (Y7 27 [(1,.pointer (some ⟨b1,0,none⟩)),(2,.bool false),(89,.bool (((decide (2 < ((x.outs.length : Nat) : Int))) || ((x.kind == 8) && (decide (0 < ((x.outs.length : Nat) : Int))))) || ((((x.outs.length : Nat) : Int) == 2) && ((List.getD x.outs 0 default) == (List.getD x.outs 1 default)))))] (fun w'=>w15 = w') ?_ ?_)))))
  ·refine Y3 (gd:=62) Z Z (fun hg9=>?_) (fun hg9=>?_)
   ·have hg9n : x.outs.length > 2:=by first | (have h:=of_decide_eq_true hg9;omega) | (have h:=hg9;simp at h;omega)
    refine Qg Z Z Z Z (Qg Z Z Z Z (Qg Z Z Z Z (Qg Z Z Z Z (Q9 Z Z Z (Q9 Z Z Z (Q9 Z Z Z (Q9 Z Z Z (Qg Z Z Z Z (Qa (Qx Z Z) Z (Qa (Qc Z) Z (Qg Z Z Z Z (Qg Z Z Z Z (Qg Z Z Z Z (Qg Z Z Z Z (Qg Z Z Z Z (Q9 Z Z Z (Q9 Z Z Z (Q9 Z Z Z (Q9 Z Z Z (Q9 Z Z Z (Q9 Z Z Z (Q9 Z Z Z (Q9 Z Z Z (Q9 Z Z Z (Qg Z Z Z Z (Qa (Qx Z Z) Z (Qp ⟨Z,Z,congrArg (fun b=>some (Value.bool b)) (show true = (((decide (2 < ((x.outs.length : Nat) : Int))) || ((x.kind == 8) && (decide (0 < ((x.outs.length : Nat) : Int))))) || ((((x.outs.length : Nat) : Int) == 2) && ((List.getD x.outs 0 default) == (List.getD x.outs 1 default)))) by first | (rw [hg9] <;> rfl) | (simp [hg9];done) | (simp only [Qo] <;> simp)),trivial⟩ Z)))))))))))))))))))))))))))
   ·have hg9n : ¬ x.outs.length > 2:=by first | (have h:=of_decide_eq_false hg9;omega) | (have h:=hg9;simp at h;omega)
    refine Qm Z Z (Qb Xk Z) Z (Qm Z Z (Qj Yo Z (h1.one 0 Z)) Z (Qm Z Z (Y6 Z Z) Z (Qm Z Z (Qc Z) Z ?_)))
    refine Y3 (gd:=66) Z Z (fun hg10=>?_) (fun hg10=>?_)
    ·refine Qm Z Z (Qb Y8 Z) Z (Qm Z Z (Qj Ke Z (h1.one 3 Z)) Z (Qm Z Z (Ya Tryz.underlying66 Z (hd1.ext E).len) Z (Qm Z Z (V0 Z Z) Z (Qm Z Z (Qx Z Z) Z (Qa (Qy Z Z) Z (Qa (Qc Z) Z ?_))))))
     refine Y3 (gd:=73) Z Z (fun hg11=>?_) (fun hg11=>?_)
     ·have hg11n : x.outs.length > 0:=by first | (have h:=of_decide_eq_true hg11;omega) | (have h:=hg11;simp at h;omega)
      refine Qg Z Z Z Z (Qg Z Z Z Z (Qg Z Z Z Z (Qg Z Z Z Z (Qg Z Z Z Z (Q9 Z Z Z (Q9 Z Z Z (Q9 Z Z Z (Q9 Z Z Z (Q9 Z Z Z (Q9 Z Z Z (Q9 Z Z Z (Q9 Z Z Z (Q9 Z Z Z (Qg Z Z Z Z (Qa (Qx Z Z) Z (Qp ⟨Z,Z,congrArg (fun b=>some (Value.bool b)) (show true = (((decide (2 < ((x.outs.length : Nat) : Int))) || ((x.kind == 8) && (decide (0 < ((x.outs.length : Nat) : Int))))) || ((((x.outs.length : Nat) : Int) == 2) && ((List.getD x.outs 0 default) == (List.getD x.outs 1 default)))) by first | (rw [hg9,hg10,hg11] <;> rfl) | (simp [hg9,hg10,hg11];done) | (simp only [Qo] <;> simp)),trivial⟩ Z))))))))))))))))
     ·have hg11n : ¬ x.outs.length > 0:=by first | (have h:=of_decide_eq_false hg11;omega) | (have h:=hg11;simp at h;omega)
      refine Qm Z Z (Qb Y8 Z) Z (Qm Z Z (Qj Ke Z (h1.one 3 Z)) Z (Qm Z Z (Ya Tryz.underlying66 Z (hd1.ext E).len) Z (Qm Z Z (Y6 Z Z) Z (Qm Z Z (Qc Z) Z ?_))))
      refine Y3 (gd:=78) Z Z (fun hg12=>?_) (fun hg12=>?_)
      ·have hg12n : x.outs.length = 2:=by first | (have h:=of_decide_eq_true hg12;omega) | (have h:=hg12;simp at h;omega)
       refine Qm Z Z (Qb Y8 Z) Z (Qm Z Z (Qj Ke Z (h1.one 3 Z)) Z (Qm Z Z (Q1 (i:=0) Uv Z Z (hd1.rd.ext E) (by first | assumption | omega | (simp only [List.length_set];first | assumption | omega))) Z (Qm Z Z (Qj Yo Z ((RdS.getD (hd1.rd.ext E) (i:=0) (by first | assumption | omega | (simp only [List.length_set];first | assumption | omega))).one 0 Z)) Z (Qm Z Z (Qb Y8 Z) Z (Qm Z Z (Qj Ke Z (h1.one 3 Z)) Z (Qm Z Z (Q1 (i:=1) Uv Z Z (hd1.rd.ext E) (by first | assumption | omega | (simp only [List.length_set];first | assumption | omega))) Z (Qm Z Z (Qj Yo Z ((RdS.getD (hd1.rd.ext E) (i:=1) (by first | assumption | omega | (simp only [List.length_set];first | assumption | omega))).one 0 Z)) Z (Qm Z Z (Y6 Z Z) Z (Qm Z Z (Qx Z Z) Z (Qa (Qy Z Z) Z (Qp ⟨Z,Z,congrArg (fun b=>some (Value.bool b)) (show ((List.getD x.outs 0 default) == (List.getD x.outs 1 default)) = (((decide (2 < ((x.outs.length : Nat) : Int))) || ((x.kind == 8) && (decide (0 < ((x.outs.length : Nat) : Int))))) || ((((x.outs.length : Nat) : Int) == 2) && ((List.getD x.outs 0 default) == (List.getD x.outs 1 default)))) by first | (rw [hg9,hg10,hg11,hg12] <;> rfl) | (simp [hg9,hg10,hg11,hg12];done) | (simp only [Qo] <;> simp)),trivial⟩ Z)))))))))))
      ·have hg12n : ¬ x.outs.length = 2:=by first | (have h:=of_decide_eq_false hg12;omega) | (have h:=hg12;simp at h;omega)
       refine Qg Z Z Z Z (Qg Z Z Z Z (Qg Z Z Z Z (Qg Z Z Z Z (Qg Z Z Z Z (Qg Z Z Z Z (Qg Z Z Z Z (Qg Z Z Z Z (Qg Z Z Z Z (Qm Z Z (Qy Z Z) Z (Qa (Qy Z Z) Z (Qp ⟨Z,Z,congrArg (fun b=>some (Value.bool b)) (show false = (((decide (2 < ((x.outs.length : Nat) : Int))) || ((x.kind == 8) && (decide (0 < ((x.outs.length : Nat) : Int))))) || ((((x.outs.length : Nat) : Int) == 2) && ((List.getD x.outs 0 default) == (List.getD x.outs 1 default)))) by first | (rw [hg9,hg10,hg11,hg12] <;> rfl) | (simp [hg9,hg10,hg11,hg12];done) | (simp only [Qo] <;> simp)),trivial⟩ Z)))))))))))
    ·refine Qg Z Z Z Z (Qg Z Z Z Z (Qg Z Z Z Z (Qg Z Z Z Z (Qm Z Z (Qy Z Z) Z (Qa (Qy Z Z) Z (Qa (Qc Z) Z (Qm Z Z (Qb Y8 Z) Z (Qm Z Z (Qj Ke Z (h1.one 3 Z)) Z (Qm Z Z (Ya Tryz.underlying66 Z (hd1.ext E).len) Z (Qm Z Z (Y6 Z Z) Z (Qm Z Z (Qc Z) Z ?_)))))))))))
     refine Y3 (gd:=78) Z Z (fun hg13=>?_) (fun hg13=>?_)
     ·have hg13n : x.outs.length = 2:=by first | (have h:=of_decide_eq_true hg13;omega) | (have h:=hg13;simp at h;omega)
      refine Qm Z Z (Qb Y8 Z) Z (Qm Z Z (Qj Ke Z (h1.one 3 Z)) Z (Qm Z Z (Q1 (i:=0) Uv Z Z (hd1.rd.ext E) (by first | assumption | omega | (simp only [List.length_set];first | assumption | omega))) Z (Qm Z Z (Qj Yo Z ((RdS.getD (hd1.rd.ext E) (i:=0) (by first | assumption | omega | (simp only [List.length_set];first | assumption | omega))).one 0 Z)) Z (Qm Z Z (Qb Y8 Z) Z (Qm Z Z (Qj Ke Z (h1.one 3 Z)) Z (Qm Z Z (Q1 (i:=1) Uv Z Z (hd1.rd.ext E) (by first | assumption | omega | (simp only [List.length_set];first | assumption | omega))) Z (Qm Z Z (Qj Yo Z ((RdS.getD (hd1.rd.ext E) (i:=1) (by first | assumption | omega | (simp only [List.length_set];first | assumption | omega))).one 0 Z)) Z (Qm Z Z (Y6 Z Z) Z (Qm Z Z (Qx Z Z) Z (Qa (Qy Z Z) Z (Qp ⟨Z,Z,congrArg (fun b=>some (Value.bool b)) (show ((List.getD x.outs 0 default) == (List.getD x.outs 1 default)) = (((decide (2 < ((x.outs.length : Nat) : Int))) || ((x.kind == 8) && (decide (0 < ((x.outs.length : Nat) : Int))))) || ((((x.outs.length : Nat) : Int) == 2) && ((List.getD x.outs 0 default) == (List.getD x.outs 1 default)))) by first | (rw [hg9,hg10,hg13] <;> rfl) | (simp [hg9,hg10,hg13];done) | (simp only [Qo] <;> simp)),trivial⟩ Z)))))))))))
     ·have hg13n : ¬ x.outs.length = 2:=by first | (have h:=of_decide_eq_false hg13;omega) | (have h:=hg13;simp at h;omega)
      refine Qg Z Z Z Z (Qg Z Z Z Z (Qg Z Z Z Z (Qg Z Z Z Z (Qg Z Z Z Z (Qg Z Z Z Z (Qg Z Z Z Z (Qg Z Z Z Z (Qg Z Z Z Z (Qm Z Z (Qy Z Z) Z (Qa (Qy Z Z) Z (Qp ⟨Z,Z,congrArg (fun b=>some (Value.bool b)) (show false = (((decide (2 < ((x.outs.length : Nat) : Int))) || ((x.kind == 8) && (decide (0 < ((x.outs.length : Nat) : Int))))) || ((((x.outs.length : Nat) : Int) == 2) && ((List.getD x.outs 0 default) == (List.getD x.outs 1 default)))) by first | (rw [hg9,hg10,hg13] <;> rfl) | (simp [hg9,hg10,hg13];done) | (simp only [Qo] <;> simp)),trivial⟩ Z)))))))))))
  rintro _ rfl
  refine Qd (Qs Z (fun hc17=>?_) (fun hc17=>?_))
  ·refine Qf (Qh [true] Z Z (Qa (Qe Z) Z (Qd (Qw (Ql Z Z E ?_)))))
   exact node_t (by assumption)
  ·refine Qn (Qf (Qf (Qh [true,true,true,true] Z Z (Qa (Qb Y8 Z) Z (Qa (Qj Ke Z (h1.one 3 Z)) Z (Qa (Ya Tryz.underlying66 Z (hd1.ext E).len) Z (Qa (Qc Z) Z (Qd (Q0 (Ym (fun (k : Nat)=>[(2,.bool false),(91,o1),(92,.int .i64 ((x.outs.length : Nat) : Int)),(93,.int .i64 ((k : Nat) : Int))]) (fun (k : Nat) w'=>Ext w w' ∧ w15.heap.size ≤ w'.heap.size ∧ Blk w' b1 ([.int .i64 x.kind,.int .i64 x.a,.int .i64 x.b,o1]) ∧ k ≤ x.outs.length ∧ (x.outs.take k).all (Yw · 0 7) = true) (fun (k : Nat)=>x.outs.length - k) 0 ⟨Z,Z,Z,Z,trivial⟩ ⟨E,Nat.le_refl _,h1,Nat.zero_le _,Z⟩ ?_))))))))))
   clear E h1
   rintro k w17 ⟨E,z9,h1,hk,hI⟩
   refine Qf (Qh [true] Z Z (Qa (Yf Z Z) Z (Qd (Qf (Qs Z (fun hc18=>?_) (fun hc18=>?_))))))
   ·have hc18n : k < x.outs.length:=by first | (have h:=of_decide_eq_true hc18;omega) | (have h:=hc18;simp at h;omega)
    refine Qn (Qf (Q0 (Qf (Qh [true,true,true] Z Z ?_))))
    have hi1 : k < x.outs.length:=(by first | assumption | omega | (simp only [List.length_set];first | assumption | omega))
    refine Qa (Q1 (i:=k) Uv Z Z (hd1.rd.ext E) hi1) Z (Qa (Qj Yo Z (((hd1.rd.ext E).get hi1).one 0 Z)) Z (Qa (Qe Z) Z (Qd (Qf (Qh [true,false,true] Z Z (Qa (Qc Z) Z (Qv Tryz.call58 Z (c_within (x.outs[k]'hi1) 0 7 _ ) Z (fun _ w18 e7 hv=>?_))))))))
    subst hv
    replace E:=E.trans e7;replace h1:=h1.ext e7
    have z10:=e7.size
    refine Qa (Yq Z) Z (Qd (Qs Z (fun hc19=>?_) (fun hc19=>?_)))
    ·refine Qf (Qh [true] Z Z (Qa (Qe Z) Z (Qd (Qw (Q2 (Y0 (Q2 (Ql Z Z E ?_))))))))
     exact node_l (by assumption)
    ·refine Qn (Q4 (Yr (Qh [true,true] Z Z (Qa (Q8 Z Z (Yt hc18n (hd1.ext E).1.1)) Z (Qa (Qc Z) Z (Qd (Q4 (Yc (k + 1) (by omega) ⟨Z,Z,Z,Z,trivial⟩ ⟨E,(by omega),h1,(by omega),Kf hI (by assumption) (by simpa using (show (!(Yw x.outs[k] 0 7)) = false by assumption))⟩))))))))
   ·have hc18n : ¬ k < x.outs.length:=by first | (have h:=of_decide_eq_false hc18;omega) | (have h:=hc18;simp at h;omega)
    refine Yn (Q5 (Q3 ?_))
    refine Qf (Qh [true] Z Z (Qa (Qe Z) Z (Qd (Qw (Ql Z Z E ?_)))))
    exact node_y hkk (by assumption) hI (by omega)

set_option maxHeartbeats 4000000 in
set_option maxRecDepth 20000 in
theorem s_NodeOk (cx : List Value) (x : Node) (w : World) (hx : Dat.R w 0 w.heap.size cx x) : Ct Tryz.prog 125 [.agg cx.toArray] w (fun v _=>v = .bool (Xb x)):=by
 refine Yh Tryz.func125 Z Tryz.ntmps125 Z ?_
 obtain ⟨o1,rfl,hd1⟩:=Node.op hx
 refine Q7 [(0,.agg [.int .i64 x.kind,.int .i64 x.a,.int .i64 x.b,o1].toArray)] ⟨Z,trivial⟩ ?_
 have E : Ext w w:=Ext.refl w
 refine Qf (Qh [false,true] Z Z (Y1 Z Z (fun b1 w1 e1 s1 h1=>?_)))
 have g_b1 : w.heap.size ≤ b1:=by have:=E.size;omega
 have y_b1:=h1.lt
 replace E:=E.trans e1
 have z1:=e1.size
 refine Qa (Qe Z) Z (Qd (Qf (Qh [true,true,true,true] Z Z (Qa (Qb X2 Z) Z (Qa (Qj Yo Z (h1.one 1 Z)) Z (Qa (Y6 Z Z) Z (Qa (Qe Z) Z (Qd (Qf (Qh [true,true,true,true] Z Z (Qa (Qb Uf Z) Z (Qa (Qj Yo Z (h1.one 2 Z)) Z (Qa (Y6 Z Z) Z (Qa (Qe Z) Z (Qd (Qf (Qf (Qh [true,true] Z Z (Qa (Qb Xk Z) Z (Qa (Qj Yo Z (h1.one 0 Z)) Z (Qd (S_cutG (fun (xq : Bool × Bool)=>let ⟨p0,q0⟩:=xq;[(1,.pointer (some ⟨b1,0,none⟩)),(2,.bool false),(3,.bool p0),(4,.bool q0)]) (fun (xq : Bool × Bool) w'=>let ⟨p0,q0⟩:=xq;Ext w w' ∧ w1.heap.size ≤ w'.heap.size ∧ Blk w' b1 ([.int .i64 x.kind,.int .i64 x.a,.int .i64 x.b,o1]) ∧ U6 x = (Yw x.kind 1 8 && p0 && q0)) ?_ ?_))))))))))))))))))))))
 ·refine Q0 (Qf (Qh [true,true] Z Z (Qa (Y6 Z Z) Z (Qa (Qe Z) Z (Qd (Qs Z (fun hc1=>?_) (fun hc1=>?_)))))))
  ·refine Qh [true,true,false,true] Z Z (Qa (Qb X2 Z) Z (Qa (Qj Yo Z (h1.one 1 Z)) Z (Qv Tryz.call93 Z (s_l01In x.a 0 999 _ ) Z (fun _ w2 e2 hv=>?_))))
   subst hv
   replace E:=E.trans e2;replace h1:=h1.ext e2
   have z3:=e2.size
   refine Qa (Qe Z) Z (Qd (Q4 (Yr (Q4 (G3 (Yw x.a 0 999,x.b == 0) ⟨Z,Z,Z,Z,trivial⟩ ⟨E,(by omega),h1,(by rw [node_2 (by assumption),Gt (n:=x.kind) (by have:=eq_of_beq (show (x.kind == 2) = true by assumption);omega),Bool.true_and])⟩)))))
  ·refine Qf (Qh [true,true] Z Z (Qa (Y6 Z Z) Z (Qa (Qe Z) Z (Qd (Qs Z (fun hc2=>?_) (fun hc2=>?_))))))
   ·refine Qf (Qh [true,true,false,true] Z Z (Qa (Qb X2 Z) Z (Qa (Qj Yo Z (h1.one 1 Z)) Z (Qv Tryz.call93 Z (s_l01In x.a 1 10 _ ) Z (fun _ w3 e3 hv=>?_)))))
    subst hv
    replace E:=E.trans e3;replace h1:=h1.ext e3
    have z4:=e3.size
    refine Qa (Qe Z) Z (Qd (Qh [true,true,true,true,true,false,true] Z Z (Qa (Qb Uf Z) Z (Qa (Qj Yo Z (h1.one 2 Z)) Z (Qa (Qb X2 Z) Z (Qa (Qj Yo Z (h1.one 1 Z)) Z (Qa (Uu Z Z Z) Z (Qv Tryz.call93 Z (s_l01In x.b 0 (IntKind.i64.wrap (x.a - 1)) _ ) Z (fun _ w4 e4 hv=>?_)))))))))
    subst hv
    replace E:=E.trans e4;replace h1:=h1.ext e4
    have z5:=e4.size
    refine Qa (Qe Z) Z (Qd (Q4 (Yr (Q4 (G3 (Yw x.a 1 10,Yw x.b 0 (IntKind.i64.wrap (x.a - 1))) ⟨Z,Z,Z,Z,trivial⟩ ⟨E,(by omega),h1,(by rw [node_3 (by assumption),Gt (n:=x.kind) (by have:=eq_of_beq (show (x.kind == 3) = true by assumption);omega),Bool.true_and])⟩)))))
   ·refine Qf (Qh [true,true] Z Z (Qa (Y6 Z Z) Z (Qa (Qe Z) Z (Qd (Qs Z (fun hc3=>?_) (fun hc3=>?_))))))
    ·refine Qh [true,true,false,true] Z Z (Qa (Qb X2 Z) Z (Qa (Qj Yo Z (h1.one 1 Z)) Z (Qv Tryz.call93 Z (s_l01In x.a 0 99 _ ) Z (fun _ w5 e5 hv=>?_))))
     subst hv
     replace E:=E.trans e5;replace h1:=h1.ext e5
     have z6:=e5.size
     refine Qa (Qe Z) Z (Qd (Q4 (Yr (Q4 (G3 (Yw x.a 0 99,x.b == 0) ⟨Z,Z,Z,Z,trivial⟩ ⟨E,(by omega),h1,(by rw [node_4 (by assumption),Gt (n:=x.kind) (by have:=eq_of_beq (show (x.kind == 4) = true by assumption);omega),Bool.true_and])⟩)))))
    ·refine Qn (Q4 (Yr (Q4 (G3 (x.a == 0,x.b == 0) ⟨Z,Z,Z,Z,trivial⟩ ⟨E,(by omega),h1,(G1 (by assumption) (by assumption) (by assumption))⟩))))
 ·clear E h1
  rintro ⟨p0,q0⟩ w6 ⟨E,z2,h1,hpq⟩
  refine Q7 [(1,.pointer (some ⟨b1,0,none⟩)),(2,.bool false),(3,.bool p0),(4,.bool q0)] ⟨Z,Z,Z,Z,trivial⟩ ?_
  refine Qf (Qf (Qh [true,true,false,true,true,true,true,true,true,true,true,true,true,true,true,true,true,true,true,true,true,true,true,true,true,true,true,true,true] Z Z (Qa (Qb Xk Z) Z (Qa (Qj Yo Z (h1.one 0 Z)) Z (Qv Tryz.call93 Z (s_l01In x.kind 1 8 _ ) Z (fun _ w7 e6 hv=>?_))))))
  subst hv
  replace E:=E.trans e6;replace h1:=h1.ext e6
  have z7:=e6.size
  refine Qa (Yq Z) Z (Qa (Qc Z) Z (Y7 24 [(1,.pointer (some ⟨b1,0,none⟩)),(2,.bool false),(3,.bool p0),(4,.bool q0),(63,.bool (((((!(Yw x.kind 1 8)) || (!p0)) || (!q0)) || (decide (2 < ((x.outs.length : Nat) : Int)))) || ((x.kind == 8) && (decide (0 < ((x.outs.length : Nat) : Int))))))] (fun w'=>w7 = w') ?_ ?_))
  ·refine Y3 (gd:=39) Z Z (fun hg1=>?_) (fun hg1=>?_)
   ·refine Qg Z Z Z Z (Qg Z Z Z Z (Qa (Qx Z Z) Z (Qa (Qc Z) Z (Qg Z Z Z Z (Qg Z Z Z Z (Qa (Qx Z Z) Z (Qa (Qc Z) Z (Qg Z Z Z Z (Qg Z Z Z Z (Qg Z Z Z Z (Qg Z Z Z Z (Qa (Qx Z Z) Z (Qa (Qc Z) Z (Qg Z Z Z Z (Qg Z Z Z Z (Qg Z Z Z Z (Qg Z Z Z Z (Q9 Z Z Z (Q9 Z Z Z (Q9 Z Z Z (Q9 Z Z Z (Qg Z Z Z Z (Qa (Qx Z Z) Z (Qp ⟨Z,Z,Z,Z,congrArg (fun b=>some (Value.bool b)) (show true = (((((!(Yw x.kind 1 8)) || (!p0)) || (!q0)) || (decide (2 < ((x.outs.length : Nat) : Int)))) || ((x.kind == 8) && (decide (0 < ((x.outs.length : Nat) : Int))))) by first | (rw [hg1] <;> rfl) | (simp [hg1];done) | (simp only [Qo] <;> simp)),trivial⟩ Z))))))))))))))))))))))))
   ·refine Qm Z Z (Qc Z) Z (Qm Z Z (Yq Z) Z (Qa (Qy Z Z) Z (Qa (Qc Z) Z ?_)))
    refine Y3 (gd:=43) Z Z (fun hg2=>?_) (fun hg2=>?_)
    ·refine Qg Z Z Z Z (Qg Z Z Z Z (Qa (Qx Z Z) Z (Qa (Qc Z) Z (Qg Z Z Z Z (Qg Z Z Z Z (Qg Z Z Z Z (Qg Z Z Z Z (Qa (Qx Z Z) Z (Qa (Qc Z) Z (Qg Z Z Z Z (Qg Z Z Z Z (Qg Z Z Z Z (Qg Z Z Z Z (Q9 Z Z Z (Q9 Z Z Z (Q9 Z Z Z (Q9 Z Z Z (Qg Z Z Z Z (Qa (Qx Z Z) Z (Qp ⟨Z,Z,Z,Z,congrArg (fun b=>some (Value.bool b)) (show true = (((((!(Yw x.kind 1 8)) || (!p0)) || (!q0)) || (decide (2 < ((x.outs.length : Nat) : Int)))) || ((x.kind == 8) && (decide (0 < ((x.outs.length : Nat) : Int))))) by first | (rw [hg1,hg2] <;> rfl) | (simp [hg1,hg2];done) | (simp only [Qo] <;> simp)),trivial⟩ Z))))))))))))))))))))
    ·refine Qm Z Z (Qc Z) Z (Qm Z Z (Yq Z) Z (Qa (Qy Z Z) Z (Qa (Qc Z) Z ?_)))
     refine Y3 (gd:=47) Z Z (fun hg3=>?_) (fun hg3=>?_)
     ·refine Qg Z Z Z Z (Qg Z Z Z Z (Qg Z Z Z Z (Qg Z Z Z Z (Qa (Qx Z Z) Z (Qa (Qc Z) Z (Qg Z Z Z Z (Qg Z Z Z Z (Qg Z Z Z Z (Qg Z Z Z Z (Q9 Z Z Z (Q9 Z Z Z (Q9 Z Z Z (Q9 Z Z Z (Qg Z Z Z Z (Qa (Qx Z Z) Z (Qp ⟨Z,Z,Z,Z,congrArg (fun b=>some (Value.bool b)) (show true = (((((!(Yw x.kind 1 8)) || (!p0)) || (!q0)) || (decide (2 < ((x.outs.length : Nat) : Int)))) || ((x.kind == 8) && (decide (0 < ((x.outs.length : Nat) : Int))))) by first | (rw [hg1,hg2,hg3] <;> rfl) | (simp [hg1,hg2,hg3];done) | (simp only [Qo] <;> simp)),trivial⟩ Z))))))))))))))))
     ·refine Qm Z Z (Qb Y8 Z) Z (Qm Z Z (Qj Ke Z (h1.one 3 Z)) Z (Qm Z Z (Ya Tryz.underlying66 Z (hd1.ext E).len) Z (Qm Z Z (V0 Z Z) Z (Qa (Qy Z Z) Z (Qa (Qc Z) Z ?_)))))
      refine Y3 (gd:=53) Z Z (fun hg4=>?_) (fun hg4=>?_)
      ·have hg4n : x.outs.length > 2:=by first | (have h:=of_decide_eq_true hg4;omega) | (have h:=hg4;simp at h;omega)
       refine Qg Z Z Z Z (Qg Z Z Z Z (Qg Z Z Z Z (Qg Z Z Z Z (Q9 Z Z Z (Q9 Z Z Z (Q9 Z Z Z (Q9 Z Z Z (Qg Z Z Z Z (Qa (Qx Z Z) Z (Qp ⟨Z,Z,Z,Z,congrArg (fun b=>some (Value.bool b)) (show true = (((((!(Yw x.kind 1 8)) || (!p0)) || (!q0)) || (decide (2 < ((x.outs.length : Nat) : Int)))) || ((x.kind == 8) && (decide (0 < ((x.outs.length : Nat) : Int))))) by first | (rw [hg1,hg2,hg3,hg4] <;> rfl) | (simp [hg1,hg2,hg3,hg4];done) | (simp only [Qo] <;> simp)),trivial⟩ Z))))))))))
      ·have hg4n : ¬ x.outs.length > 2:=by first | (have h:=of_decide_eq_false hg4;omega) | (have h:=hg4;simp at h;omega)
       refine Qm Z Z (Qb Xk Z) Z (Qm Z Z (Qj Yo Z (h1.one 0 Z)) Z (Qm Z Z (Y6 Z Z) Z (Qm Z Z (Qc Z) Z ?_)))
       refine Y3 (gd:=57) Z Z (fun hg5=>?_) (fun hg5=>?_)
       ·refine Qm Z Z (Qb Y8 Z) Z (Qm Z Z (Qj Ke Z (h1.one 3 Z)) Z (Qm Z Z (Ya Tryz.underlying66 Z (hd1.ext E).len) Z (Qm Z Z (V0 Z Z) Z (Qm Z Z (Qx Z Z) Z (Qa (Qy Z Z) Z (Qp ⟨Z,Z,Z,Z,congrArg (fun b=>some (Value.bool b)) (show (decide (0 < ((x.outs.length : Nat) : Int))) = (((((!(Yw x.kind 1 8)) || (!p0)) || (!q0)) || (decide (2 < ((x.outs.length : Nat) : Int)))) || ((x.kind == 8) && (decide (0 < ((x.outs.length : Nat) : Int))))) by first | (rw [hg1,hg2,hg3,hg4,hg5] <;> rfl) | (simp [hg1,hg2,hg3,hg4,hg5];done) | (simp only [Qo] <;> simp)),trivial⟩ Z))))))
       ·refine Qg Z Z Z Z (Qg Z Z Z Z (Qg Z Z Z Z (Qg Z Z Z Z (Qm Z Z (Qy Z Z) Z (Qa (Qy Z Z) Z (Qp ⟨Z,Z,Z,Z,congrArg (fun b=>some (Value.bool b)) (show false = (((((!(Yw x.kind 1 8)) || (!p0)) || (!q0)) || (decide (2 < ((x.outs.length : Nat) : Int)))) || ((x.kind == 8) && (decide (0 < ((x.outs.length : Nat) : Int))))) by first | (rw [hg1,hg2,hg3,hg4,hg5] <;> rfl) | (simp [hg1,hg2,hg3,hg4,hg5];done) | (simp only [Qo] <;> simp)),trivial⟩ Z))))))
  rintro _ rfl
  refine Qd (Qs Z (fun hc4=>?_) (fun hc4=>?_))
  ·refine Qf (Qh [true] Z Z (Qa (Qe Z) Z (Qd (Qw (Ql Z Z E ?_)))))
   exact node_s hpq (by assumption)
  ·refine Qn (Qf (Qf (Qh [true] Z Z (Qa (Qe Z) Z (Qd (Q0 (Ym (fun (k : Nat)=>[(1,.pointer (some ⟨b1,0,none⟩)),(2,.bool false),(5,.int .i64 ((k : Nat) : Int))]) (fun (k : Nat) w'=>Ext w w' ∧ w7.heap.size ≤ w'.heap.size ∧ Blk w' b1 ([.int .i64 x.kind,.int .i64 x.a,.int .i64 x.b,o1]) ∧ k ≤ x.outs.length ∧ (x.outs.take k).all (Yw · 0 7) = true ∧ (1 < k → ((List.getD x.outs 0 default) == (List.getD x.outs 1 default)) = false)) (fun (k : Nat)=>x.outs.length - k) 0 ⟨Z,Z,Z,trivial⟩ ⟨E,Nat.le_refl _,h1,Nat.zero_le _,Z,(by omega)⟩ ?_)))))))
   clear E h1
   rintro k w9 ⟨E,z8,h1,hk,hI,hJ⟩
   refine Qf (Qf (Qh [true,true,true,true,true] Z Z (Qa (Qc Z) Z (Qa (Qb Y8 Z) Z (Qa (Qj Ke Z (h1.one 3 Z)) Z (Qa (Ya Tryz.underlying66 Z (hd1.ext E).len) Z (Qa (Yf Z Z) Z (Qd (Qs Z (fun hc5=>?_) (fun hc5=>?_))))))))))
   ·have hc5n : k < x.outs.length:=by first | (have h:=of_decide_eq_true hc5;omega) | (have h:=hc5;simp at h;omega)
    refine Qn (Qf (Q0 (Qf (Xj Xi [(0,true),(1,true),(2,true),(3,true),(4,true),(5,false),(6,true),(7,true),(8,true),(9,true),(10,true),(11,true),(12,true),(13,true),(14,true),(15,true),(16,true),(17,true),(18,true),(19,true),(20,true),(21,true)] (by decide +kernel) Z (fun w10 e7=>?_)))))
    replace E:=E.trans e7;replace h1:=h1.ext e7
    have z9:=e7.size
    refine Qa (Qb Y8 Z) Z (Qa (Qj Ke Z (h1.one 3 Z)) Z (Qa (Qc Z) Z ?_))
    have hi1 : k < x.outs.length:=(by first | assumption | omega | (simp only [List.length_set];first | assumption | omega))
    refine Qa (Q1 (i:=k) Uv Z Z (hd1.rd.ext E) hi1) Z (Qa (Qj Yo Z (((hd1.rd.ext E).get hi1).one 0 Z)) Z (Qv Tryz.call93 Z (s_l01In (x.outs[k]'hi1) 0 7 _ ) Z (fun _ w11 e8 hv=>?_)))
    subst hv
    replace E:=E.trans e8;replace h1:=h1.ext e8
    have z10:=e8.size
    refine Qa (Yq Z) Z (Qa (Qc Z) Z (Y7 14 [(1,.pointer (some ⟨b1,0,none⟩)),(2,.bool false),(5,.int .i64 ((k : Nat) : Int)),(64,.int .i64 ((k : Nat) : Int)),(65,.pointer (some ⟨b1,3,none⟩)),(66,o1),(67,.int .i64 ((x.outs.length : Nat) : Int)),(68,.bool (decide (((k : Nat) : Int) < ((x.outs.length : Nat) : Int)))),(92,.bool ((!(Yw (x.outs[k]'hi1) 0 7)) || ((decide (0 < ((k : Nat) : Int))) && ((List.getD x.outs 0 default) == (List.getD x.outs 1 default)))))] (fun w'=>w11 = w') ?_ ?_))
    ·refine Y3 (gd:=78) Z Z (fun hg6=>?_) (fun hg6=>?_)
     ·refine Qg Z Z Z Z (Qg Z Z Z Z (Qg Z Z Z Z (Q9 Z Z Z (Q9 Z Z Z (Q9 Z Z Z (Q9 Z Z Z (Q9 Z Z Z (Q9 Z Z Z (Q9 Z Z Z (Q9 Z Z Z (Q9 Z Z Z (Qg Z Z Z Z (Qa (Qx Z Z) Z (Qp ⟨Z,Z,Z,Z,Z,Z,Z,Z,congrArg (fun b=>some (Value.bool b)) (show true = ((!(Yw (x.outs[k]'hi1) 0 7)) || ((decide (0 < ((k : Nat) : Int))) && ((List.getD x.outs 0 default) == (List.getD x.outs 1 default)))) by first | (rw [hg6] <;> rfl) | (simp [hg6];done) | (simp only [Qo] <;> simp)),trivial⟩ Z))))))))))))))
     ·refine Qm Z Z (Qc Z) Z (Qm Z Z (V0 Z Z) Z (Qm Z Z (Qc Z) Z ?_))
      refine Y3 (gd:=81) Z Z (fun hg7=>?_) (fun hg7=>?_)
      ·have hg7n : k > 0:=by first | (have h:=of_decide_eq_true hg7;omega) | (have h:=hg7;simp at h;omega)
       refine Qm Z Z (Qb Y8 Z) Z (Qm Z Z (Qj Ke Z (h1.one 3 Z)) Z (Qm Z Z (Q1 (i:=0) Uv Z Z (hd1.rd.ext E) (by first | assumption | omega | (simp only [List.length_set];first | assumption | omega))) Z (Qm Z Z (Qj Yo Z ((RdS.getD (hd1.rd.ext E) (i:=0) (by first | assumption | omega | (simp only [List.length_set];first | assumption | omega))).one 0 Z)) Z (Qm Z Z (Qb Y8 Z) Z (Qm Z Z (Qj Ke Z (h1.one 3 Z)) Z (Qm Z Z (Q1 (i:=1) Uv Z Z (hd1.rd.ext E) (by first | assumption | omega | (simp only [List.length_set];first | assumption | omega))) Z (Qm Z Z (Qj Yo Z ((RdS.getD (hd1.rd.ext E) (i:=1) (by first | assumption | omega | (simp only [List.length_set];first | assumption | omega))).one 0 Z)) Z (Qm Z Z (Y6 Z Z) Z (Qm Z Z (Qx Z Z) Z (Qa (Qy Z Z) Z (Qp ⟨Z,Z,Z,Z,Z,Z,Z,Z,congrArg (fun b=>some (Value.bool b)) (show ((List.getD x.outs 0 default) == (List.getD x.outs 1 default)) = ((!(Yw (x.outs[k]'hi1) 0 7)) || ((decide (0 < ((k : Nat) : Int))) && ((List.getD x.outs 0 default) == (List.getD x.outs 1 default)))) by first | (rw [hg6,hg7] <;> rfl) | (simp [hg6,hg7];done) | (simp only [Qo] <;> simp)),trivial⟩ Z)))))))))))
      ·have hg7n : ¬ k > 0:=by first | (have h:=of_decide_eq_false hg7;omega) | (have h:=hg7;simp at h;omega)
       refine Qg Z Z Z Z (Qg Z Z Z Z (Qg Z Z Z Z (Qg Z Z Z Z (Qg Z Z Z Z (Qg Z Z Z Z (Qg Z Z Z Z (Qg Z Z Z Z (Qg Z Z Z Z (Qm Z Z (Qy Z Z) Z (Qa (Qy Z Z) Z (Qp ⟨Z,Z,Z,Z,Z,Z,Z,Z,congrArg (fun b=>some (Value.bool b)) (show false = ((!(Yw (x.outs[k]'hi1) 0 7)) || ((decide (0 < ((k : Nat) : Int))) && ((List.getD x.outs 0 default) == (List.getD x.outs 1 default)))) by first | (rw [hg6,hg7] <;> rfl) | (simp [hg6,hg7];done) | (simp only [Qo] <;> simp)),trivial⟩ Z)))))))))))
    rintro _ rfl
    refine Qd (Qs Z (fun hc6=>?_) (fun hc6=>?_))
    ·refine Qf (Qh [true] Z Z (Qa (Qe Z) Z (Qd (Qw (Q2 (Y0 (Q2 (Ql Z Z E ?_))))))))
     exact node_d (by assumption) (node_p (p:=p0) (q:=q0) (by assumption) hpq).2
    ·refine Qn (Q4 (Yr (Qh [true,true,true] Z Z (Qa (Qc Z) Z (Qa (Q8 Z Z (Yt hc5n (hd1.ext E).1.1)) Z (Qa (Qe Z) Z (Qd (Q4 (Yc (k + 1) (by omega) ⟨Z,Z,Z,trivial⟩ ⟨E,(by omega),h1,(by omega),Kf hI (by assumption) (nodeL (by assumption)),nodeJ (by assumption)⟩)))))))))
   ·have hc5n : ¬ k < x.outs.length:=by first | (have h:=of_decide_eq_false hc5;omega) | (have h:=hc5;simp at h;omega)
    refine Yn (Q5 (Q3 ?_))
    refine Qf (Qh [true] Z Z (Qa (Qe Z) Z (Qd (Qw (Ql Z Z E ?_)))))
    exact node_z (p:=p0) (q:=q0) (by assumption) hpq hI hJ (by omega)

set_option maxHeartbeats 4000000 in
set_option maxRecDepth 20000 in
theorem c_GraphOk (cg : List Value) (g : Graph) (w : World) (hg : Dat.R w 0 w.heap.size cg g) : Ct Tryz.prog 59 [.agg cg.toArray] w (fun v _=>v = .bool (Ys g)):=by
 refine Yh Tryz.func59 Z Tryz.ntmps59 Z ?_
 obtain ⟨o1,rfl,hd1⟩:=Graph.op hg
 refine Q7 [(0,.agg [o1,.int .i64 g.workers,.int .i64 g.cap].toArray)] ⟨Z,trivial⟩ ?_
 have E : Ext w w:=Ext.refl w
 refine Qf (Qh [false,true] Z Z (Y1 Z Z (fun b1 w1 e1 s1 h1=>?_)))
 have g_b1 : w.heap.size ≤ b1:=by have:=E.size;omega
 have y_b1:=h1.lt
 replace E:=E.trans e1
 have z1:=e1.size
 refine Qa (Qe Z) Z (Qd (Qf (Qf (Qh [true,true,true,false,true,true,true,true,false,true,true,true,true,true,false,true,true] Z Z (Qa (Qb Kd Z) Z (Qa (Qj Gc Z (h1.one 0 Z)) Z (Qa (Ya Tryz.underlying32 Z (hd1.ext E).len) Z (Qv Tryz.call58 Z (c_within ((g.nodes.length : Nat) : Int) 1 8 _ ) Z (fun _ w2 e2 hv=>?_)))))))))
 subst hv
 replace E:=E.trans e2;replace h1:=h1.ext e2
 have z2:=e2.size
 refine Qa (Yq Z) Z (Qa (Qc Z) Z (Y7 11 [(0,.agg [o1,.int .i64 g.workers,.int .i64 g.cap].toArray),(1,.pointer (some ⟨b1,0,none⟩)),(2,.bool false),(24,.bool (((!(Yw ((g.nodes.length : Nat) : Int) 1 8)) || (!(Yw g.workers 1 4))) || (!(Yw g.cap 1 4))))] (fun w'=>Ext w w' ∧ w2.heap.size ≤ w'.heap.size ∧ Blk w' b1 ([o1,.int .i64 g.workers,.int .i64 g.cap])) ?_ ?_))
 ·refine Y3 (gd:=13) Z Z (fun hg1=>?_) (fun hg1=>?_)
  ·refine Qg Z Z Z Z (Qg Z Z Z Z ?_)
   refine Yp Z Z Z Z ?_
   refine Qg Z Z Z Z (Qa (Qx Z Z) Z (Qa (Qc Z) Z (Qg Z Z Z Z (Qg Z Z Z Z ?_))))
   refine Yp Z Z Z Z ?_
   refine Qg Z Z Z Z (Qa (Qx Z Z) Z (Qp ⟨Z,Z,Z,congrArg (fun b=>some (Value.bool b)) (show true = (((!(Yw ((g.nodes.length : Nat) : Int) 1 8)) || (!(Yw g.workers 1 4))) || (!(Yw g.cap 1 4))) by first | (rw [hg1] <;> rfl) | (simp [hg1];done) | (simp only [Qo] <;> simp)),trivial⟩ ⟨E,(by omega),h1⟩))
  ·refine Qm Z Z (Qb Cg Z) Z (Qm Z Z (Qj Yo Z (h1.one 1 Z)) Z ?_)
   refine Xp Z Z ?_
   refine Qv Tryz.call58 Z (c_within g.workers 1 4 _ ) Z (fun _ w4 e3 hv=>?_)
   subst hv
   replace E:=E.trans e3;replace h1:=h1.ext e3
   have z3:=e3.size
   refine Qm Z Z (Yq Z) Z (Qa (Qy Z Z) Z (Qa (Qc Z) Z ?_))
   refine Y3 (gd:=19) Z Z (fun hg2=>?_) (fun hg2=>?_)
   ·refine Qg Z Z Z Z (Qg Z Z Z Z ?_)
    refine Yp Z Z Z Z ?_
    refine Qg Z Z Z Z (Qa (Qx Z Z) Z (Qp ⟨Z,Z,Z,congrArg (fun b=>some (Value.bool b)) (show true = (((!(Yw ((g.nodes.length : Nat) : Int) 1 8)) || (!(Yw g.workers 1 4))) || (!(Yw g.cap 1 4))) by first | (rw [hg1,hg2] <;> rfl) | (simp [hg1,hg2];done) | (simp only [Qo] <;> simp)),trivial⟩ ⟨E,(by omega),h1⟩))
   ·refine Qm Z Z (Qb Cf Z) Z (Qm Z Z (Qj Yo Z (h1.one 2 Z)) Z ?_)
    refine Xp Z Z ?_
    refine Qv Tryz.call58 Z (c_within g.cap 1 4 _ ) Z (fun _ w5 e4 hv=>?_)
    subst hv
    replace E:=E.trans e4;replace h1:=h1.ext e4
    have z4:=e4.size
    refine Qm Z Z (Yq Z) Z (Qa (Qy Z Z) Z (Qp ⟨Z,Z,Z,congrArg (fun b=>some (Value.bool b)) (show (!(Yw g.cap 1 4)) = (((!(Yw ((g.nodes.length : Nat) : Int) 1 8)) || (!(Yw g.workers 1 4))) || (!(Yw g.cap 1 4))) by first | (rw [hg1,hg2] <;> rfl) | (simp [hg1,hg2];done) | (simp only [Qo] <;> simp)),trivial⟩ ⟨E,(by omega),h1⟩))
 clear E h1
 rintro w3 ⟨E,z5,h1⟩
 refine Qd (Qs Z (fun hc1=>?_) (fun hc1=>?_))
 ·refine Qf (Qh [true] Z Z (Qa (Qe Z) Z (Qd (Qw (Ql Z Z E ?_)))))
  exact graph_h (by assumption)
 ·refine Qn (Qf (Qf (Qh [true,true,true,true] Z Z (Qa (Qb Kd Z) Z (Qa (Qj Gc Z (h1.one 0 Z)) Z (Qa (Ya Tryz.underlying32 Z (hd1.ext E).len) Z (Qa (Qc Z) Z (Qd (Q0 (Ym (fun (i : Nat)=>[(1,.pointer (some ⟨b1,0,none⟩)),(2,.bool false),(26,o1),(27,.int .i64 ((g.nodes.length : Nat) : Int)),(28,.int .i64 ((i : Nat) : Int))]) (fun (i : Nat) w'=>Ext w w' ∧ w3.heap.size ≤ w'.heap.size ∧ Blk w' b1 ([o1,.int .i64 g.workers,.int .i64 g.cap]) ∧ i ≤ g.nodes.length ∧ (∀ j,j < i → Ud g j (List.getD g.nodes j default) = true)) (fun (i : Nat)=>g.nodes.length - i) 0 ⟨Z,Z,Z,Z,Z,trivial⟩ ⟨E,Nat.le_refl _,h1,Nat.zero_le _,(fun j hj=>by omega)⟩ ?_))))))))))
  clear E h1
  rintro i w6 ⟨E,z6,h1,hle,hp⟩
  refine Qf (Qh [true] Z Z (Qa (Yf Z Z) Z (Qd (Qf (Qs Z (fun hc2=>?_) (fun hc2=>?_))))))
  ·have hc2n : i < g.nodes.length:=by first | (have h:=of_decide_eq_true hc2;omega) | (have h:=hc2;simp at h;omega)
   refine Qn (Qf (Q0 (Qf (Qh [true,true,true,false,true,false] Z Z (Qa (Qc Z) Z ?_)))))
   have hi1 : i < g.nodes.length:=(by first | assumption | omega | (simp only [List.length_set];first | assumption | omega))
   obtain ⟨_,hr1,ha1⟩:=RdD.get hd1 hi1
   obtain ⟨o2,rfl,hd2⟩:=Node.op hr1
   replace ha1 : At w (Xf o1) (Xm o1 + i * 4) [.int .i64 ((g.nodes[i]'hi1).kind),.int .i64 ((g.nodes[i]'hi1).a),.int .i64 ((g.nodes[i]'hi1).b),o2]:=ha1
   refine Qa (Q1 (i:=i) Gv Z Z (hd1.ext E).1 hi1) Z (Qa (Qt Xo Z (ha1.ext E) Z) Z (Yk Xo Z (fun b2 w7 e5 s2 h2=>?_)))
   have g_b2 : w.heap.size ≤ b2:=by have:=E.size;omega
   have y_b2:=h2.lt
   replace E:=E.trans e5;replace h1:=h1.ext e5
   have z7:=e5.size
   refine Qa (Qe Z) Z (Q6 (cs':=[.int .i64 ((g.nodes[i]'hi1).kind),.int .i64 ((g.nodes[i]'hi1).a),.int .i64 ((g.nodes[i]'hi1).b),o2]) Xo Z Z Z (Qk Z (Qk Z (Qk Z (Qk (RdD.one (hd2.ext E)) Z)))) h2 (Nat.le_of_ble_eq_true Z) Z (fun w8 m1 h2'=>?_))
   replace h2:=h2'
   replace E:=E.step m1 (fun g hg=>by cases hg;omega);replace h1:=h1.mod m1 (fun g hg=>by cases hg;omega)
   have z8:=m1.size
   refine Qd (Qf (Qf (Qh [true,false,true,true,true,true,true,true,true,true,true] Z Z (Qa (Qt Xo Z h2.at Z) Z (Qv Tryz.call111 Z (c_NodeOk [.int .i64 ((g.nodes[i]'hi1).kind),.int .i64 ((g.nodes[i]'hi1).a),.int .i64 ((g.nodes[i]'hi1).b),o2] (g.nodes[i]'hi1) _ (Node.mkR (g.nodes[i]'hi1) (RdD.any (hd2.ext E)))) Z (fun _ w9 e6 hv=>?_))))))
   subst hv
   replace E:=E.trans e6;replace h1:=h1.ext e6;replace h2:=h2.ext e6
   have z9:=e6.size
   refine Qa (Yq Z) Z (Qa (Qc Z) Z (Y7 7 [(1,.pointer (some ⟨b1,0,none⟩)),(2,.bool false),(3,.int .i64 ((i : Nat) : Int)),(4,.pointer (some ⟨b2,0,none⟩)),(26,o1),(27,.int .i64 ((g.nodes.length : Nat) : Int)),(28,.int .i64 ((i : Nat) : Int)),(29,.bool (decide (((i : Nat) : Int) < ((g.nodes.length : Nat) : Int)))),(30,.int .i64 ((i : Nat) : Int)),(31,.pointer (some ⟨Xf o1,Xm o1 + i * 4,none⟩)),(32,.agg [.int .i64 ((g.nodes[i]'hi1).kind),.int .i64 ((g.nodes[i]'hi1).a),.int .i64 ((g.nodes[i]'hi1).b),o2].toArray),(43,.bool ((!(Xb (g.nodes[i]'hi1))) || (!((((g.nodes[i]'hi1).kind) == 1) == (((i : Nat) : Int) == 0)))))] (fun w'=>w9 = w') ?_ ?_))
   ·refine Y3 (gd:=36) Z Z (fun hg3=>?_) (fun hg3=>?_)
    ·refine Qg Z Z Z Z (Qg Z Z Z Z (Qg Z Z Z Z (Qg Z Z Z Z (Qg Z Z Z Z (Qg Z Z Z Z (Qa (Qx Z Z) Z (Qp ⟨Z,Z,Z,Z,Z,Z,Z,Z,Z,Z,Z,congrArg (fun b=>some (Value.bool b)) (show true = ((!(Xb (g.nodes[i]'hi1))) || (!((((g.nodes[i]'hi1).kind) == 1) == (((i : Nat) : Int) == 0)))) by first | (rw [hg3] <;> rfl) | (simp [hg3];done) | (simp only [Qo] <;> simp)),trivial⟩ Z)))))))
    ·refine Qm Z Z (Qb Xk Z) Z (Qm Z Z (Qj Yo Z (h2.one 0 Z)) Z (Qm Z Z (Y6 Z Z) Z (Qm Z Z (Qc Z) Z (Qm Z Z (Y6 Z Z) Z (Qm Z Z (Vf (Tryz.underlying4) Z Z) Z (Qa (Qy Z Z) Z (Qp ⟨Z,Z,Z,Z,Z,Z,Z,Z,Z,Z,Z,congrArg (fun b=>some (Value.bool b)) (show (!((((g.nodes[i]'hi1).kind) == 1) == (((i : Nat) : Int) == 0))) = ((!(Xb (g.nodes[i]'hi1))) || (!((((g.nodes[i]'hi1).kind) == 1) == (((i : Nat) : Int) == 0)))) by first | (rw [hg3] <;> rfl) | (simp [hg3];done) | (simp only [Qo] <;> simp)),trivial⟩ Z)))))))
   rintro _ rfl
   refine Qd (Qs Z (fun hc3=>?_) (fun hc3=>?_))
   ·refine Qf (Qh [true] Z Z (Qa (Qe Z) Z (Qd (Qw (Q2 (Y0 (Q2 (Ql Z Z E ?_))))))))
    exact graph_a (by assumption)
   ·refine Qn (Qf (Qh [true,true,true,true] Z Z (Qa (Qb Y8 Z) Z (Qa (Qj Ke Z (h2.one 3 Z)) Z (Qa (Ya Tryz.underlying66 Z (hd2.ext E).len) Z (Qa (Qc Z) Z (Qd (Q0 (Ym (fun (k : Nat)=>[(1,.pointer (some ⟨b1,0,none⟩)),(2,.bool false),(3,.int .i64 ((i : Nat) : Int)),(4,.pointer (some ⟨b2,0,none⟩)),(26,o1),(27,.int .i64 ((g.nodes.length : Nat) : Int)),(28,.int .i64 ((i : Nat) : Int)),(45,o2),(46,.int .i64 ((((g.nodes[i]'hi1).outs).length : Nat) : Int)),(47,.int .i64 ((k : Nat) : Int))]) (fun (k : Nat) w'=>Ext w w' ∧ w9.heap.size ≤ w'.heap.size ∧ Blk w' b1 ([o1,.int .i64 g.workers,.int .i64 g.cap]) ∧ Blk w' b2 [.int .i64 ((g.nodes[i]'hi1).kind),.int .i64 ((g.nodes[i]'hi1).a),.int .i64 ((g.nodes[i]'hi1).b),o2] ∧ k ≤ (g.nodes[i]'hi1).outs.length ∧ ((g.nodes[i]'hi1).outs.take k).all (fun to=>!Um g i (g.nodes[i]'hi1) to) = true) (fun (k : Nat)=>(g.nodes[i]'hi1).outs.length - k) 0 ⟨Z,Z,Z,Z,Z,Z,Z,Z,Z,Z,trivial⟩ ⟨E,Nat.le_refl _,h1,h2,Nat.zero_le _,Z⟩ ?_)))))))))
    clear E h1 h2
    rintro k w11 ⟨E,z10,h1,h2,hk,hI⟩
    refine Qf (Qh [true] Z Z (Qa (Yf Z Z) Z (Qd (Qf (Qs Z (fun hc4=>?_) (fun hc4=>?_))))))
    ·have hc4n : k < ((g.nodes[i]'hi1).outs).length:=by first | (have h:=of_decide_eq_true hc4;omega) | (have h:=hc4;simp at h;omega)
     refine Qn (Qf (Q0 (Qf (Qh [true,true,true] Z Z ?_))))
     have hi2 : k < ((g.nodes[i]'hi1).outs).length:=(by first | assumption | omega | (simp only [List.length_set];first | assumption | omega))
     refine Qa (Q1 (i:=k) Uv Z Z (hd2.rd.ext E) hi2) Z (Qa (Qj Yo Z (((hd2.rd.ext E).get hi2).one 0 Z)) Z (Qa (Qe Z) Z (Qd (Qf (Qf (Qh [true,true,true,true,true] Z Z (Qa (Qc Z) Z (Qa (Qb Kd Z) Z (Qa (Qj Gc Z (h1.one 0 Z)) Z (Qa (Ya Tryz.underlying32 Z (hd1.ext E).len) Z (Qa (T0 Z Z) Z (Qd (Qs Z (fun hc5=>?_) (fun hc5=>?_))))))))))))))
     ·refine Qf (Qh [true] Z Z (Qa (Qe Z) Z (Qd (Qw (Q2 (Y0 (Q2 (Q2 (Y0 (Q2 (Ql Z Z E ?_)))))))))))
      exact Bx (edge_a (by assumption))
     ·have hto:=Dn (h1:=hi1) (h2:=hi2) (by assumption)
      have htl:=Int.not_le.1 (of_decide_eq_false hc5)
      refine Qn (Qf (Qh [true,true,true,true,true,true,true] Z Z (Qa (Qb Kd Z) Z (Qa (Qj Gc Z (h1.one 0 Z)) Z (Qa (Qc Z) Z ?_)))))
      have hi3 : (Int.toNat (((g.nodes[i]'hi1).outs)[k]'hi2)) < g.nodes.length:=(by first | assumption | omega | (simp only [List.length_set];first | assumption | omega))
      obtain ⟨_,hr2,ha2⟩:=RdD.get hd1 hi3
      obtain ⟨o3,rfl,hd3⟩:=Node.op hr2
      replace ha2 : At w (Xf o1) (Xm o1 + (Int.toNat (((g.nodes[i]'hi1).outs)[k]'hi2)) * 4) [.int .i64 ((g.nodes[(Int.toNat (((g.nodes[i]'hi1).outs)[k]'hi2))]'hi3).kind),.int .i64 ((g.nodes[(Int.toNat (((g.nodes[i]'hi1).outs)[k]'hi2))]'hi3).a),.int .i64 ((g.nodes[(Int.toNat (((g.nodes[i]'hi1).outs)[k]'hi2))]'hi3).b),o3]:=ha2
      refine Qa (U3 (i:=(Int.toNat (((g.nodes[i]'hi1).outs)[k]'hi2))) Gv Z Z (hd1.ext E).1 (by omega) hi3) Z (Qa (Qz Xk Z) Z (Qa (Qj Yo Z ((ha2.ext E).one 0 Z)) Z (Qa (Qe Z) Z (Qd (Qf (Qh [true,true,true,true,true,true,true,true,true,true,true,true,true,true,true,true,true,true,true,true,true,true,true,true,true,true] Z Z (Qa (Qb Xk Z) Z (Qa (Qj Yo Z (h2.one 0 Z)) Z (Qa (Y6 Z Z) Z (Qa (Qc Z) Z (Y7 22 [(1,.pointer (some ⟨b1,0,none⟩)),(2,.bool false),(3,.int .i64 ((i : Nat) : Int)),(4,.pointer (some ⟨b2,0,none⟩)),(6,.int .i64 (((g.nodes[i]'hi1).outs)[k]'hi2)),(7,.int .i64 ((g.nodes[(Int.toNat (((g.nodes[i]'hi1).outs)[k]'hi2))]'hi3).kind)),(26,o1),(27,.int .i64 ((g.nodes.length : Nat) : Int)),(28,.int .i64 ((i : Nat) : Int)),(45,o2),(46,.int .i64 ((((g.nodes[i]'hi1).outs).length : Nat) : Int)),(47,.int .i64 ((k : Nat) : Int)),(48,.bool (decide (((k : Nat) : Int) < ((((g.nodes[i]'hi1).outs).length : Nat) : Int)))),(49,.pointer (some ⟨Xf o2,Xm o2 + k * 1,none⟩)),(50,.int .i64 (((g.nodes[i]'hi1).outs)[k]'hi2)),(51,.int .i64 (((g.nodes[i]'hi1).outs)[k]'hi2)),(52,.pointer (some ⟨b1,0,none⟩)),(53,o1),(54,.int .i64 ((g.nodes.length : Nat) : Int)),(55,.bool (decide (((g.nodes.length : Nat) : Int) ≤ (((g.nodes[i]'hi1).outs)[k]'hi2)))),(56,.pointer (some ⟨b1,0,none⟩)),(57,o1),(58,.int .i64 (((g.nodes[i]'hi1).outs)[k]'hi2)),(59,.pointer (some ⟨Xf o1,Xm o1 + (Int.toNat (((g.nodes[i]'hi1).outs)[k]'hi2)) * 4,none⟩)),(60,.pointer (some ⟨(Xf o1),Xm o1 + (Int.toNat (((g.nodes[i]'hi1).outs)[k]'hi2)) * 4 + 0,none⟩)),(61,.int .i64 ((g.nodes[(Int.toNat (((g.nodes[i]'hi1).outs)[k]'hi2))]'hi3).kind)),(87,.bool (((((g.nodes[i]'hi1).kind) == 7) && ((decide (((i : Nat) : Int) < (((g.nodes[i]'hi1).outs)[k]'hi2))) || ((((g.nodes[(Int.toNat (((g.nodes[i]'hi1).outs)[k]'hi2))]'hi3).kind) != 5) && (((g.nodes[(Int.toNat (((g.nodes[i]'hi1).outs)[k]'hi2))]'hi3).kind) != 6)))) || ((((g.nodes[i]'hi1).kind) != 7) && (decide ((((g.nodes[i]'hi1).outs)[k]'hi2) ≤ ((i : Nat) : Int))))))] (fun w'=>w11 = w') ?_ ?_)))))))))))
      ·refine Y3 (gd:=65) Z Z (fun hg4=>?_) (fun hg4=>?_)
       ·refine Qm Z Z (Qc Z) Z (Qm Z Z (Qc Z) Z (Qm Z Z (V0 Z Z) Z (Qm Z Z (Qc Z) Z ?_)))
        refine Y3 (gd:=69) Z Z (fun hg5=>?_) (fun hg5=>?_)
        ·refine Qg Z Z Z Z (Qg Z Z Z Z (Qg Z Z Z Z (Q9 Z Z Z (Q9 Z Z Z (Qg Z Z Z Z (Qm Z Z (Qx Z Z) Z (Qa (Qx Z Z) Z (Qa (Qc Z) Z (Qg Z Z Z Z (Qg Z Z Z Z (Qg Z Z Z Z (Qg Z Z Z Z (Q9 Z Z Z (Q9 Z Z Z (Q9 Z Z Z (Qg Z Z Z Z (Qa (Qx Z Z) Z (Qp ⟨Z,Z,Z,Z,Z,Z,Z,Z,Z,Z,Z,Z,Z,Z,Z,Z,Z,Z,Z,Z,Z,Z,Z,Z,Z,Z,congrArg (fun b=>some (Value.bool b)) (show true = (((((g.nodes[i]'hi1).kind) == 7) && ((decide (((i : Nat) : Int) < (((g.nodes[i]'hi1).outs)[k]'hi2))) || ((((g.nodes[(Int.toNat (((g.nodes[i]'hi1).outs)[k]'hi2))]'hi3).kind) != 5) && (((g.nodes[(Int.toNat (((g.nodes[i]'hi1).outs)[k]'hi2))]'hi3).kind) != 6)))) || ((((g.nodes[i]'hi1).kind) != 7) && (decide ((((g.nodes[i]'hi1).outs)[k]'hi2) ≤ ((i : Nat) : Int))))) by first | (rw [hg4,hg5] <;> rfl) | (simp [hg4,hg5];done) | (simp only [Qo] <;> simp)),trivial⟩ Z))))))))))))))))))
        ·refine Qm Z Z (Qc Z) Z (Qm Z Z (Yu Z Z) Z (Qm Z Z (Qc Z) Z ?_))
         refine Y3 (gd:=72) Z Z (fun hg6=>?_) (fun hg6=>?_)
         ·refine Qm Z Z (Qc Z) Z (Qm Z Z (Yu Z Z) Z (Qm Z Z (Qx Z Z) Z (Qm Z Z (Qy Z Z) Z (Qa (Qx Z Z) Z (Qa (Qc Z) Z ?_)))))
          refine Y3 (gd:=78) Z Z (fun hg7=>?_) (fun hg7=>?_)
          ·refine Qg Z Z Z Z (Qg Z Z Z Z (Qg Z Z Z Z (Qg Z Z Z Z (Q9 Z Z Z (Q9 Z Z Z (Q9 Z Z Z (Qg Z Z Z Z (Qa (Qx Z Z) Z (Qp ⟨Z,Z,Z,Z,Z,Z,Z,Z,Z,Z,Z,Z,Z,Z,Z,Z,Z,Z,Z,Z,Z,Z,Z,Z,Z,Z,congrArg (fun b=>some (Value.bool b)) (show true = (((((g.nodes[i]'hi1).kind) == 7) && ((decide (((i : Nat) : Int) < (((g.nodes[i]'hi1).outs)[k]'hi2))) || ((((g.nodes[(Int.toNat (((g.nodes[i]'hi1).outs)[k]'hi2))]'hi3).kind) != 5) && (((g.nodes[(Int.toNat (((g.nodes[i]'hi1).outs)[k]'hi2))]'hi3).kind) != 6)))) || ((((g.nodes[i]'hi1).kind) != 7) && (decide ((((g.nodes[i]'hi1).outs)[k]'hi2) ≤ ((i : Nat) : Int))))) by first | (rw [hg4,hg5,hg6,hg7] <;> rfl) | (simp [hg4,hg5,hg6,hg7];done) | (simp only [Qo] <;> simp)),trivial⟩ Z)))))))))
          ·refine Qm Z Z (Qb Xk Z) Z (Qm Z Z (Qj Yo Z (h2.one 0 Z)) Z (Qm Z Z (Yu Z Z) Z (Qm Z Z (Qc Z) Z ?_)))
           refine Y3 (gd:=82) Z Z (fun hg8=>?_) (fun hg8=>?_)
           ·refine Qm Z Z (Qc Z) Z (Qm Z Z (Qc Z) Z (Qm Z Z (Aw Z Z) Z (Qm Z Z (Qx Z Z) Z (Qa (Qy Z Z) Z (Qp ⟨Z,Z,Z,Z,Z,Z,Z,Z,Z,Z,Z,Z,Z,Z,Z,Z,Z,Z,Z,Z,Z,Z,Z,Z,Z,Z,congrArg (fun b=>some (Value.bool b)) (show (decide ((((g.nodes[i]'hi1).outs)[k]'hi2) ≤ ((i : Nat) : Int))) = (((((g.nodes[i]'hi1).kind) == 7) && ((decide (((i : Nat) : Int) < (((g.nodes[i]'hi1).outs)[k]'hi2))) || ((((g.nodes[(Int.toNat (((g.nodes[i]'hi1).outs)[k]'hi2))]'hi3).kind) != 5) && (((g.nodes[(Int.toNat (((g.nodes[i]'hi1).outs)[k]'hi2))]'hi3).kind) != 6)))) || ((((g.nodes[i]'hi1).kind) != 7) && (decide ((((g.nodes[i]'hi1).outs)[k]'hi2) ≤ ((i : Nat) : Int))))) by first | (rw [hg4,hg5,hg6,hg7,hg8] <;> rfl) | (simp [hg4,hg5,hg6,hg7,hg8];done) | (simp only [Qo] <;> simp)),trivial⟩ Z)))))
           ·refine Qg Z Z Z Z (Qg Z Z Z Z (Qg Z Z Z Z (Qm Z Z (Qy Z Z) Z (Qa (Qy Z Z) Z (Qp ⟨Z,Z,Z,Z,Z,Z,Z,Z,Z,Z,Z,Z,Z,Z,Z,Z,Z,Z,Z,Z,Z,Z,Z,Z,Z,Z,congrArg (fun b=>some (Value.bool b)) (show false = (((((g.nodes[i]'hi1).kind) == 7) && ((decide (((i : Nat) : Int) < (((g.nodes[i]'hi1).outs)[k]'hi2))) || ((((g.nodes[(Int.toNat (((g.nodes[i]'hi1).outs)[k]'hi2))]'hi3).kind) != 5) && (((g.nodes[(Int.toNat (((g.nodes[i]'hi1).outs)[k]'hi2))]'hi3).kind) != 6)))) || ((((g.nodes[i]'hi1).kind) != 7) && (decide ((((g.nodes[i]'hi1).outs)[k]'hi2) ≤ ((i : Nat) : Int))))) by first | (rw [hg4,hg5,hg6,hg7,hg8] <;> rfl) | (simp [hg4,hg5,hg6,hg7,hg8];done) | (simp only [Qo] <;> simp)),trivial⟩ Z)))))
         ·refine Qg Z Z Z Z (Qg Z Z Z Z (Qm Z Z (Qy Z Z) Z (Qm Z Z (Qy Z Z) Z (Qa (Qx Z Z) Z (Qa (Qc Z) Z (Qm Z Z (Qb Xk Z) Z (Qm Z Z (Qj Yo Z (h2.one 0 Z)) Z (Qm Z Z (Yu Z Z) Z (Qm Z Z (Qc Z) Z ?_)))))))))
          refine Y3 (gd:=82) Z Z (fun hg9=>?_) (fun hg9=>?_)
          ·refine Qm Z Z (Qc Z) Z (Qm Z Z (Qc Z) Z (Qm Z Z (Aw Z Z) Z (Qm Z Z (Qx Z Z) Z (Qa (Qy Z Z) Z (Qp ⟨Z,Z,Z,Z,Z,Z,Z,Z,Z,Z,Z,Z,Z,Z,Z,Z,Z,Z,Z,Z,Z,Z,Z,Z,Z,Z,congrArg (fun b=>some (Value.bool b)) (show (decide ((((g.nodes[i]'hi1).outs)[k]'hi2) ≤ ((i : Nat) : Int))) = (((((g.nodes[i]'hi1).kind) == 7) && ((decide (((i : Nat) : Int) < (((g.nodes[i]'hi1).outs)[k]'hi2))) || ((((g.nodes[(Int.toNat (((g.nodes[i]'hi1).outs)[k]'hi2))]'hi3).kind) != 5) && (((g.nodes[(Int.toNat (((g.nodes[i]'hi1).outs)[k]'hi2))]'hi3).kind) != 6)))) || ((((g.nodes[i]'hi1).kind) != 7) && (decide ((((g.nodes[i]'hi1).outs)[k]'hi2) ≤ ((i : Nat) : Int))))) by first | (rw [hg4,hg5,hg6,hg9] <;> rfl) | (simp [hg4,hg5,hg6,hg9];done) | (simp only [Qo] <;> simp)),trivial⟩ Z)))))
          ·refine Qg Z Z Z Z (Qg Z Z Z Z (Qg Z Z Z Z (Qm Z Z (Qy Z Z) Z (Qa (Qy Z Z) Z (Qp ⟨Z,Z,Z,Z,Z,Z,Z,Z,Z,Z,Z,Z,Z,Z,Z,Z,Z,Z,Z,Z,Z,Z,Z,Z,Z,Z,congrArg (fun b=>some (Value.bool b)) (show false = (((((g.nodes[i]'hi1).kind) == 7) && ((decide (((i : Nat) : Int) < (((g.nodes[i]'hi1).outs)[k]'hi2))) || ((((g.nodes[(Int.toNat (((g.nodes[i]'hi1).outs)[k]'hi2))]'hi3).kind) != 5) && (((g.nodes[(Int.toNat (((g.nodes[i]'hi1).outs)[k]'hi2))]'hi3).kind) != 6)))) || ((((g.nodes[i]'hi1).kind) != 7) && (decide ((((g.nodes[i]'hi1).outs)[k]'hi2) ≤ ((i : Nat) : Int))))) by first | (rw [hg4,hg5,hg6,hg9] <;> rfl) | (simp [hg4,hg5,hg6,hg9];done) | (simp only [Qo] <;> simp)),trivial⟩ Z)))))
       ·refine Qg Z Z Z Z (Qg Z Z Z Z (Qg Z Z Z Z (Qg Z Z Z Z (Q9 Z Z Z (Q9 Z Z Z (Q9 Z Z Z (Q9 Z Z Z (Q9 Z Z Z (Q9 Z Z Z (Qg Z Z Z Z (Qa (Qy Z Z) Z (Qa (Qc Z) Z (Qm Z Z (Qb Xk Z) Z (Qm Z Z (Qj Yo Z (h2.one 0 Z)) Z (Qm Z Z (Yu Z Z) Z (Qm Z Z (Qc Z) Z ?_))))))))))))))))
        refine Y3 (gd:=82) Z Z (fun hg10=>?_) (fun hg10=>?_)
        ·refine Qm Z Z (Qc Z) Z (Qm Z Z (Qc Z) Z (Qm Z Z (Aw Z Z) Z (Qm Z Z (Qx Z Z) Z (Qa (Qy Z Z) Z (Qp ⟨Z,Z,Z,Z,Z,Z,Z,Z,Z,Z,Z,Z,Z,Z,Z,Z,Z,Z,Z,Z,Z,Z,Z,Z,Z,Z,congrArg (fun b=>some (Value.bool b)) (show (decide ((((g.nodes[i]'hi1).outs)[k]'hi2) ≤ ((i : Nat) : Int))) = (((((g.nodes[i]'hi1).kind) == 7) && ((decide (((i : Nat) : Int) < (((g.nodes[i]'hi1).outs)[k]'hi2))) || ((((g.nodes[(Int.toNat (((g.nodes[i]'hi1).outs)[k]'hi2))]'hi3).kind) != 5) && (((g.nodes[(Int.toNat (((g.nodes[i]'hi1).outs)[k]'hi2))]'hi3).kind) != 6)))) || ((((g.nodes[i]'hi1).kind) != 7) && (decide ((((g.nodes[i]'hi1).outs)[k]'hi2) ≤ ((i : Nat) : Int))))) by first | (rw [hg4,hg10] <;> rfl) | (simp [hg4,hg10];done) | (simp only [Qo] <;> simp)),trivial⟩ Z)))))
        ·refine Qg Z Z Z Z (Qg Z Z Z Z (Qg Z Z Z Z (Qm Z Z (Qy Z Z) Z (Qa (Qy Z Z) Z (Qp ⟨Z,Z,Z,Z,Z,Z,Z,Z,Z,Z,Z,Z,Z,Z,Z,Z,Z,Z,Z,Z,Z,Z,Z,Z,Z,Z,congrArg (fun b=>some (Value.bool b)) (show false = (((((g.nodes[i]'hi1).kind) == 7) && ((decide (((i : Nat) : Int) < (((g.nodes[i]'hi1).outs)[k]'hi2))) || ((((g.nodes[(Int.toNat (((g.nodes[i]'hi1).outs)[k]'hi2))]'hi3).kind) != 5) && (((g.nodes[(Int.toNat (((g.nodes[i]'hi1).outs)[k]'hi2))]'hi3).kind) != 6)))) || ((((g.nodes[i]'hi1).kind) != 7) && (decide ((((g.nodes[i]'hi1).outs)[k]'hi2) ≤ ((i : Nat) : Int))))) by first | (rw [hg4,hg10] <;> rfl) | (simp [hg4,hg10];done) | (simp only [Qo] <;> simp)),trivial⟩ Z)))))
      rintro _ rfl
      refine Qd (Qs Z (fun hc6=>?_) (fun hc6=>?_))
      ·refine Qf (Qh [true] Z Z (Qa (Qe Z) Z (Qd (Qw (Q2 (Y0 (Q2 (Q2 (Y0 (Q2 (Ql Z Z E ?_)))))))))))
       exact Bx (edge_b (congrArg Node.kind (Ki _)).symm (by assumption))
      ·refine Qn (Q4 (Yr (Qh [true,true] Z Z (Qa (Q8 Z Z (Yt hc4n (hd2.ext E).1.1)) Z (Qa (Qc Z) Z (Qd (Q4 (Yc (k + 1) (by omega) ⟨Z,Z,Z,Z,Z,Z,Z,Z,Z,Z,trivial⟩ ⟨E,(by omega),h1,h2,(by omega),Kf hI (by assumption) (edge_n (congrArg Node.kind (Ki _)).symm (by assumption) (by assumption))⟩))))))))
    ·have hc4n : ¬ k < ((g.nodes[i]'hi1).outs).length:=by first | (have h:=of_decide_eq_false hc4;omega) | (have h:=hc4;simp at h;omega)
     refine Yn (Q5 (Q3 ?_))
     refine Q4 (Yr (Qh [true,true] Z Z (Qa (Q8 Z Z (Yt hc2n (hd1.ext E).1.1)) Z (Qa (Qc Z) Z (Qd (Q4 (Yc (i + 1) (by omega) ⟨Z,Z,Z,Z,Z,trivial⟩ ⟨E,(by omega),h1,(by omega),graph_s (h1:=hi1) (by assumption) hI (by omega) hp⟩)))))))
  ·have hc2n : ¬ i < g.nodes.length:=by first | (have h:=of_decide_eq_false hc2;omega) | (have h:=hc2;simp at h;omega)
   refine Yn (Q5 (Q3 ?_))
   refine Qf (Qh [true] Z Z (Qa (Qe Z) Z (Qd (Qw (Ql Z Z E ?_)))))
   exact graph_y (by assumption) hp (by omega)

end Go.Proofs.YtaangeddnfnhdaaGreat
