/- What the functions that the laws call come to: a contract each; no condition. -/
import Derived.Test.YtjpoipdddpmeiaaGreatTypes
namespace Go.Proofs.YtjpoipdddpmeiaaGreat
open Go Go.Proofs.YtjpoipdddpmeiaaGreat.X Go.Proofs
set_option maxRecDepth 20000 in
theorem c_l02Order (a : Int) (b : Int) (w : World)  : Ct Tryz.prog 148 [.int .i64 a,.int .i64 b] w (fun v _=>v = .int .i64 (Xh a b)):=by
 refine Yi Tryz.func148 Z Tryz.ntmps148 Z ?_
 refine Q7 [(0,.int .i64 a),(1,.int .i64 b)] ⟨Z,Z,trivial⟩ ?_
 have E : Ext w w:=Ext.refl w
 refine Qe (Qg [true] Z Z (Qa (Qf Z) Z (Qc (Qe (Qw (Qe (Qg [true,true,true,true] Z Z (Qa (Qd Z) Z (Qa (Qd Z) Z (Qa (Yf Z Z) Z (Qa (Qf Z) Z (Qc (Qr Z (fun hc1=>?_) (fun hc1=>?_))))))))))))))
 ·refine Qe (Qg [true] Z Z (Qa (Qf Z) Z (Qc (Qt (Q0 (Ql Z Z E (congrArg (Value.int .i64) ?_)))))))
  simp at *
  unfold Xh;(repeat' split) <;> first | rfl | omega
 ·refine Qe (Qg [true,true,true,true] Z Z (Qa (Qd Z) Z (Qa (Qd Z) Z (Qa (G1 Z Z) Z (Qa (Qf Z) Z (Qc (Qr Z (fun hc2=>?_) (fun hc2=>?_))))))))
  ·refine Qe (Qg [true] Z Z (Qa (Qf Z) Z (Qc (Qt (Q0 (Ql Z Z E (congrArg (Value.int .i64) ?_)))))))
   simp at *
   unfold Xh;(repeat' split) <;> first | rfl | omega
  ·refine Qm (Q5 (Yv (Qe (Qg [true] Z Z (Qa (Qf Z) Z (Qc (Qt (Ql Z Z E (congrArg (Value.int .i64) ?_)))))))))
   simp at *
   unfold Xh;(repeat' split) <;> first | rfl | omega

set_option maxRecDepth 20000 in
theorem c_toCell (x : Cell) (w : World)  : Ct Tryz.prog 132 [.agg (Enc.enc x).toArray] w (fun v _=>v = .agg (Enc.enc x).toArray):=by
 refine Yi Tryz.func132 Z Tryz.ntmps132 Z ?_
 refine Q7 [(0,.agg (Enc.enc x).toArray)] ⟨Z,trivial⟩ ?_
 have E : Ext w w:=Ext.refl w
 refine Qe (Qg [false,false] Z Z (Yz Z Z (fun b1 w1 e1 s1 h1=>?_)))
 have g_b1 : w.heap.size ≤ b1:=by have:=E.size;omega
 have y_b1:=h1.lt
 replace E:=E.trans e1
 have z1:=e1.size
 refine Yj Tn Z (fun b2 w2 e2 s2 h2=>?_)
 have g_b2 : w.heap.size ≤ b2:=by have:=E.size;omega
 have y_b2:=h2.lt
 replace E:=E.trans e2;replace h1:=h1.ext e2
 have z2:=e2.size
 refine Qc (Qe (Qg [false] Z Z (Yj Tn Z (fun b3 w3 e3 s3 h3=>?_))))
 have g_b3 : w.heap.size ≤ b3:=by have:=E.size;omega
 have y_b3:=h3.lt
 replace E:=E.trans e3;replace h1:=h1.ext e3;replace h2:=h2.ext e3
 have z3:=e3.size
 refine Qc (Qe (Qg [true,true,true,false] Z Z (Qa (Qb fl180_0 Z) Z (Qa (Qk Yp Z (h1.one 0 Z)) Z (Qa (Qb Gk Z) Z (Yh (cs':=[.int .i64 x.op,.int .i64 0,.int .i64 0,.int .i64 0]) Yp Z Z Z h3 (Nat.le_of_ble_eq_true Z) Z (fun w4 m1 h3'=>?_)))))))
 replace h3:=h3'
 replace E:=E.step m1 (fun g hg=>by cases hg;omega);replace h1:=h1.mod m1 (fun g hg=>by cases hg;omega);replace h2:=h2.mod m1 (fun g hg=>by cases hg;omega)
 have z4:=m1.size
 refine Qc (Qe (Qg [true,true,true,false] Z Z (Qa (Qb fl180_1 Z) Z (Qa (Qk Yp Z (h1.one 1 Z)) Z (Qa (Qb Gj Z) Z (Yh (cs':=[.int .i64 x.op,.int .i64 x.epoch,.int .i64 0,.int .i64 0]) Yp Z Z Z h3 (Nat.le_of_ble_eq_true Z) Z (fun w5 m2 h3'=>?_)))))))
 replace h3:=h3'
 replace E:=E.step m2 (fun g hg=>by cases hg;omega);replace h1:=h1.mod m2 (fun g hg=>by cases hg;omega);replace h2:=h2.mod m2 (fun g hg=>by cases hg;omega)
 have z5:=m2.size
 refine Qc (Qe (Qg [true,true,true,false] Z Z (Qa (Qb fl180_2 Z) Z (Qa (Qk Yp Z (h1.one 2 Z)) Z (Qa (Qb Gi Z) Z (Yh (cs':=[.int .i64 x.op,.int .i64 x.epoch,.int .i64 x.key,.int .i64 0]) Yp Z Z Z h3 (Nat.le_of_ble_eq_true Z) Z (fun w6 m3 h3'=>?_)))))))
 replace h3:=h3'
 replace E:=E.step m3 (fun g hg=>by cases hg;omega);replace h1:=h1.mod m3 (fun g hg=>by cases hg;omega);replace h2:=h2.mod m3 (fun g hg=>by cases hg;omega)
 have z6:=m3.size
 refine Qc (Qe (Qg [true,true,true,false] Z Z (Qa (Qb fl180_3 Z) Z (Qa (Qk Yp Z (h1.one 3 Z)) Z (Qa (Qb Gh Z) Z (Yh (cs':=[.int .i64 x.op,.int .i64 x.epoch,.int .i64 x.key,.int .i64 x.val]) Yp Z Z Z h3 (Nat.le_of_ble_eq_true Z) Z (fun w7 m4 h3'=>?_)))))))
 replace h3:=h3'
 replace E:=E.step m4 (fun g hg=>by cases hg;omega);replace h1:=h1.mod m4 (fun g hg=>by cases hg;omega);replace h2:=h2.mod m4 (fun g hg=>by cases hg;omega)
 have z7:=m4.size
 refine Qc (Qe (Qg [true,false] Z Z (Qa (Qy Tn Z h3.at Z) Z (Q6 (cs':=[.int .i64 x.op,.int .i64 x.epoch,.int .i64 x.key,.int .i64 x.val]) Tn Z Z Z Z h2 (Nat.le_of_ble_eq_true Z) Z (fun w8 m5 h2'=>?_)))))
 replace h2:=h2'
 replace E:=E.step m5 (fun g hg=>by cases hg;omega);replace h1:=h1.mod m5 (fun g hg=>by cases hg;omega);replace h3:=h3.mod m5 (fun g hg=>by cases hg;omega)
 have z8:=m5.size
 refine Qc (Qt (Xu Z Z (Yc Tn h2.at Z) E ?_))
 rfl

set_option maxRecDepth 20000 in
theorem c_eqCell (x : Cell) (y : Cell) (w : World)  : Ct Tryz.prog 139 [.agg (Enc.enc x).toArray,.agg (Enc.enc y).toArray] w (fun v _=>v = .bool (decide (x = y))):=by
 refine Yi Tryz.func139 Z Tryz.ntmps139 Z ?_
 refine Q7 [(0,.agg (Enc.enc x).toArray),(1,.agg (Enc.enc y).toArray)] ⟨Z,Z,trivial⟩ ?_
 have E : Ext w w:=Ext.refl w
 refine Qe (Qg [false,false,true] Z Z (Yz Z Z (fun b1 w1 e1 s1 h1=>?_)))
 have g_b1 : w.heap.size ≤ b1:=by have:=E.size;omega
 have y_b1:=h1.lt
 replace E:=E.trans e1
 have z1:=e1.size
 refine Yz Z Z (fun b2 w2 e2 s2 h2=>?_)
 have g_b2 : w.heap.size ≤ b2:=by have:=E.size;omega
 have y_b2:=h2.lt
 replace E:=E.trans e2;replace h1:=h1.ext e2
 have z2:=e2.size
 refine Qa (Qf Z) Z (Qc (Qe (Qe (Qg [true,true,true,true,true] Z Z (Qa (Qb Gk Z) Z (Qa (Qk Yp Z (h1.one 0 Z)) Z (Qa (Qb Gk Z) Z (Qa (Qk Yp Z (h2.one 0 Z)) Z (Qa (Yo Z Z) Z (Qc (Qr Z (fun hc1=>?_) (fun hc1=>?_))))))))))))
 ·refine Qe (Qg [true] Z Z (Qa (Qf Z) Z (Qc (Qt (Ql Z Z E ?_)))))
  cases x;cases y;simp_all
 ·refine Qm (Qe (Qe (Qg [true,true,true,true,true] Z Z (Qa (Qb Gj Z) Z (Qa (Qk Yp Z (h1.one 1 Z)) Z (Qa (Qb Gj Z) Z (Qa (Qk Yp Z (h2.one 1 Z)) Z (Qa (Yo Z Z) Z (Qc (Qr Z (fun hc2=>?_) (fun hc2=>?_)))))))))))
  ·refine Qe (Qg [true] Z Z (Qa (Qf Z) Z (Qc (Qt (Ql Z Z E ?_)))))
   cases x;cases y;simp_all
  ·refine Qm (Qe (Qe (Qg [true,true,true,true,true] Z Z (Qa (Qb Gi Z) Z (Qa (Qk Yp Z (h1.one 2 Z)) Z (Qa (Qb Gi Z) Z (Qa (Qk Yp Z (h2.one 2 Z)) Z (Qa (Yo Z Z) Z (Qc (Qr Z (fun hc3=>?_) (fun hc3=>?_)))))))))))
   ·refine Qe (Qg [true] Z Z (Qa (Qf Z) Z (Qc (Qt (Ql Z Z E ?_)))))
    cases x;cases y;simp_all
   ·refine Qm (Qe (Qe (Qg [true,true,true,true,true] Z Z (Qa (Qb Gh Z) Z (Qa (Qk Yp Z (h1.one 3 Z)) Z (Qa (Qb Gh Z) Z (Qa (Qk Yp Z (h2.one 3 Z)) Z (Qa (Yo Z Z) Z (Qc (Qr Z (fun hc4=>?_) (fun hc4=>?_)))))))))))
    ·refine Qe (Qg [true] Z Z (Qa (Qf Z) Z (Qc (Qt (Ql Z Z E ?_)))))
     cases x;cases y;simp_all
    ·refine Qm (Qe (Qg [true] Z Z (Qa (Qf Z) Z (Qc (Qt (Ql Z Z E ?_))))))
     cases x;cases y;simp_all

set_option maxRecDepth 20000 in
theorem c_szCellS (vxs : Value) (xs : List Cell) (n : Int) (w : World) (hxs : RdS w vxs xs) (h0 : 0 ≤ n ∧ n ≤ 1048576) : Ct Tryz.prog 95 [vxs,.int .i64 n] w (fun v _=>v = .int .i64 (Uc xs.length n)):=by
 refine Yi Tryz.func95 Z Tryz.ntmps95 Z ?_
 refine Q7 [(0,vxs),(1,.int .i64 n)] ⟨Z,Z,trivial⟩ ?_
 have E : Ext w w:=Ext.refl w
 refine Qe (Qg [true] Z Z (Qa (Qf Z) Z (Qc (Qe (Qg [true,true,true,true,true] Z Z (Qa (Qd Z) Z (Qa (Qd Z) Z (Qa (Yb Tryz.underlying104 Z (hxs.ext E).len) Z (Qa (Ug Z Z Z) Z (Qa (Qf Z) Z (Qc (Qe (Qe (Qg [true,true] Z Z (Qa (Qd Z) Z (Qa (Yf Z Z) Z (Qc (Qr Z (fun hc1=>?_) (fun hc1=>?_)))))))))))))))))))
 ·refine Qe (Qg [true] Z Z (Qa (Qf Z) Z (Qc (Qt (Ql Z Z E ?_)))))
  exact Be h0.2 h0.1 hxs.1 hc1
 ·refine Qm (Qe (Qg [true,true] Z Z (Qa (Qd Z) Z (Qa (Qf Z) Z (Qc (Qt (Ql Z Z E ?_)))))))
  exact Cm h0.2 h0.1 hxs.1 hc1

set_option maxRecDepth 20000 in
theorem c_eqCellS (vxs : Value) (xs : List Cell) (vys : Value) (ys : List Cell) (w : World) (hxs : RdS w vxs xs) (hys : RdS w vys ys) : Ct Tryz.prog 122 [vxs,vys] w (fun v _=>v = .bool (decide (xs = ys))):=by
 refine Yi Tryz.func122 Z Tryz.ntmps122 Z ?_
 refine Q7 [(0,vxs),(1,vys)] ⟨Z,Z,trivial⟩ ?_
 have E : Ext w w:=Ext.refl w
 refine Qe (Qg [true] Z Z (Qa (Qf Z) Z (Qc (Qe (Qe (Qg [true,true,true,true,true] Z Z (Qa (Qd Z) Z (Qa (Yb Tryz.underlying75 Z (hxs.ext E).len) Z (Qa (Qd Z) Z (Qa (Yb Tryz.underlying75 Z (hys.ext E).len) Z (Qa (Yo Z Z) Z (Qc (Qr Z (fun hc1=>?_) (fun hc1=>?_))))))))))))))
 ·have hc1n : ¬ xs.length = ys.length:=by first | (have h:=of_decide_eq_true hc1;omega) | (have h:=hc1;simp at h;omega)
  refine Qe (Qg [true] Z Z (Qa (Qf Z) Z (Qc (Qt (Ql Z Z E ?_)))))
  simp [Hg hc1n]
 ·have hc1n : xs.length = ys.length:=by first | (have h:=of_decide_eq_false hc1;omega) | (have h:=hc1;simp at h;omega)
  refine Qm (Qe (Qe (Qg [true] Z Z (Qa (Qf Z) Z (Qc (Qw (Yk (fun (k : Nat)=>[(0,vxs),(1,vys),(4,.bool false),(5,.int .i64 ((k : Nat) : Int))]) (fun (k : Nat) w'=>Ext w w' ∧ w.heap.size ≤ w'.heap.size ∧ k ≤ xs.length ∧ xs.take k = ys.take k) (fun (k : Nat)=>xs.length - k) 0 ⟨Z,Z,Z,Z,trivial⟩ ⟨E,Nat.le_refl _,Nat.zero_le _,Z⟩ ?_)))))))
  clear E
  rintro k w1 ⟨E,z1,hk,hp⟩
  refine Qe (Qe (Qg [true,true,true,true] Z Z (Qa (Qd Z) Z (Qa (Qd Z) Z (Qa (Yb Tryz.underlying75 Z (hxs.ext E).len) Z (Qa (Yf Z Z) Z (Qc (Qr Z (fun hc2=>?_) (fun hc2=>?_)))))))))
  ·have hc2n : k < xs.length:=by first | (have h:=of_decide_eq_true hc2;omega) | (have h:=hc2;simp at h;omega)
   refine Qm (Qe (Qw (Qe (Xw Xp [(0,true),(1,true),(2,true),(3,true),(4,true),(5,true),(6,true),(7,true),(8,false),(9,true)] (by decide +kernel) Z (fun w2 e1=>?_)))))
   replace E:=E.trans e1
   have z2:=e1.size
   refine Qa (Qd Z) Z (Qa (Qd Z) Z ?_)
   have hi1 : k < xs.length:=(by first | assumption | omega | (simp only [List.length_set];first | assumption | omega) | (simp only [List.getElem_set_self,List.length_set];first | assumption | omega))
   refine Qa (Qv (i:=k) Hx Z Z (hxs.ext E) hi1) Z (Qa (Qy Tn Z ((hxs.ext E).get hi1) Z) Z (Qa (Qd Z) Z (Qa (Qd Z) Z ?_)))
   have hi2 : k < ys.length:=(by first | assumption | omega | (simp only [List.length_set];first | assumption | omega) | (simp only [List.getElem_set_self,List.length_set];first | assumption | omega))
   refine Qa (Qv (i:=k) Hx Z Z (hys.ext E) hi2) Z (Qa (Qy Tn Z ((hys.ext E).get hi2) Z) Z (Qu Tryz.call139 Z (c_eqCell (xs[k]'hi1) (ys[k]'hi2) _ ) Z (fun _ w3 e2 hv=>?_)))
   subst hv
   replace E:=E.trans e2
   have z3:=e2.size
   refine Qa (Yt Z) Z (Qc (Qr Z (fun hc3=>?_) (fun hc3=>?_)))
   ·refine Qe (Qg [true] Z Z (Qa (Qf Z) Z (Qc (Qt (Q0 (Yq (Q0 (Ql Z Z E ?_))))))))
    exact Hh (by omega) (by omega) (by simpa using hc3)
   ·refine Qm (Q5 (Yv (Qg [true,true,true] Z Z (Qa (Qd Z) Z (Qa (Yd Z Z (Yy hc2n hxs.1)) Z (Qa (Qf Z) Z (Qc (Q5 (Yg (k + 1) (by omega) ⟨Z,Z,Z,Z,trivial⟩ ⟨E,(by omega),(by omega),U9 hp (by assumption) (by omega) (by simpa using hc3)⟩)))))))))
  ·have hc2n : ¬ k < xs.length:=by first | (have h:=of_decide_eq_false hc2;omega) | (have h:=hc2;simp at h;omega)
   refine Ym (Q4 (Q2 ?_))
   refine Qe (Qg [true] Z Z (Qa (Qf Z) Z (Qc (Qt (Ql Z Z E ?_)))))
   exact V2 hp hc1n (by omega)

set_option maxRecDepth 20000 in
theorem c_isNaN (a : Int) (w : World)  : Ct Tryz.prog 153 [.int .i64 a] w (fun v _=>v = .bool false):=by
 refine Yi Tryz.func153 Z Tryz.ntmps153 Z ?_
 refine Q7 [(0,.int .i64 a)] ⟨Z,trivial⟩ ?_
 have E : Ext w w:=Ext.refl w
 refine Qe (Qg [true] Z Z (Qa (Qf Z) Z (Qc (Qe (Qg [true,true,true,true] Z Z (Qa (Qd Z) Z (Qa (Qd Z) Z (Qa (Yo Z Z) Z (Qa (Qf Z) Z (Qc (Qt (Ql Z Z E ?_))))))))))))
 simp

set_option maxRecDepth 20000 in
theorem c_cmpCompare (a : Int) (b : Int) (w : World)  : Ct Tryz.prog 152 [.int .i64 a,.int .i64 b] w (fun v _=>v = .int .i64 (Xh a b)):=by
 refine Yi Tryz.func152 Z Tryz.ntmps152 Z ?_
 refine Q7 [(0,.int .i64 a),(1,.int .i64 b)] ⟨Z,Z,trivial⟩ ?_
 have E : Ext w w:=Ext.refl w
 refine Qe (Qg [true] Z Z (Qa (Qf Z) Z (Qc (Qe (Qg [true,false,true] Z Z (Qa (Qd Z) Z (Qu Tryz.call153 Z (c_isNaN a _ ) Z (fun _ w1 e1 hv=>?_))))))))
 subst hv
 replace E:=E.trans e1
 have z1:=e1.size
 refine Qa (Qf Z) Z (Qc (Qe (Qg [true,false,true] Z Z (Qa (Qd Z) Z (Qu Tryz.call153 Z (c_isNaN b _ ) Z (fun _ w2 e2 hv=>?_))))))
 subst hv
 replace E:=E.trans e2
 have z2:=e2.size
 refine Qa (Qf Z) Z (Qc (Qe (Qe (Qg [true] Z Z (Qa (Qd Z) Z (Qc (S_condF Z (Qm (Qe (Qe (Qg [true] Z Z (Qa (Qd Z) Z (Qc (S_condF Z (Qm (Qe (Qe (Qg [true,true,true] Z Z (Qa (Qd Z) Z (Qa (Qd Z) Z (Qa (Yf Z Z) Z (Qc (Qr Z (fun hc1=>?_) (fun hc1=>?_))))))))))))))))))))))))
 ·refine Qe (Qg [true] Z Z (Qa (Qf Z) Z (Qc (Qt (Ql Z Z E (congrArg (Value.int .i64) ?_))))))
  simp at *
  unfold Xh;(repeat' split) <;> first | rfl | omega
 ·refine Qm (Qe (Qe (Qg [true,true,true] Z Z (Qa (Qd Z) Z (Qa (Qd Z) Z (Qa (G1 Z Z) Z (Qc (Qr Z (fun hc2=>?_) (fun hc2=>?_)))))))))
  ·refine Qe (Qg [true] Z Z (Qa (Qf Z) Z (Qc (Qt (Ql Z Z E (congrArg (Value.int .i64) ?_))))))
   simp at *
   unfold Xh;(repeat' split) <;> first | rfl | omega
  ·refine Qm (Qe (Qg [true] Z Z (Qa (Qf Z) Z (Qc (Qt (Ql Z Z E (congrArg (Value.int .i64) ?_)))))))
   simp at *
   unfold Xh;(repeat' split) <;> first | rfl | omega

set_option maxRecDepth 20000 in
theorem c_slicesCompare (vxs : Value) (xs : List Int) (vys : Value) (ys : List Int) (w : World) (hxs : RdS w vxs xs) (hys : RdS w vys ys) : Ct Tryz.prog 151 [vxs,vys] w (fun v _=>v = .int .i64 (Ve xs ys)):=by
 refine Yi Tryz.func151 Z Tryz.ntmps151 Z ?_
 refine Q7 [(0,vxs),(1,vys)] ⟨Z,Z,trivial⟩ ?_
 have E : Ext w w:=Ext.refl w
 refine Qe (Qg [true] Z Z (Qa (Qf Z) Z (Qc (Qe (Qe (Qg [true,true,true] Z Z (Qa (Qd Z) Z (Qa (Yb Tryz.underlying76 Z (hxs.ext E).len) Z (Qa (Qd Z) Z (Qc (Qw (Yk (fun (k : Nat)=>[(0,vxs),(1,vys),(4,.int .i64 0),(9,vxs),(10,.int .i64 ((xs.length : Nat) : Int)),(11,.int .i64 ((k : Nat) : Int))]) (fun (k : Nat) w'=>Ext w w' ∧ w.heap.size ≤ w'.heap.size ∧ k ≤ xs.length ∧ k ≤ ys.length ∧ Ve (xs.drop k) (ys.drop k) = Ve xs ys) (fun (k : Nat)=>xs.length - k) 0 ⟨Z,Z,Z,Z,Z,Z,trivial⟩ ⟨E,Nat.le_refl _,Nat.zero_le _,Nat.zero_le _,Z⟩ ?_))))))))))))
 clear E
 rintro k w1 ⟨E,z1,hk,hky,hI⟩
 refine Qe (Qg [true] Z Z (Qa (Yf Z Z) Z (Qc (Qe (Qr Z (fun hc1=>?_) (fun hc1=>?_))))))
 ·have hc1n : k < xs.length:=by first | (have h:=of_decide_eq_true hc1;omega) | (have h:=hc1;simp at h;omega)
  refine Qm (Qe (Qw (Qe (Qg [true,true,true,true,true] Z Z (Qa (Qd Z) Z ?_)))))
  have hi1 : k < xs.length:=(by first | assumption | omega | (simp only [List.length_set];first | assumption | omega) | (simp only [List.getElem_set_self,List.length_set];first | assumption | omega))
  refine Qa (Qv (i:=k) Uq Z Z (hxs.ext E) hi1) Z (Qa (Qk Yp Z (((hxs.ext E).get hi1).one 0 Z)) Z (Qa (Qf Z) Z (Qa (Qf Z) Z (Qc (Qe (Qe (Qg [true,true,true,true] Z Z (Qa (Qd Z) Z (Qa (Qd Z) Z (Qa (Yb Tryz.underlying76 Z (hys.ext E).len) Z (Qa (T4 Z Z) Z (Qc (Qr Z (fun hc2=>?_) (fun hc2=>?_))))))))))))))
  ·have hc2n : k ≥ ys.length:=by first | (have h:=of_decide_eq_true hc2;omega) | (have h:=hc2;simp at h;omega)
   refine Qe (Qg [true] Z Z (Qa (Qf Z) Z (Qc (Qt (Q0 (Yq (Q0 (Ql Z Z E ?_))))))))
   exact cmpL_1 hI (by omega) (by omega)
  ·have hc2n : ¬ k ≥ ys.length:=by first | (have h:=of_decide_eq_false hc2;omega) | (have h:=hc2;simp at h;omega)
   refine Qm (Qe (Qg [true,true,true,true,true] Z Z (Qa (Qd Z) Z (Qa (Qd Z) Z ?_))))
   have hi2 : k < ys.length:=(by first | assumption | omega | (simp only [List.length_set];first | assumption | omega) | (simp only [List.getElem_set_self,List.length_set];first | assumption | omega))
   refine Qa (Qv (i:=k) Uq Z Z (hys.ext E) hi2) Z (Qa (Qk Yp Z (((hys.ext E).get hi2).one 0 Z)) Z (Qa (Qf Z) Z (Qc (Qe (Qg [true,true,false,true] Z Z (Qa (Qd Z) Z (Qa (Qd Z) Z (Qu Tryz.call152 Z (c_cmpCompare (xs[k]'hi1) (ys[k]'hi2) _ ) Z (fun _ w2 e1 hv=>?_)))))))))
   subst hv
   replace E:=E.trans e1
   have z2:=e1.size
   refine Qa (Qf Z) Z (Qc (Qe (Qg [true,true] Z Z (Qa (Qd Z) Z (Qa (Yo Z Z) Z (Qc (Qr Z (fun hc3=>?_) (fun hc3=>?_))))))))
   ·refine Qe (Qg [true,true] Z Z (Qa (Qd Z) Z (Qa (Qf Z) Z (Qc (Qt (Q0 (Yq (Q0 (Ql Z Z E ?_)))))))))
    exact cmpL_2 hI (by omega) (by omega) (by simpa using hc3)
   ·refine Qm (Q5 (Yv (Qg [true,true] Z Z (Qa (Yd Z Z (Yy hc1n hxs.1)) Z (Qa (Qd Z) Z (Qc (Q5 (Yg (k + 1) (by omega) ⟨Z,Z,Z,Z,Z,Z,trivial⟩ ⟨E,(by omega),(by omega),(by omega),cmpL_step hI (by omega) (by omega) (by simpa using hc3)⟩))))))))
 ·have hc1n : ¬ k < xs.length:=by first | (have h:=of_decide_eq_false hc1;omega) | (have h:=hc1;simp at h;omega)
  refine Ym (Q4 (Q2 ?_))
  refine Qe (Qe (Qg [true,true,true,true,true] Z Z (Qa (Qd Z) Z (Qa (Yb Tryz.underlying76 Z (hxs.ext E).len) Z (Qa (Qd Z) Z (Qa (Yb Tryz.underlying76 Z (hys.ext E).len) Z (Qa (Yf Z Z) Z (Qc (Qr Z (fun hc4=>?_) (fun hc4=>?_))))))))))
  ·have hc4n : xs.length < ys.length:=by first | (have h:=of_decide_eq_true hc4;omega) | (have h:=hc4;simp at h;omega)
   refine Qe (Qg [true] Z Z (Qa (Qf Z) Z (Qc (Qt (Ql Z Z E ?_)))))
   exact cmpL_3 hI (by omega) (by omega)
  ·have hc4n : ¬ xs.length < ys.length:=by first | (have h:=of_decide_eq_false hc4;omega) | (have h:=hc4;simp at h;omega)
   refine Qm (Qe (Qg [true] Z Z (Qa (Qf Z) Z (Qc (Qt (Ql Z Z E ?_))))))
   exact cmpL_4 hI (by omega) (by omega)

set_option maxRecDepth 20000 in
theorem c_orderOf (vxs : Value) (xs : List Int) (vys : Value) (ys : List Int) (w : World) (hxs : RdS w vxs xs) (hys : RdS w vys ys) : Ct Tryz.prog 149 [vxs,vys] w (fun v _=>v = .int .i64 (Ve xs ys)):=by
 refine Yi Tryz.func149 Z Tryz.ntmps149 Z ?_
 refine Q7 [(0,vxs),(1,vys)] ⟨Z,Z,trivial⟩ ?_
 have E : Ext w w:=Ext.refl w
 refine Qe (Qg [true] Z Z (Qa (Qf Z) Z (Qc (Qe (Qg [true,true,false,true] Z Z (Qa (Qd Z) Z (Qa (Qd Z) Z (Qu Tryz.call151 Z (c_slicesCompare vxs xs vys ys _ (hxs.ext E) (hys.ext E)) Z (fun _ w1 e1 hv=>?_)))))))))
 subst hv
 replace E:=E.trans e1
 have z1:=e1.size
 refine Qa (Qf Z) Z (Qc (Qt (Ql Z Z E ?_)))
 rfl

set_option maxRecDepth 20000 in
theorem c_CellOrder (x : Cell) (y : Cell) (w : World)  : Ct Tryz.prog 144 [.agg (Enc.enc x).toArray,.agg (Enc.enc y).toArray] w (fun v _=>v = .int .i64 (G9 x y)):=by
 refine Yi Tryz.func144 Z Tryz.ntmps144 Z ?_
 refine Q7 [(0,.agg (Enc.enc x).toArray),(1,.agg (Enc.enc y).toArray)] ⟨Z,Z,trivial⟩ ?_
 have E : Ext w w:=Ext.refl w
 refine Qe (Qg [false,false,true] Z Z (Yz Z Z (fun b1 w1 e1 s1 h1=>?_)))
 have g_b1 : w.heap.size ≤ b1:=by have:=E.size;omega
 have y_b1:=h1.lt
 replace E:=E.trans e1
 have z1:=e1.size
 refine Yz Z Z (fun b2 w2 e2 s2 h2=>?_)
 have g_b2 : w.heap.size ≤ b2:=by have:=E.size;omega
 have y_b2:=h2.lt
 replace E:=E.trans e2;replace h1:=h1.ext e2
 have z2:=e2.size
 refine Qa (Qf Z) Z (Qc (Qe (Qg [true,true,true,true,true,true,true,true,false,true,true,true,true,true,true,true,true,false,false,true] Z Z (Qa (Qb Gj Z) Z (Qa (Qk Yp Z (h1.one 1 Z)) Z (Qa (Qb Gk Z) Z (Qa (Qk Yp Z (h1.one 0 Z)) Z (Qa (Qb Gi Z) Z (Qa (Qk Yp Z (h1.one 2 Z)) Z (Qa (Qb Gh Z) Z (Qa (Qk Yp Z (h1.one 3 Z)) Z (Y8 (vs:=[.int .i64 x.epoch,.int .i64 x.op,.int .i64 x.key,.int .i64 x.val]) (css:=[[.int .i64 x.epoch],[.int .i64 x.op],[.int .i64 x.key],[.int .i64 x.val]]) Uq Z Z ⟨⟨Z,Z⟩,⟨Z,Z⟩,⟨Z,Z⟩,⟨Z,Z⟩,trivial⟩ Z Z (fun b3 w3 e3 s3 h3=>?_)))))))))))))
 replace h3 : Blk w3 b3 [.int .i64 x.epoch,.int .i64 x.op,.int .i64 x.key,.int .i64 x.val]:=h3
 have g_b3 : w.heap.size ≤ b3:=by have:=E.size;omega
 have y_b3:=h3.lt
 replace E:=E.trans e3;replace h1:=h1.ext e3;replace h2:=h2.ext e3
 have z3:=e3.size
 refine Qa (Qb Gj Z) Z (Qa (Qk Yp Z (h2.one 1 Z)) Z (Qa (Qb Gk Z) Z (Qa (Qk Yp Z (h2.one 0 Z)) Z (Qa (Qb Gi Z) Z (Qa (Qk Yp Z (h2.one 2 Z)) Z (Qa (Qb Gh Z) Z (Qa (Qk Yp Z (h2.one 3 Z)) Z (Y8 (vs:=[.int .i64 y.epoch,.int .i64 y.op,.int .i64 y.key,.int .i64 y.val]) (css:=[[.int .i64 y.epoch],[.int .i64 y.op],[.int .i64 y.key],[.int .i64 y.val]]) Uq Z Z ⟨⟨Z,Z⟩,⟨Z,Z⟩,⟨Z,Z⟩,⟨Z,Z⟩,trivial⟩ Z Z (fun b4 w4 e4 s4 h4=>?_)))))))))
 replace h4 : Blk w4 b4 [.int .i64 y.epoch,.int .i64 y.op,.int .i64 y.key,.int .i64 y.val]:=h4
 have g_b4 : w.heap.size ≤ b4:=by have:=E.size;omega
 have y_b4:=h4.lt
 replace E:=E.trans e4;replace h1:=h1.ext e4;replace h2:=h2.ext e4;replace h3:=h3.ext e4
 have z4:=e4.size
 refine Qu Tryz.call149 Z (c_orderOf (.slice (some ⟨b3,0,none⟩) 4 4) [x.epoch,x.op,x.key,x.val] (.slice (some ⟨b4,0,none⟩) 4 4) [y.epoch,y.op,y.key,y.val] _ (Blk.rd (α:=Int) (xs:=[x.epoch,x.op,x.key,x.val]) (by decide) h3 Z (by simp [maxLen])) (Blk.rd (α:=Int) (xs:=[y.epoch,y.op,y.key,y.val]) (by decide) h4 Z (by simp [maxLen]))) Z (fun _ w5 e5 hv=>?_)
 subst hv
 replace E:=E.trans e5;replace h1:=h1.ext e5;replace h2:=h2.ext e5;replace h3:=h3.ext e5;replace h4:=h4.ext e5
 have z5:=e5.size
 refine Qa (Qf Z) Z (Qc (Qt (Ql Z Z E ?_)))
 rfl

set_option maxRecDepth 20000 in
theorem s_CellOrder (x : Cell) (y : Cell) (w : World)  : Ct Tryz.prog 142 [.agg (Enc.enc x).toArray,.agg (Enc.enc y).toArray] w (fun v _=>v = .int .i64 (G9 x y)):=by
 refine Yi Tryz.func142 Z Tryz.ntmps142 Z ?_
 refine Q7 [(0,.agg (Enc.enc x).toArray),(1,.agg (Enc.enc y).toArray)] ⟨Z,Z,trivial⟩ ?_
 have E : Ext w w:=Ext.refl w
 refine Qe (Qg [false,false,true] Z Z (Yz Z Z (fun b1 w1 e1 s1 h1=>?_)))
 have g_b1 : w.heap.size ≤ b1:=by have:=E.size;omega
 have y_b1:=h1.lt
 replace E:=E.trans e1
 have z1:=e1.size
 refine Yz Z Z (fun b2 w2 e2 s2 h2=>?_)
 have g_b2 : w.heap.size ≤ b2:=by have:=E.size;omega
 have y_b2:=h2.lt
 replace E:=E.trans e2;replace h1:=h1.ext e2
 have z2:=e2.size
 refine Qa (Qf Z) Z (Qc (Qe (Xw Xp [(0,true),(1,true),(2,true),(3,true),(5,true),(6,true),(7,true),(8,true),(10,true),(11,true),(12,true),(13,true),(15,true),(16,true),(17,true),(18,true),(4,false),(9,false),(14,false),(19,false),(20,false),(21,true)] (by decide +kernel) Z (fun w3 e3=>?_))))
 replace E:=E.trans e3;replace h1:=h1.ext e3;replace h2:=h2.ext e3
 have z3:=e3.size
 refine Qa (Qb Gj Z) Z (Qa (Qk Yp Z (h1.one 1 Z)) Z (Qa (Qb Gj Z) Z (Qa (Qk Yp Z (h2.one 1 Z)) Z (Qa (Qb Gk Z) Z (Qa (Qk Yp Z (h1.one 0 Z)) Z (Qa (Qb Gk Z) Z (Qa (Qk Yp Z (h2.one 0 Z)) Z (Qa (Qb Gi Z) Z (Qa (Qk Yp Z (h1.one 2 Z)) Z (Qa (Qb Gi Z) Z (Qa (Qk Yp Z (h2.one 2 Z)) Z (Qa (Qb Gh Z) Z (Qa (Qk Yp Z (h1.one 3 Z)) Z (Qa (Qb Gh Z) Z (Qa (Qk Yp Z (h2.one 3 Z)) Z (Qu Tryz.call148 Z (c_l02Order x.epoch y.epoch _ ) Z (fun _ w4 e4 hv=>?_)))))))))))))))))
 subst hv
 replace E:=E.trans e4;replace h1:=h1.ext e4;replace h2:=h2.ext e4
 have z4:=e4.size
 refine Qu Tryz.call148 Z (c_l02Order x.op y.op _ ) Z (fun _ w5 e5 hv=>?_)
 subst hv
 replace E:=E.trans e5;replace h1:=h1.ext e5;replace h2:=h2.ext e5
 have z5:=e5.size
 refine Qu Tryz.call148 Z (c_l02Order x.key y.key _ ) Z (fun _ w6 e6 hv=>?_)
 subst hv
 replace E:=E.trans e6;replace h1:=h1.ext e6;replace h2:=h2.ext e6
 have z6:=e6.size
 refine Qu Tryz.call148 Z (c_l02Order x.val y.val _ ) Z (fun _ w7 e7 hv=>?_)
 subst hv
 replace E:=E.trans e7;replace h1:=h1.ext e7;replace h2:=h2.ext e7
 have z7:=e7.size
 refine Y8 (vs:=[.int .i64 (Xh x.epoch y.epoch),.int .i64 (Xh x.op y.op),.int .i64 (Xh x.key y.key),.int .i64 (Xh x.val y.val)]) (css:=[[.int .i64 (Xh x.epoch y.epoch)],[.int .i64 (Xh x.op y.op)],[.int .i64 (Xh x.key y.key)],[.int .i64 (Xh x.val y.val)]]) Uq Z Z ⟨⟨Z,Z⟩,⟨Z,Z⟩,⟨Z,Z⟩,⟨Z,Z⟩,trivial⟩ Z Z (fun b3 w8 e8 s3 h3=>?_)
 replace h3 : Blk w8 b3 [.int .i64 (Xh x.epoch y.epoch),.int .i64 (Xh x.op y.op),.int .i64 (Xh x.key y.key),.int .i64 (Xh x.val y.val)]:=h3
 have g_b3 : w.heap.size ≤ b3:=by have:=E.size;omega
 have y_b3:=h3.lt
 replace E:=E.trans e8;replace h1:=h1.ext e8;replace h2:=h2.ext e8
 have z8:=e8.size
 refine Qa (Qf Z) Z (Qc (Qe (Qe (Qg [true] Z Z (Qa (Qf Z) Z (Qc (Qw (Yk (fun (k : Nat)=>[(4,.int .i64 0),(5,.slice (some ⟨b3,0,none⟩) 4 4),(6,.int .i64 ((k : Nat) : Int))]) (fun (k : Nat) w'=>Ext w w' ∧ w8.heap.size ≤ w'.heap.size ∧ Blk w' b1 (Enc.enc x) ∧ Blk w' b2 (Enc.enc y) ∧ Blk w' b3 [.int .i64 (Xh x.epoch y.epoch),.int .i64 (Xh x.op y.op),.int .i64 (Xh x.key y.key),.int .i64 (Xh x.val y.val)] ∧ k ≤ 4 ∧ Kf (List.drop k [Xh x.epoch y.epoch,Xh x.op y.op,Xh x.key y.key,Xh x.val y.val]) = Kf [Xh x.epoch y.epoch,Xh x.op y.op,Xh x.key y.key,Xh x.val y.val]) (fun (k : Nat)=>4 - k) 0 ⟨Z,Z,Z,trivial⟩ ⟨E,Nat.le_refl _,h1,h2,h3,Nat.zero_le _,Z⟩ ?_))))))))
 clear E h1 h2 h3
 rintro k w9 ⟨E,z9,h1,h2,h3,hk,hI⟩
 refine Qe (Qe (Qg [true,true] Z Z (Qa (Qd Z) Z (Qa (Yf Z Z) Z (Qc (Qr Z (fun hc1=>?_) (fun hc1=>?_)))))))
 ·have hc1n : k < 4:=by first | (have h:=of_decide_eq_true hc1;omega) | (have h:=hc1;simp at h;omega)
  refine Qm (Qe (Qw (Qe (Qg [true,true,true,true,true] Z Z (Qa (Qd Z) Z (Qa (Qd Z) Z ?_))))))
  have hi1 : k < [Xh x.epoch y.epoch,Xh x.op y.op,Xh x.key y.key,Xh x.val y.val].length:=(by first | assumption | omega | (simp only [List.length_set];first | assumption | omega) | (simp only [List.getElem_set_self,List.length_set];first | assumption | omega))
  refine Qa (Qv (i:=k) Uq Z Z (Blk.rd (α:=Int) (xs:=[Xh x.epoch y.epoch,Xh x.op y.op,Xh x.key y.key,Xh x.val y.val]) (by decide) h3 Z (by simp [maxLen])) hi1) Z (Qa (Qk Yp Z (((Blk.rd (α:=Int) (xs:=[Xh x.epoch y.epoch,Xh x.op y.op,Xh x.key y.key,Xh x.val y.val]) (by decide) h3 Z (by simp [maxLen])).get hi1).one 0 Z)) Z (Qa (Yo Z Z) Z (Qc (Qr Z (fun hc2=>?_) (fun hc2=>?_)))))
  ·refine Qe (Qg [true,true,true,true,true] Z Z (Qa (Qd Z) Z (Qa (Qd Z) Z (Qa (Qv (i:=k) Uq Z Z (Blk.rd (α:=Int) (xs:=[Xh x.epoch y.epoch,Xh x.op y.op,Xh x.key y.key,Xh x.val y.val]) (by decide) h3 Z (by simp [maxLen])) hi1) Z (Qa (Qk Yp Z (((Blk.rd (α:=Int) (xs:=[Xh x.epoch y.epoch,Xh x.op y.op,Xh x.key y.key,Xh x.val y.val]) (by decide) h3 Z (by simp [maxLen])).get hi1).one 0 Z)) Z (Qa (Qf Z) Z (Qc (Qt (Q0 (Yq (Q0 (Ql Z Z E ?_))))))))))))
   exact cellOrd_a (firstNZ_yes hI (by simpa using hc1n) (by simpa using hc2))
  ·refine Qm (Q5 (Yv (Qg [true,true,true] Z Z (Qa (Qd Z) Z (Qa (Yd Z Z (Yy hc1n (by first | assumption | (unfold maxLen;omega)))) Z (Qa (Qf Z) Z (Qc (Q5 (Yg (k + 1) (by omega) ⟨Z,Z,Z,trivial⟩ ⟨E,(by omega),h1,h2,h3,(by omega),firstNZ_step hI (by simpa using hc1n) (by simpa using hc2)⟩)))))))))
 ·have hc1n : ¬ k < 4:=by first | (have h:=of_decide_eq_false hc1;omega) | (have h:=hc1;simp at h;omega)
  refine Ym (Q4 (Q2 ?_))
  refine Qe (Qg [true] Z Z (Qa (Qf Z) Z (Qc (Qt (Ql Z Z E ?_)))))
  exact cellOrd_b (firstNZ_no hI (by simp;omega))

set_option maxRecDepth 20000 in
theorem c_toCellS (vxs : Value) (xs : List Cell) (w : World) (hxs : RdS w vxs xs) (hb : xs.length ≤ 1048576) : Ct Tryz.prog 109 [vxs] w (fun v w'=>Own w' w.heap.size w'.heap.size 4 v (List.flatMap (Enc.enc (α:=Cell)) xs)):=by
 refine Yi Tryz.func109 Z Tryz.ntmps109 Z ?_
 refine Q7 [(0,vxs)] ⟨Z,trivial⟩ ?_
 have E : Ext w w:=Ext.refl w
 refine Qe (Qg [true] Z Z (Qa (Qf Z) Z (Qc (Qe (Qg [true,true,false,true] Z Z (Qa (Qd Z) Z (Qa (Yb Tryz.underlying104 Z (hxs.ext E).len) Z (Hk (m:=xs.length) Hx Z Z (by omega) (by decide) Z (fun b1 w1 e1 s1 h1=>?_)))))))))
 have g_b1 : w.heap.size ≤ b1:=by have:=E.size;omega
 have y_b1:=h1.lt
 replace E:=E.trans e1
 have z1:=e1.size
 refine Qa (Qf Z) Z (Qc (Qe (Qe (Qg [true] Z Z (Qa (Qf Z) Z (Qc (Qw (Yk (fun (k : Nat)=>[(0,vxs),(2,.slice none 0 0),(3,.slice (some ⟨b1,0,none⟩) xs.length xs.length),(4,.int .i64 ((k : Nat) : Int))]) (fun (k : Nat) w'=>Ext w w' ∧ w1.heap.size ≤ w'.heap.size ∧ k ≤ xs.length ∧ Blk w' b1 (mk xs [.int .i64 0,.int .i64 0,.int .i64 0,.int .i64 0] k xs.length)) (fun (k : Nat)=>xs.length - k) 0 ⟨Z,Z,Z,Z,trivial⟩ ⟨E,Nat.le_refl _,Nat.zero_le _,(H1 xs [.int .i64 0,.int .i64 0,.int .i64 0,.int .i64 0] xs.length) ▸ h1⟩ ?_))))))))
 clear E h1
 rintro k w2 ⟨E,z2,hk,h1⟩
 refine Qe (Qe (Qg [true,true,true,true] Z Z (Qa (Qd Z) Z (Qa (Qd Z) Z (Qa (Yb Tryz.underlying104 Z (hxs.ext E).len) Z (Qa (Yf Z Z) Z (Qc (Qr Z (fun hc1=>?_) (fun hc1=>?_)))))))))
 ·have hc1n : k < xs.length:=by first | (have h:=of_decide_eq_true hc1;omega) | (have h:=hc1;simp at h;omega)
  refine Qm (Qe (Qw (Qg [true,true,true,true,true,true,false,true,false] Z Z (Qa (Qd Z) Z (Qa (Qd Z) Z (Qa (Qd Z) Z (Qa (Qd Z) Z ?_)))))))
  have hi1 : k < xs.length:=(by first | assumption | omega | (simp only [List.length_set];first | assumption | omega) | (simp only [List.getElem_set_self,List.length_set];first | assumption | omega))
  refine Qa (Qv (i:=k) sl104 Z Z (hxs.ext E) hi1) Z (Qa (Qy st180 Z ((hxs.ext E).get hi1) Z) Z (Qu Tryz.call132 Z (c_toCell (xs[k]'hi1) _ ) Z (fun _ w3 e2 hv=>?_)))
  subst hv
  replace E:=E.trans e2;replace h1:=h1.ext e2
  have z3:=e2.size
  refine Qa (Va Hx Z Z (by first | assumption | omega | (simp only [List.length_set];first | assumption | omega) | (simp only [List.getElem_set_self,List.length_set];first | assumption | omega))) Z (Q6 (cs':=mk xs [.int .i64 0,.int .i64 0,.int .i64 0,.int .i64 0] (k + 1) xs.length) Tn Z Z Z Z h1 (H3 xs [.int .i64 0,.int .i64 0,.int .i64 0,.int .i64 0] Z hc1n hc1n (by rfl)) (H2 xs [.int .i64 0,.int .i64 0,.int .i64 0,.int .i64 0] Z hc1n hc1n) (fun w4 m1 h1'=>?_))
  replace h1:=h1'
  replace E:=E.step m1 (fun g hg=>by cases hg;omega)
  have z4:=m1.size
  refine Qc (Q5 (Yv (Qg [true,true,true] Z Z (Qa (Qd Z) Z (Qa (Yd Z Z (Yy hc1n hxs.1)) Z (Qa (Qf Z) Z (Qc (Q5 (Yg (k + 1) (by omega) ⟨Z,Z,Z,Z,trivial⟩ ⟨E,(by omega),(by omega),h1⟩)))))))))
 ·have hc1n : ¬ k < xs.length:=by first | (have h:=of_decide_eq_false hc1;omega) | (have h:=hc1;simp at h;omega)
  refine Ym (Q4 (Q2 ?_))
  refine Qe (Qg [true,true] Z Z (Qa (Qd Z) Z (Qa (Qf Z) Z (Qc (Qt (Ql Z Z E ?_))))))
  obtain rfl : k = xs.length:=by omega
  rw [Cs] at h1
  exact Own.ofBlk h1 (by omega) (by have:=h1.lt;omega) (Yx xs) hxs.1

set_option maxRecDepth 20000 in
theorem s_CellsOk (vxs : Value) (xs : List Cell) (w : World) (hxs : RdS w vxs xs) : Ct Tryz.prog 130 [vxs] w (fun v _=>v = .bool ((Tp xs).all X8)):=by
 refine Yi Tryz.func130 Z Tryz.ntmps130 Z ?_
 refine Q7 [(0,vxs)] ⟨Z,trivial⟩ ?_
 have E : Ext w w:=Ext.refl w
 refine Qe (Qg [true] Z Z (Qa (Qf Z) Z (Qc (Qe (Qe (Qg [true] Z Z (Qa (Qf Z) Z (Qc (Qw (Yk (fun (j : Nat)=>[(0,vxs),(2,.bool false),(3,.int .i64 ((j + 1 : Nat) : Int))]) (fun (j : Nat) w'=>Ext w w' ∧ w.heap.size ≤ w'.heap.size ∧ ((Tp xs).take j).all X8 = true) (fun (j : Nat)=>xs.length - j) 0 ⟨Z,Z,Z,trivial⟩ ⟨E,Nat.le_refl _,Z⟩ ?_))))))))))
 clear E
 rintro j w1 ⟨E,z1,hI⟩
 have hlm:=hxs.1
 unfold maxLen at hlm
 refine Qe (Qe (Qg [true,true,true,true] Z Z (Qa (Qd Z) Z (Qa (Qd Z) Z (Qa (Yb Tryz.underlying75 Z (hxs.ext E).len) Z (Qa (Yf Z Z) Z (Qc (Qr Z (fun hc1=>?_) (fun hc1=>?_)))))))))
 ·have hc1n : j + 1 < xs.length:=by first | (have h:=of_decide_eq_true hc1;omega) | (have h:=hc1;simp at h;omega)
  refine Qm (Qe (Qw (Qe (Xw Xp [(0,true),(1,true),(2,true),(3,true),(4,true),(5,true),(6,true),(7,true),(8,true),(9,false),(10,true)] (by decide +kernel) Z (fun w2 e1=>?_)))))
  replace E:=E.trans e1
  have z2:=e1.size
  refine Qa (Qd Z) Z (Qa (Qd Z) Z (Qa (Ug Z Z (sub_one (m:=j) (by unfold maxLen;omega))) Z ?_))
  have hi1 : j < xs.length:=(by first | assumption | omega | (simp only [List.length_set];first | assumption | omega) | (simp only [List.getElem_set_self,List.length_set];first | assumption | omega))
  refine Qa (Qv (i:=j) Hx Z Z (hxs.ext E) hi1) Z (Qa (Qy Tn Z ((hxs.ext E).get hi1) Z) Z (Qa (Qd Z) Z (Qa (Qd Z) Z ?_)))
  have hi2 : j + 1 < xs.length:=(by first | assumption | omega | (simp only [List.length_set];first | assumption | omega) | (simp only [List.getElem_set_self,List.length_set];first | assumption | omega))
  refine Qa (Qv (i:=j + 1) Hx Z Z (hxs.ext E) hi2) Z (Qa (Qy Tn Z ((hxs.ext E).get hi2) Z) Z (Qu Tryz.call142 Z (s_CellOrder (xs[j]'hi1) (xs[j + 1]'hi2) _ ) Z (fun _ w3 e2 hv=>?_)))
  subst hv
  replace E:=E.trans e2
  have z3:=e2.size
  refine Qa (T4 Z Z) Z (Qc (Qr Z (fun hc2=>?_) (fun hc2=>?_)))
  ·refine Qe (Qg [true] Z Z (Qa (Qf Z) Z (Qc (Qt (Q0 (Yq (Q0 (Ql Z Z E ?_))))))))
   exact adj_no hc1n (by simpa [X8] using hc2)
  ·refine Qm (Q5 (Yv (Qg [true,true,true] Z Z (Qa (Qd Z) Z (Qa (Yd Z Z (Yy hc1n hxs.1)) Z (Qa (Qf Z) Z (Qc (Q5 (Yg (j + 1) (by omega) ⟨Z,Z,Z,trivial⟩ ⟨E,(by omega),adj_step hI (by assumption) (by simpa [X8] using hc2)⟩)))))))))
 ·have hc1n : ¬ j + 1 < xs.length:=by first | (have h:=of_decide_eq_false hc1;omega) | (have h:=hc1;simp at h;omega)
  refine Ym (Q4 (Q2 ?_))
  refine Qe (Qg [true] Z Z (Qa (Qf Z) Z (Qc (Qt (Ql Z Z E ?_)))))
  exact adj_yes hI (by omega)

set_option maxRecDepth 20000 in
theorem c_CellsOk (vxs : Value) (xs : List Cell) (w : World) (hxs : RdS w vxs xs) : Ct Tryz.prog 135 [vxs] w (fun v _=>v = .bool ((Tp xs).all X8)):=by
 refine Yi Tryz.func135 Z Tryz.ntmps135 Z ?_
 refine Q7 [(0,vxs)] ⟨Z,trivial⟩ ?_
 have E : Ext w w:=Ext.refl w
 refine Qe (Qg [true] Z Z (Qa (Qf Z) Z (Qc (Qe (Qe (Qg [true] Z Z (Qa (Qf Z) Z (Qc (Qw (Yk (fun (j : Nat)=>[(0,vxs),(2,.bool false),(3,.int .i64 ((j + 1 : Nat) : Int))]) (fun (j : Nat) w'=>Ext w w' ∧ w.heap.size ≤ w'.heap.size ∧ ((Tp xs).take j).all X8 = true) (fun (j : Nat)=>xs.length - j) 0 ⟨Z,Z,Z,trivial⟩ ⟨E,Nat.le_refl _,Z⟩ ?_))))))))))
 clear E
 rintro j w1 ⟨E,z1,hI⟩
 have hlm:=hxs.1
 unfold maxLen at hlm
 refine Qe (Qe (Qg [true,true,true,true] Z Z (Qa (Qd Z) Z (Qa (Qd Z) Z (Qa (Yb Tryz.underlying75 Z (hxs.ext E).len) Z (Qa (Yf Z Z) Z (Qc (Qr Z (fun hc1=>?_) (fun hc1=>?_)))))))))
 ·have hc1n : j + 1 < xs.length:=by first | (have h:=of_decide_eq_true hc1;omega) | (have h:=hc1;simp at h;omega)
  refine Qm (Qe (Qw (Qe (Xw Xp [(0,true),(1,true),(2,true),(3,true),(4,true),(5,true),(6,true),(7,true),(8,true),(9,false),(10,true)] (by decide +kernel) Z (fun w2 e1=>?_)))))
  replace E:=E.trans e1
  have z2:=e1.size
  refine Qa (Qd Z) Z (Qa (Qd Z) Z (Qa (Ug Z Z (sub_one (m:=j) (by unfold maxLen;omega))) Z ?_))
  have hi1 : j < xs.length:=(by first | assumption | omega | (simp only [List.length_set];first | assumption | omega) | (simp only [List.getElem_set_self,List.length_set];first | assumption | omega))
  refine Qa (Qv (i:=j) Hx Z Z (hxs.ext E) hi1) Z (Qa (Qy Tn Z ((hxs.ext E).get hi1) Z) Z (Qa (Qd Z) Z (Qa (Qd Z) Z ?_)))
  have hi2 : j + 1 < xs.length:=(by first | assumption | omega | (simp only [List.length_set];first | assumption | omega) | (simp only [List.getElem_set_self,List.length_set];first | assumption | omega))
  refine Qa (Qv (i:=j + 1) Hx Z Z (hxs.ext E) hi2) Z (Qa (Qy Tn Z ((hxs.ext E).get hi2) Z) Z (Qu Tryz.call144 Z (c_CellOrder (xs[j]'hi1) (xs[j + 1]'hi2) _ ) Z (fun _ w3 e2 hv=>?_)))
  subst hv
  replace E:=E.trans e2
  have z3:=e2.size
  refine Qa (T4 Z Z) Z (Qc (Qr Z (fun hc2=>?_) (fun hc2=>?_)))
  ·refine Qe (Qg [true] Z Z (Qa (Qf Z) Z (Qc (Qt (Q0 (Yq (Q0 (Ql Z Z E ?_))))))))
   exact adj_no hc1n (by simpa [X8] using hc2)
  ·refine Qm (Q5 (Yv (Qg [true,true,true] Z Z (Qa (Qd Z) Z (Qa (Yd Z Z (Yy hc1n hxs.1)) Z (Qa (Qf Z) Z (Qc (Q5 (Yg (j + 1) (by omega) ⟨Z,Z,Z,trivial⟩ ⟨E,(by omega),adj_step hI (by assumption) (by simpa [X8] using hc2)⟩)))))))))
 ·have hc1n : ¬ j + 1 < xs.length:=by first | (have h:=of_decide_eq_false hc1;omega) | (have h:=hc1;simp at h;omega)
  refine Ym (Q4 (Q2 ?_))
  refine Qe (Qg [true] Z Z (Qa (Qf Z) Z (Qc (Qt (Ql Z Z E ?_)))))
  exact adj_yes hI (by omega)

set_option maxRecDepth 20000 in
theorem markCellS (vxs : Value) (lo hi : Nat) (xs : List Cell) (k : Nat) (w : World) (hxs : Own w lo hi 4 vxs (List.flatMap (Enc.enc (α:=Cell)) xs)) (hb : k + xs.length * 4 ≤ 1099511627776) : CtR Tryz.prog 79 [vxs,.int .i64 ((k : Nat) : Int)] w lo hi (fun v w'=>v = .int .i64 ((k + 4 * xs.length : Nat) : Int) ∧ Own w' lo hi 4 vxs (List.flatMap (Enc.enc (α:=Cell)) (Vj 4 H4 k xs.length))):=by
 refine Vq Tryz.func79 Z Tryz.ntmps79 Z ?_
 refine Q7 [(0,vxs),(1,.int .i64 ((k : Nat) : Int))] ⟨Z,Z,trivial⟩ ?_
 have E : ModR w w lo hi:=ModR.refl w lo hi
 refine Qe (Qg [true] Z Z (Qa (Qf Z) Z (Qc (Qe (Qe (Qg [true] Z Z (Qa (Qf Z) Z (Qc (Qw (Yk (fun (xq : Nat × Nat × List Cell)=>let ⟨i,q,bs⟩:=xq;[(0,vxs),(1,.int .i64 ((q : Nat) : Int)),(4,.int .i64 0),(5,.int .i64 ((i : Nat) : Int))]) (fun (xq : Nat × Nat × List Cell) w'=>let ⟨i,q,bs⟩:=xq;ModR w w' lo hi ∧ w.heap.size ≤ w'.heap.size ∧ i + bs.length = xs.length ∧ q = k + 4 * i ∧ Own w' lo hi 4 vxs (List.flatMap (Enc.enc (α:=Cell)) (Vj 4 H4 k i ++ bs))) (fun (xq : Nat × Nat × List Cell)=>let ⟨i,q,bs⟩:=xq;xs.length - i) (0,k,xs) ⟨Z,Z,Z,Z,trivial⟩ ⟨E,Nat.le_refl _,(by simp),(by simp),(by simpa [Vj] using hxs)⟩ ?_))))))))))
 clear E hxs
 rintro ⟨i,q,bs⟩ w1 ⟨E,z1,hi,hq,hxs⟩
 refine Q7 [(0,vxs),(1,.int .i64 ((q : Nat) : Int)),(4,.int .i64 0),(5,.int .i64 ((i : Nat) : Int))] ⟨Z,Z,Z,Z,trivial⟩ ?_
 refine Qe (Qe (Qg [true,true,true,true] Z Z (Qa (Qd Z) Z (Qa (Qd Z) Z (Qa (Yb Tryz.underlying75 Z (Own.lenE (by decide) hxs (by simp only [List.length_append,Qi,List.length_cons];omega))) Z (Qa (Yf Z Z) Z (Qc (Qr Z (fun hc1=>?_) (fun hc1=>?_)))))))))
 ·rcases bs with _ | ⟨x,bs⟩
  ·exact absurd hi (by have h:=hc1;simp at h ⊢;omega)
  simp only [List.length_cons] at hi
  have hc1n : i < xs.length:=by first | (have h:=of_decide_eq_true hc1;omega) | (have h:=hc1;simp at h;omega)
  refine Qm (Qe (Qw (Qe (Qg [true,true,true,true,true,false] Z Z (Qa (Qd Z) Z (Qa (Qd Z) Z (Qa (Qd Z) Z (Qa (Qv Hx Z Z (Own.rd (by decide) hxs) (by simp only [List.length_append,Qi,List.length_cons];omega)) Z (Qa (Qs Gk Z) Z (Y5 (α:=Cell) (i:=i) (f:=0) (⟨((q : Nat) : Int),x.epoch,x.key,x.val⟩ : Cell) Yp Z Z Z Z hxs (Qi _ _ _ _) (by decide) Z (fun w2 m1 hxs'=>?_)))))))))))
  have hq:=hxs.blk
  replace hxs:=hxs'
  replace E:=E.mod m1 (fun g hg=>by have:=hq g hg;omega)
  have z2:=m1.size
  clear hq
  refine Qc (Qe (Qg [true,true,true] Z Z (Qa (Qd Z) Z (Qa (Yd Z Z (Ye (by unfold maxLen;omega))) Z (Qa (Qf Z) Z (Qc (Qe (Qg [true,true,true,true,true,false] Z Z (Qa (Qd Z) Z (Qa (Qd Z) Z (Qa (Qd Z) Z (Qa (Qv Hx Z Z (Own.rd (by decide) hxs) (by simp only [List.length_append,Qi,List.length_cons];omega)) Z (Qa (Qs Gj Z) Z (Y5 (α:=Cell) (i:=i) (f:=1) (⟨((q : Nat) : Int),((q + 1 : Nat) : Int),x.key,x.val⟩ : Cell) Yp Z Z Z Z hxs (Qi _ _ _ _) (by decide) Z (fun w3 m2 hxs'=>?_)))))))))))))))
  have hq:=hxs.blk
  replace hxs:=hxs'
  replace E:=E.mod m2 (fun g hg=>by have:=hq g hg;omega)
  have z3:=m2.size
  clear hq
  refine Qc (Qe (Qg [true,true,true] Z Z (Qa (Qd Z) Z (Qa (Yd Z Z (Ye (by unfold maxLen;omega))) Z (Qa (Qf Z) Z (Qc (Qe (Qg [true,true,true,true,true,false] Z Z (Qa (Qd Z) Z (Qa (Qd Z) Z (Qa (Qd Z) Z (Qa (Qv Hx Z Z (Own.rd (by decide) hxs) (by simp only [List.length_append,Qi,List.length_cons];omega)) Z (Qa (Qs Gi Z) Z (Y5 (α:=Cell) (i:=i) (f:=2) (⟨((q : Nat) : Int),((q + 1 : Nat) : Int),((q + 1 + 1 : Nat) : Int),x.val⟩ : Cell) Yp Z Z Z Z hxs (Qi _ _ _ _) (by decide) Z (fun w4 m3 hxs'=>?_)))))))))))))))
  have hq:=hxs.blk
  replace hxs:=hxs'
  replace E:=E.mod m3 (fun g hg=>by have:=hq g hg;omega)
  have z4:=m3.size
  clear hq
  refine Qc (Qe (Qg [true,true,true] Z Z (Qa (Qd Z) Z (Qa (Yd Z Z (Ye (by unfold maxLen;omega))) Z (Qa (Qf Z) Z (Qc (Qe (Qg [true,true,true,true,true,false] Z Z (Qa (Qd Z) Z (Qa (Qd Z) Z (Qa (Qd Z) Z (Qa (Qv Hx Z Z (Own.rd (by decide) hxs) (by simp only [List.length_append,Qi,List.length_cons];omega)) Z (Qa (Qs Gh Z) Z (Y5 (α:=Cell) (i:=i) (f:=3) (⟨((q : Nat) : Int),((q + 1 : Nat) : Int),((q + 1 + 1 : Nat) : Int),((q + 1 + 1 + 1 : Nat) : Int)⟩ : Cell) Yp Z Z Z Z hxs (Qi _ _ _ _) (by decide) Z (fun w5 m4 hxs'=>?_)))))))))))))))
  have hq:=hxs.blk
  replace hxs:=hxs'
  replace E:=E.mod m4 (fun g hg=>by have:=hq g hg;omega)
  have z5:=m4.size
  clear hq
  refine Qc (Qg [true,true,true] Z Z (Qa (Qd Z) Z (Qa (Yd Z Z (Ye (by unfold maxLen;omega))) Z (Qa (Qf Z) Z (Qc (Q5 (Yv (Qg [true,true,true] Z Z (Qa (Qd Z) Z (Qa (Yd Z Z (Ye (by unfold maxLen;omega))) Z (Qa (Qf Z) Z (Qc (Q5 (Yg (i + 1,q + 1 + 1 + 1 + 1,bs) (by simp;omega) ⟨rfl,rfl,rfl,rfl,trivial⟩ ⟨E,(by omega),(by omega),(by omega),(by subst hq;rw [← Gw];exact hxs)⟩))))))))))))))
 ·have hc1n : ¬ i < xs.length:=by first | (have h:=of_decide_eq_false hc1;omega) | (have h:=hc1;simp at h;omega)
  refine Ym (Q4 (Q2 ?_))
  refine Qe (Qg [true,true] Z Z (Qa (Qd Z) Z (Qa (Qf Z) Z (Qc (Qt (Ql Z Z E ?_))))))
  exact ⟨by subst hq;rw [show i = xs.length from by omega],by obtain rfl : bs = []:=List.eq_nil_of_length_eq_zero (by omega);rw [show xs.length = i from by simp at hi;omega];simpa using hxs⟩

set_option maxRecDepth 20000 in
theorem heldCellS (vxs : Value) (xs : List Cell) (k : Nat) (w : World) (hxs : RdS w vxs xs) (hm : xs = Vj 4 H4 k xs.length) (hb : k + xs.length * 4 ≤ 1099511627776) : Ct Tryz.prog 85 [vxs,.int .i64 ((k : Nat) : Int)] w (fun v _=>v = .int .i64 ((k + 4 * xs.length : Nat) : Int)):=by
 refine Yi Tryz.func85 Z Tryz.ntmps85 Z ?_
 refine Q7 [(0,vxs),(1,.int .i64 ((k : Nat) : Int))] ⟨Z,Z,trivial⟩ ?_
 have E : Ext w w:=Ext.refl w
 refine Qe (Qg [true] Z Z (Qa (Qf Z) Z (Qc (Qe (Qe (Qg [true] Z Z (Qa (Qf Z) Z (Qc (Qw (Yk (fun (xq : Nat × Nat)=>let ⟨i,q⟩:=xq;[(0,vxs),(1,.int .i64 ((q : Nat) : Int)),(4,.int .i64 0),(5,.int .i64 ((i : Nat) : Int))]) (fun (xq : Nat × Nat) w'=>let ⟨i,q⟩:=xq;Ext w w' ∧ w.heap.size ≤ w'.heap.size ∧ i ≤ xs.length ∧ q = k + 4 * i) (fun (xq : Nat × Nat)=>let ⟨i,q⟩:=xq;xs.length - i) (0,k) ⟨Z,Z,Z,Z,trivial⟩ ⟨E,Nat.le_refl _,Nat.zero_le _,(by simp)⟩ ?_))))))))))
 clear E
 rintro ⟨i,q⟩ w1 ⟨E,z1,hi,hq⟩
 refine Q7 [(0,vxs),(1,.int .i64 ((q : Nat) : Int)),(4,.int .i64 0),(5,.int .i64 ((i : Nat) : Int))] ⟨Z,Z,Z,Z,trivial⟩ ?_
 refine Qe (Qe (Qg [true,true,true,true] Z Z (Qa (Qd Z) Z (Qa (Qd Z) Z (Qa (Yb Tryz.underlying75 Z (hxs.ext E).len) Z (Qa (Yf Z Z) Z (Qc (Qr Z (fun hc1=>?_) (fun hc1=>?_)))))))))
 ·have hc1n : i < xs.length:=by first | (have h:=of_decide_eq_true hc1;omega) | (have h:=hc1;simp at h;omega)
  refine Qm (Qe (Qw (Qe (Qe (Qg [true,true,true,true,true,true,true] Z Z (Qa (Qd Z) Z (Qa (Qd Z) Z ?_)))))))
  have hi1 : i < xs.length:=(by first | assumption | omega | (simp only [List.length_set];first | assumption | omega) | (simp only [List.getElem_set_self,List.length_set];first | assumption | omega))
  refine Qa (Qv (i:=i) Hx Z Z (hxs.ext E) hi1) Z (Qa (Qs Gk Z) Z (Qa (Qk Yp Z (((hxs.ext E).get hi1).one 0 Z)) Z (Qa (Qd Z) Z (Qa (Yo Z Z) Z (Qc (Yn rfl (by subst hq;rw [K5 hm (by omega)];simp [H4]) (Qm (Qe (Qg [true,true,true] Z Z (Qa (Qd Z) Z (Qa (Yd Z Z (Ye (by unfold maxLen;omega))) Z (Qa (Qf Z) Z (Qc (Qe (Qe (Qg [true,true,true,true,true,true,true] Z Z (Qa (Qd Z) Z (Qa (Qd Z) Z (Qa (Qv (i:=i) Hx Z Z (hxs.ext E) hi1) Z (Qa (Qs Gj Z) Z (Qa (Qk Yp Z (((hxs.ext E).get hi1).one 1 Z)) Z (Qa (Qd Z) Z (Qa (Yo Z Z) Z (Qc (Yn rfl (by subst hq;rw [K5 hm (by omega)];simp [H4]) (Qm (Qe (Qg [true,true,true] Z Z (Qa (Qd Z) Z (Qa (Yd Z Z (Ye (by unfold maxLen;omega))) Z (Qa (Qf Z) Z (Qc (Qe (Qe (Qg [true,true,true,true,true,true,true] Z Z (Qa (Qd Z) Z (Qa (Qd Z) Z (Qa (Qv (i:=i) Hx Z Z (hxs.ext E) hi1) Z (Qa (Qs Gi Z) Z (Qa (Qk Yp Z (((hxs.ext E).get hi1).one 2 Z)) Z (Qa (Qd Z) Z (Qa (Yo Z Z) Z (Qc (Yn rfl (by subst hq;rw [K5 hm (by omega)];simp [H4]) (Qm (Qe (Qg [true,true,true] Z Z (Qa (Qd Z) Z (Qa (Yd Z Z (Ye (by unfold maxLen;omega))) Z (Qa (Qf Z) Z (Qc (Qe (Qe (Qg [true,true,true,true,true,true,true] Z Z (Qa (Qd Z) Z (Qa (Qd Z) Z (Qa (Qv (i:=i) Hx Z Z (hxs.ext E) hi1) Z (Qa (Qs Gh Z) Z (Qa (Qk Yp Z (((hxs.ext E).get hi1).one 3 Z)) Z (Qa (Qd Z) Z (Qa (Yo Z Z) Z (Qc (Yn rfl (by subst hq;rw [K5 hm (by omega)];simp [H4]) (Qm (Qg [true,true,true] Z Z (Qa (Qd Z) Z (Qa (Yd Z Z (Ye (by unfold maxLen;omega))) Z (Qa (Qf Z) Z (Qc (Q5 (Yv (Qg [true,true,true] Z Z (Qa (Qd Z) Z (Qa (Yd Z Z (Ye (by unfold maxLen;omega))) Z (Qa (Qf Z) Z (Qc (Q5 (Yg (i + 1,q + 1 + 1 + 1 + 1) (by simp;omega) ⟨Z,Z,Z,Z,trivial⟩ ⟨E,(by omega),(by omega),(by omega)⟩))))))))))))))))))))))))))))))))))))))))))))))))))))))))))))))))))))))))))))))
 ·have hc1n : ¬ i < xs.length:=by first | (have h:=of_decide_eq_false hc1;omega) | (have h:=hc1;simp at h;omega)
  refine Ym (Q4 (Q2 ?_))
  refine Qe (Qg [true,true] Z Z (Qa (Qd Z) Z (Qa (Qf Z) Z (Qc (Qt (Ql Z Z E ?_))))))
  subst hq;rw [show i = xs.length from by omega]

set_option maxRecDepth 20000 in
theorem c_szIntS (vxs : Value) (xs : List Int) (n : Int) (w : World) (hxs : RdS w vxs xs) (h0 : 0 ≤ n ∧ n ≤ 1048576) : Ct Tryz.prog 96 [vxs,.int .i64 n] w (fun v _=>v = .int .i64 (Uc xs.length n)):=by
 refine Yi Tryz.func96 Z Tryz.ntmps96 Z ?_
 refine Q7 [(0,vxs),(1,.int .i64 n)] ⟨Z,Z,trivial⟩ ?_
 have E : Ext w w:=Ext.refl w
 refine Qe (Qg [true] Z Z (Qa (Qf Z) Z (Qc (Qe (Qg [true,true,true,true,true] Z Z (Qa (Qd Z) Z (Qa (Qd Z) Z (Qa (Yb Tryz.underlying76 Z (hxs.ext E).len) Z (Qa (Ug Z Z Z) Z (Qa (Qf Z) Z (Qc (Qe (Qe (Qg [true,true] Z Z (Qa (Qd Z) Z (Qa (Yf Z Z) Z (Qc (Qr Z (fun hc1=>?_) (fun hc1=>?_)))))))))))))))))))
 ·refine Qe (Qg [true] Z Z (Qa (Qf Z) Z (Qc (Qt (Ql Z Z E ?_)))))
  exact Be h0.2 h0.1 hxs.1 hc1
 ·refine Qm (Qe (Qg [true,true] Z Z (Qa (Qd Z) Z (Qa (Qf Z) Z (Qc (Qt (Ql Z Z E ?_)))))))
  exact Cm h0.2 h0.1 hxs.1 hc1

set_option maxRecDepth 20000 in
theorem c_toIntS (vxs : Value) (xs : List Int) (w : World) (hxs : RdS w vxs xs) (hb : xs.length ≤ 1048576) : Ct Tryz.prog 110 [vxs] w (fun v w'=>Own w' w.heap.size w'.heap.size 1 v (List.flatMap (Enc.enc (α:=Int)) xs)):=by
 refine Yi Tryz.func110 Z Tryz.ntmps110 Z ?_
 refine Q7 [(0,vxs)] ⟨Z,trivial⟩ ?_
 have E : Ext w w:=Ext.refl w
 refine Qe (Qg [true] Z Z (Qa (Qf Z) Z (Qc (Qe (Qg [true,true,false,true] Z Z (Qa (Qd Z) Z (Qa (Yb Tryz.underlying76 Z (hxs.ext E).len) Z (Hk (m:=xs.length) Uq Z Z (by omega) (by decide) Z (fun b1 w1 e1 s1 h1=>?_)))))))))
 have g_b1 : w.heap.size ≤ b1:=by have:=E.size;omega
 have y_b1:=h1.lt
 replace E:=E.trans e1
 have z1:=e1.size
 refine Qa (Qf Z) Z (Qc (Qe (Qe (Qg [true] Z Z (Qa (Qf Z) Z (Qc (Qw (Yk (fun (k : Nat)=>[(0,vxs),(2,.slice none 0 0),(3,.slice (some ⟨b1,0,none⟩) xs.length xs.length),(4,.int .i64 ((k : Nat) : Int))]) (fun (k : Nat) w'=>Ext w w' ∧ w1.heap.size ≤ w'.heap.size ∧ k ≤ xs.length ∧ Blk w' b1 (mk xs [.int .i64 0] k xs.length)) (fun (k : Nat)=>xs.length - k) 0 ⟨Z,Z,Z,Z,trivial⟩ ⟨E,Nat.le_refl _,Nat.zero_le _,(H1 xs [.int .i64 0] xs.length) ▸ h1⟩ ?_))))))))
 clear E h1
 rintro k w2 ⟨E,z2,hk,h1⟩
 refine Qe (Qe (Qg [true,true,true,true] Z Z (Qa (Qd Z) Z (Qa (Qd Z) Z (Qa (Yb Tryz.underlying76 Z (hxs.ext E).len) Z (Qa (Yf Z Z) Z (Qc (Qr Z (fun hc1=>?_) (fun hc1=>?_)))))))))
 ·have hc1n : k < xs.length:=by first | (have h:=of_decide_eq_true hc1;omega) | (have h:=hc1;simp at h;omega)
  refine Qm (Qe (Qw (Qg [true,true,true,true,true,true,true,false] Z Z (Qa (Qd Z) Z (Qa (Qd Z) Z (Qa (Qd Z) Z (Qa (Qd Z) Z ?_)))))))
  have hi1 : k < xs.length:=(by first | assumption | omega | (simp only [List.length_set];first | assumption | omega) | (simp only [List.getElem_set_self,List.length_set];first | assumption | omega))
  refine Qa (Qv (i:=k) Uq Z Z (hxs.ext E) hi1) Z (Qa (Qk Yp Z (((hxs.ext E).get hi1).one 0 Z)) Z (Qa (Va Uq Z Z (by first | assumption | omega | (simp only [List.length_set];first | assumption | omega) | (simp only [List.getElem_set_self,List.length_set];first | assumption | omega))) Z (Yh (cs':=mk xs [.int .i64 0] (k + 1) xs.length) Yp Z Z Z h1 (H3 xs [.int .i64 0] Z hc1n hc1n (by rfl)) (H2 xs [.int .i64 0] Z hc1n hc1n) (fun w3 m1 h1'=>?_))))
  replace h1:=h1'
  replace E:=E.step m1 (fun g hg=>by cases hg;omega)
  have z3:=m1.size
  refine Qc (Q5 (Yv (Qg [true,true,true] Z Z (Qa (Qd Z) Z (Qa (Yd Z Z (Yy hc1n hxs.1)) Z (Qa (Qf Z) Z (Qc (Q5 (Yg (k + 1) (by omega) ⟨Z,Z,Z,Z,trivial⟩ ⟨E,(by omega),(by omega),h1⟩)))))))))
 ·have hc1n : ¬ k < xs.length:=by first | (have h:=of_decide_eq_false hc1;omega) | (have h:=hc1;simp at h;omega)
  refine Ym (Q4 (Q2 ?_))
  refine Qe (Qg [true,true] Z Z (Qa (Qd Z) Z (Qa (Qf Z) Z (Qc (Qt (Ql Z Z E ?_))))))
  obtain rfl : k = xs.length:=by omega
  rw [Cs] at h1
  exact Own.ofBlk h1 (by omega) (by have:=h1.lt;omega) (Yx xs) hxs.1

set_option maxRecDepth 20000 in
theorem c_eqIntS (vxs : Value) (xs : List Int) (vys : Value) (ys : List Int) (w : World) (hxs : RdS w vxs xs) (hys : RdS w vys ys) : Ct Tryz.prog 123 [vxs,vys] w (fun v _=>v = .bool (decide (xs = ys))):=by
 refine Yi Tryz.func123 Z Tryz.ntmps123 Z ?_
 refine Q7 [(0,vxs),(1,vys)] ⟨Z,Z,trivial⟩ ?_
 have E : Ext w w:=Ext.refl w
 refine Qe (Qg [true] Z Z (Qa (Qf Z) Z (Qc (Qe (Qe (Qg [true,true,true,true,true] Z Z (Qa (Qd Z) Z (Qa (Yb Tryz.underlying76 Z (hxs.ext E).len) Z (Qa (Qd Z) Z (Qa (Yb Tryz.underlying76 Z (hys.ext E).len) Z (Qa (Yo Z Z) Z (Qc (Qr Z (fun hc1=>?_) (fun hc1=>?_))))))))))))))
 ·have hc1n : ¬ xs.length = ys.length:=by first | (have h:=of_decide_eq_true hc1;omega) | (have h:=hc1;simp at h;omega)
  refine Qe (Qg [true] Z Z (Qa (Qf Z) Z (Qc (Qt (Ql Z Z E ?_)))))
  simp [Hg hc1n]
 ·have hc1n : xs.length = ys.length:=by first | (have h:=of_decide_eq_false hc1;omega) | (have h:=hc1;simp at h;omega)
  refine Qm (Qe (Qe (Qg [true] Z Z (Qa (Qf Z) Z (Qc (Qw (Yk (fun (k : Nat)=>[(0,vxs),(1,vys),(4,.bool false),(5,.int .i64 ((k : Nat) : Int))]) (fun (k : Nat) w'=>Ext w w' ∧ w.heap.size ≤ w'.heap.size ∧ k ≤ xs.length ∧ xs.take k = ys.take k) (fun (k : Nat)=>xs.length - k) 0 ⟨Z,Z,Z,Z,trivial⟩ ⟨E,Nat.le_refl _,Nat.zero_le _,Z⟩ ?_)))))))
  clear E
  rintro k w1 ⟨E,z1,hk,hp⟩
  refine Qe (Qe (Qg [true,true,true,true] Z Z (Qa (Qd Z) Z (Qa (Qd Z) Z (Qa (Yb Tryz.underlying76 Z (hxs.ext E).len) Z (Qa (Yf Z Z) Z (Qc (Qr Z (fun hc2=>?_) (fun hc2=>?_)))))))))
  ·have hc2n : k < xs.length:=by first | (have h:=of_decide_eq_true hc2;omega) | (have h:=hc2;simp at h;omega)
   refine Qm (Qe (Qw (Qe (Xw Xp [(0,true),(1,true),(2,true),(3,true),(4,true),(5,true),(6,true),(7,true),(8,true)] (by decide +kernel) Z (fun w2 e1=>?_)))))
   replace E:=E.trans e1
   have z2:=e1.size
   refine Qa (Qd Z) Z (Qa (Qd Z) Z ?_)
   have hi1 : k < xs.length:=(by first | assumption | omega | (simp only [List.length_set];first | assumption | omega) | (simp only [List.getElem_set_self,List.length_set];first | assumption | omega))
   refine Qa (Qv (i:=k) Uq Z Z (hxs.ext E) hi1) Z (Qa (Qk Yp Z (((hxs.ext E).get hi1).one 0 Z)) Z (Qa (Qd Z) Z (Qa (Qd Z) Z ?_)))
   have hi2 : k < ys.length:=(by first | assumption | omega | (simp only [List.length_set];first | assumption | omega) | (simp only [List.getElem_set_self,List.length_set];first | assumption | omega))
   refine Qa (Qv (i:=k) Uq Z Z (hys.ext E) hi2) Z (Qa (Qk Yp Z (((hys.ext E).get hi2).one 0 Z)) Z (Qa (Yo Z Z) Z (Qc (Qr Z (fun hc3=>?_) (fun hc3=>?_)))))
   ·refine Qe (Qg [true] Z Z (Qa (Qf Z) Z (Qc (Qt (Q0 (Yq (Q0 (Ql Z Z E ?_))))))))
    exact Hh (by omega) (by omega) (by simpa using hc3)
   ·refine Qm (Q5 (Yv (Qg [true,true,true] Z Z (Qa (Qd Z) Z (Qa (Yd Z Z (Yy hc2n hxs.1)) Z (Qa (Qf Z) Z (Qc (Q5 (Yg (k + 1) (by omega) ⟨Z,Z,Z,Z,trivial⟩ ⟨E,(by omega),(by omega),U9 hp (by assumption) (by omega) (by simpa using hc3)⟩)))))))))
  ·have hc2n : ¬ k < xs.length:=by first | (have h:=of_decide_eq_false hc2;omega) | (have h:=hc2;simp at h;omega)
   refine Ym (Q4 (Q2 ?_))
   refine Qe (Qg [true] Z Z (Qa (Qf Z) Z (Qc (Qt (Ql Z Z E ?_)))))
   exact V2 hp hc1n (by omega)

set_option maxRecDepth 20000 in
theorem c_szNode (cx : List Value) (x : Node) (n : Int) (w : World) (hx : Dat.R w 0 w.heap.size cx x) (h0 : 0 ≤ n ∧ n ≤ 1048576) : Ct Tryz.prog 93 [.agg cx.toArray,.int .i64 n] w (fun v _=>v = .int .i64 (Uc (Xn x) n)):=by
 refine Yi Tryz.func93 Z Tryz.ntmps93 Z ?_
 obtain ⟨o1,rfl,hd1⟩:=Node.op hx
 refine Q7 [(0,.agg [.int .i64 x.kind,.int .i64 x.a,.int .i64 x.b,o1].toArray),(1,.int .i64 n)] ⟨Z,Z,trivial⟩ ?_
 have E : Ext w w:=Ext.refl w
 refine Qe (Qg [false,true] Z Z (Yz Z Z (fun b1 w1 e1 s1 h1=>?_)))
 have g_b1 : w.heap.size ≤ b1:=by have:=E.size;omega
 have y_b1:=h1.lt
 replace E:=E.trans e1
 have z1:=e1.size
 refine Qa (Qf Z) Z (Qc (Qe (Qg [true,true,true,false,true] Z Z (Qa (Qb fl143_3 Z) Z (Qa (Qk Ks Z (h1.one 3 Z)) Z (Qa (Qd Z) Z (Qu Tryz.call96 Z (c_szIntS o1 x.outs n _ (hd1.rd.ext E) (by first | omega | (simp only [Qi];omega) | (rw [Qi];done) | (simp only [Qi];done))) Z (fun _ w2 e2 hv=>?_))))))))
 subst hv
 replace E:=E.trans e2;replace h1:=h1.ext e2
 have z2:=e2.size
 refine Qa (Qf Z) Z (Qc (Qe (Qe (Qg [true,true] Z Z (Qa (Qd Z) Z (Qa (Yf Z Z) Z (Qc (Qr Z (fun hc1=>?_) (fun hc1=>?_)))))))))
 ·have q1:=Ub hc1 (by omega)
  refine Qe (Qg [true] Z Z (Qa (Qf Z) Z (Qc (Qt (Ql Z Z E ?_)))))
  first | exact X5 (by unfold Xn;omega) | exact Kl (by unfold Xn;omega) (by unfold Xn;omega)
 ·have q2:=Ua hc1 (by omega)
  refine Qm (Qe (Qg [true,true] Z Z (Qa (Qd Z) Z (Qa (Qf Z) Z (Qc (Qt (Ql Z Z E ?_)))))))
  first | exact X5 (by unfold Xn;omega) | exact Kl (by unfold Xn;omega) (by unfold Xn;omega)

set_option maxRecDepth 20000 in
theorem c_toNode (cx : List Value) (x : Node) (w : World) (hx : Dat.R w 0 w.heap.size cx x) (hb : Xn x ≤ 1048576) : Ct Tryz.prog 107 [.agg cx.toArray] w (fun v w'=>∃ cs,v = .agg cs.toArray ∧ Own1.O w' w.heap.size w'.heap.size cs x):=by
 unfold Xn at hb
 refine Yi Tryz.func107 Z Tryz.ntmps107 Z ?_
 obtain ⟨o1,rfl,hd1⟩:=Node.op hx
 refine Q7 [(0,.agg [.int .i64 x.kind,.int .i64 x.a,.int .i64 x.b,o1].toArray)] ⟨Z,trivial⟩ ?_
 have E : Ext w w:=Ext.refl w
 refine Qe (Qg [false,false] Z Z (Yz Z Z (fun b1 w1 e1 s1 h1=>?_)))
 have g_b1 : w.heap.size ≤ b1:=by have:=E.size;omega
 have y_b1:=h1.lt
 replace E:=E.trans e1
 have z1:=e1.size
 refine Yj K7 Z (fun b2 w2 e2 s2 h2=>?_)
 have g_b2 : w.heap.size ≤ b2:=by have:=E.size;omega
 have y_b2:=h2.lt
 replace E:=E.trans e2;replace h1:=h1.ext e2
 have z2:=e2.size
 refine Qc (Qe (Qg [false] Z Z (Yj K7 Z (fun b3 w3 e3 s3 h3=>?_))))
 have g_b3 : w.heap.size ≤ b3:=by have:=E.size;omega
 have y_b3:=h3.lt
 replace E:=E.trans e3;replace h1:=h1.ext e3;replace h2:=h2.ext e3
 have z3:=e3.size
 refine Qc (Qe (Qg [true,true,true,false] Z Z (Qa (Qb fl143_0 Z) Z (Qa (Qk Yp Z (h1.one 0 Z)) Z (Qa (Qb Ke Z) Z (Yh (cs':=[.int .i64 x.kind,.int .i64 0,.int .i64 0,.slice none 0 0]) Yp Z Z Z h3 (Nat.le_of_ble_eq_true Z) Z (fun w4 m1 h3'=>?_)))))))
 replace h3:=h3'
 replace E:=E.step m1 (fun g hg=>by cases hg;omega);replace h1:=h1.mod m1 (fun g hg=>by cases hg;omega);replace h2:=h2.mod m1 (fun g hg=>by cases hg;omega)
 have z4:=m1.size
 refine Qc (Qe (Qg [true,true,true,false] Z Z (Qa (Qb fl143_1 Z) Z (Qa (Qk Yp Z (h1.one 1 Z)) Z (Qa (Qb Ko Z) Z (Yh (cs':=[.int .i64 x.kind,.int .i64 x.a,.int .i64 0,.slice none 0 0]) Yp Z Z Z h3 (Nat.le_of_ble_eq_true Z) Z (fun w5 m2 h3'=>?_)))))))
 replace h3:=h3'
 replace E:=E.step m2 (fun g hg=>by cases hg;omega);replace h1:=h1.mod m2 (fun g hg=>by cases hg;omega);replace h2:=h2.mod m2 (fun g hg=>by cases hg;omega)
 have z5:=m2.size
 refine Qc (Qe (Qg [true,true,true,false] Z Z (Qa (Qb fl143_2 Z) Z (Qa (Qk Yp Z (h1.one 2 Z)) Z (Qa (Qb Um Z) Z (Yh (cs':=[.int .i64 x.kind,.int .i64 x.a,.int .i64 x.b,.slice none 0 0]) Yp Z Z Z h3 (Nat.le_of_ble_eq_true Z) Z (fun w6 m3 h3'=>?_)))))))
 replace h3:=h3'
 replace E:=E.step m3 (fun g hg=>by cases hg;omega);replace h1:=h1.mod m3 (fun g hg=>by cases hg;omega);replace h2:=h2.mod m3 (fun g hg=>by cases hg;omega)
 have z6:=m3.size
 refine Qc (Qe (Qg [true,true,false,true,false] Z Z (Qa (Qb fl143_3 Z) Z (Qa (Qk Ks Z (h1.one 3 Z)) Z (Qu Tryz.call110 Z (c_toIntS o1 x.outs _ (hd1.rd.ext E) (by first | omega | (simp only [Qi];omega) | (rw [Qi];done) | (simp only [Qi];done))) Z (fun v1 w7 e4 ho1=>?_))))))
 have g_ho1 : w.heap.size ≤ w6.heap.size:=E.size
 replace E:=E.trans e4;replace h1:=h1.ext e4;replace h2:=h2.ext e4;replace h3:=h3.ext e4
 have z7:=e4.size
 refine Qa (Qb Xk Z) Z (Yh (cs':=[.int .i64 x.kind,.int .i64 x.a,.int .i64 x.b,v1]) Ks Z Z ho1.one h3 (Nat.le_of_ble_eq_true Z) Z (fun w8 m4 h3'=>?_))
 replace h3:=h3'
 replace E:=E.step m4 (fun g hg=>by cases hg;omega);replace h1:=h1.mod m4 (fun g hg=>by cases hg;omega);replace h2:=h2.mod m4 (fun g hg=>by cases hg;omega);replace ho1:=ho1.mod m4 (fun g hg=>by cases hg;omega)
 have z8:=m4.size
 refine Qc (Qe (Qg [true,false] Z Z (Qa (Qy K7 Z h3.at Z) Z (Q6 (cs':=[.int .i64 x.kind,.int .i64 x.a,.int .i64 x.b,v1]) K7 Z Z Z (Qj Z (Qj Z (Qj Z (Qj ho1.one Z)))) h2 (Nat.le_of_ble_eq_true Z) Z (fun w9 m5 h2'=>?_)))))
 replace h2:=h2'
 replace E:=E.step m5 (fun g hg=>by cases hg;omega);replace h1:=h1.mod m5 (fun g hg=>by cases hg;omega);replace h3:=h3.mod m5 (fun g hg=>by cases hg;omega);replace ho1:=ho1.mod m5 (fun g hg=>by cases hg;omega)
 have z9:=m5.size
 refine Qc (Qt (Xu Z Z (Yc K7 h2.at Z) E ?_))
 exact ⟨_,Z,Node.mkO x ⟨trivial,trivial⟩ (Own.widen ho1 (by omega) (by omega))⟩

set_option maxRecDepth 20000 in
theorem c_eqNode (cx : List Value) (x : Node) (cy : List Value) (y : Node) (w : World) (hx : Dat.R w 0 w.heap.size cx x) (hy : Dat.R w 0 w.heap.size cy y) : Ct Tryz.prog 120 [.agg cx.toArray,.agg cy.toArray] w (fun v _=>v = .bool (decide (x = y))):=by
 refine Yi Tryz.func120 Z Tryz.ntmps120 Z ?_
 obtain ⟨o1,rfl,hd1⟩:=Node.op hx
 obtain ⟨o2,rfl,hd2⟩:=Node.op hy
 refine Q7 [(0,.agg [.int .i64 x.kind,.int .i64 x.a,.int .i64 x.b,o1].toArray),(1,.agg [.int .i64 y.kind,.int .i64 y.a,.int .i64 y.b,o2].toArray)] ⟨Z,Z,trivial⟩ ?_
 have E : Ext w w:=Ext.refl w
 refine Qe (Qg [false,false,true] Z Z (Yz Z Z (fun b1 w1 e1 s1 h1=>?_)))
 have g_b1 : w.heap.size ≤ b1:=by have:=E.size;omega
 have y_b1:=h1.lt
 replace E:=E.trans e1
 have z1:=e1.size
 refine Yz Z Z (fun b2 w2 e2 s2 h2=>?_)
 have g_b2 : w.heap.size ≤ b2:=by have:=E.size;omega
 have y_b2:=h2.lt
 replace E:=E.trans e2;replace h1:=h1.ext e2
 have z2:=e2.size
 refine Qa (Qf Z) Z (Qc (Qe (Qe (Qg [true,true,true,true,true] Z Z (Qa (Qb Ke Z) Z (Qa (Qk Yp Z (h1.one 0 Z)) Z (Qa (Qb Ke Z) Z (Qa (Qk Yp Z (h2.one 0 Z)) Z (Qa (Yo Z Z) Z (Qc (Qr Z (fun hc1=>?_) (fun hc1=>?_))))))))))))
 ·refine Qe (Qg [true] Z Z (Qa (Qf Z) Z (Qc (Qt (Ql Z Z E ?_)))))
  cases x;cases y;simp_all
 ·refine Qm (Qe (Qe (Qg [true,true,true,true,true] Z Z (Qa (Qb Ko Z) Z (Qa (Qk Yp Z (h1.one 1 Z)) Z (Qa (Qb Ko Z) Z (Qa (Qk Yp Z (h2.one 1 Z)) Z (Qa (Yo Z Z) Z (Qc (Qr Z (fun hc2=>?_) (fun hc2=>?_)))))))))))
  ·refine Qe (Qg [true] Z Z (Qa (Qf Z) Z (Qc (Qt (Ql Z Z E ?_)))))
   cases x;cases y;simp_all
  ·refine Qm (Qe (Qe (Qg [true,true,true,true,true] Z Z (Qa (Qb Um Z) Z (Qa (Qk Yp Z (h1.one 2 Z)) Z (Qa (Qb Um Z) Z (Qa (Qk Yp Z (h2.one 2 Z)) Z (Qa (Yo Z Z) Z (Qc (Qr Z (fun hc3=>?_) (fun hc3=>?_)))))))))))
   ·refine Qe (Qg [true] Z Z (Qa (Qf Z) Z (Qc (Qt (Ql Z Z E ?_)))))
    cases x;cases y;simp_all
   ·refine Qm (Qe (Qe (Qg [true,true,true,true,false,true] Z Z (Qa (Qb Xk Z) Z (Qa (Qk Ks Z (h1.one 3 Z)) Z (Qa (Qb Xk Z) Z (Qa (Qk Ks Z (h2.one 3 Z)) Z (Qu Tryz.call123 Z (c_eqIntS o1 x.outs o2 y.outs _ (hd1.rd.ext E) (hd2.rd.ext E)) Z (fun _ w3 e3 hv=>?_)))))))))
    subst hv
    replace E:=E.trans e3;replace h1:=h1.ext e3;replace h2:=h2.ext e3
    have z3:=e3.size
    refine Qa (Yt Z) Z (Qc (Qr Z (fun hc4=>?_) (fun hc4=>?_)))
    ·refine Qe (Qg [true] Z Z (Qa (Qf Z) Z (Qc (Qt (Ql Z Z E ?_)))))
     cases x;cases y;simp_all
    ·refine Qm (Qe (Qg [true] Z Z (Qa (Qf Z) Z (Qc (Qt (Ql Z Z E ?_))))))
     cases x;cases y;simp_all

set_option maxRecDepth 20000 in
theorem c_szNodeS (vxs : Value) (xs : List Node) (n : Int) (w : World) (hxs : RdD w 0 w.heap.size vxs xs) (h0 : 0 ≤ n ∧ n ≤ 1048576) : Ct Tryz.prog 53 [vxs,.int .i64 n] w (fun v _=>v = .int .i64 (Uc (Xr Xn xs) n)):=by
 have hlm:=hxs.1.1
 unfold maxLen at hlm
 refine Yi Tryz.func53 Z Tryz.ntmps53 Z ?_
 refine Q7 [(0,vxs),(1,.int .i64 n)] ⟨Z,Z,trivial⟩ ?_
 have E : Ext w w:=Ext.refl w
 refine Qe (Qg [true] Z Z (Qa (Qf Z) Z (Qc (Qe (Qg [true,true,true,true,true] Z Z (Qa (Qd Z) Z (Qa (Qd Z) Z (Qa (Yb Tryz.underlying22 Z (hxs.ext E).len) Z (Qa (Ug Z Z (Kk (by omega) (by omega))) Z (Qa (Qf Z) Z (Qc (Qe (Qe (Qg [true,true] Z Z (Qa (Qd Z) Z (Qa (Yf Z Z) Z (Qc (Qr Z (fun hc1=>?_) (fun hc1=>?_)))))))))))))))))))
 ·refine Qe (Qg [true] Z Z (Qa (Qf Z) Z (Qc (Qt (Ql Z Z E ?_)))))
  exact X5 (by have:=of_decide_eq_true hc1;unfold Xr;omega)
 ·refine Qm (Qe (Qe (Qg [true] Z Z (Qa (Qf Z) Z (Qc (Qw (Yk (fun (xq : Nat × Int)=>let ⟨k,l⟩:=xq;[(0,vxs),(1,.int .i64 l),(4,.int .i64 0),(5,.int .i64 ((k : Nat) : Int))]) (fun (xq : Nat × Int) w'=>let ⟨k,l⟩:=xq;Ext w w' ∧ w.heap.size ≤ w'.heap.size ∧ k ≤ xs.length ∧ 0 ≤ l ∧ l ≤ 1048576 ∧ l = n - ((xs.length : Nat) : Int) - ((((xs.take k).map Xn).sum : Nat) : Int)) (fun (xq : Nat × Int)=>let ⟨k,l⟩:=xq;xs.length - k) (0,n - ((xs.length : Nat) : Int)) ⟨Z,Z,Z,Z,trivial⟩ ⟨E,Nat.le_refl _,Nat.zero_le _,(by have:=of_decide_eq_false hc1;simp;omega)⟩ ?_)))))))
  clear E
  rintro ⟨k,l⟩ w1 ⟨E,z1,hk,hl⟩
  refine Q7 [(0,vxs),(1,.int .i64 l),(4,.int .i64 0),(5,.int .i64 ((k : Nat) : Int))] ⟨Z,Z,Z,Z,trivial⟩ ?_
  refine Qe (Qe (Qg [true,true,true,true] Z Z (Qa (Qd Z) Z (Qa (Qd Z) Z (Qa (Yb Tryz.underlying22 Z (hxs.ext E).len) Z (Qa (Yf Z Z) Z (Qc (Qr Z (fun hc2=>?_) (fun hc2=>?_)))))))))
  ·have hc2n : k < xs.length:=by first | (have h:=of_decide_eq_true hc2;omega) | (have h:=hc2;simp at h;omega)
   refine Qm (Qe (Qw (Qe (Qg [true,true,true,true,true,false,true] Z Z (Qa (Qd Z) Z (Qa (Qd Z) Z ?_))))))
   have hi1 : k < xs.length:=(by first | assumption | omega | (simp only [List.length_set];first | assumption | omega) | (simp only [List.getElem_set_self,List.length_set];first | assumption | omega))
   obtain ⟨_,hr1,ha1⟩:=RdD.get hxs hi1
   obtain ⟨o1,rfl,hd1⟩:=Node.op hr1
   replace ha1 : At w (Y2 vxs) (Y9 vxs + k * 4) [.int .i64 ((xs[k]'hi1).kind),.int .i64 ((xs[k]'hi1).a),.int .i64 ((xs[k]'hi1).b),o1]:=ha1
   refine Qa (Qv (i:=k) sl22 Z Z (hxs.ext E).1 hi1) Z (Qa (Qy st143 Z (ha1.ext E) Z) Z (Qa (Qd Z) Z (Qu Tryz.call93 Z (c_szNode [.int .i64 ((xs[k]'hi1).kind),.int .i64 ((xs[k]'hi1).a),.int .i64 ((xs[k]'hi1).b),o1] (xs[k]'hi1) l _ (Node.mkR (xs[k]'hi1) (RdD.any (hd1.ext E))) (by first | omega | (simp only [Qi];omega) | (rw [Qi];done) | (simp only [Qi];done))) Z (fun _ w2 e1 hv=>?_))))
   subst hv
   replace E:=E.trans e1
   have z2:=e1.size
   refine Qa (Qf Z) Z (Qc (Qe (Qg [true,true] Z Z (Qa (Qd Z) Z (Qa (Yf Z Z) Z (Qc (Qr Z (fun hc3=>?_) (fun hc3=>?_))))))))
   ·have q1:=Ub hc3 (by omega)
    refine Qe (Qg [true] Z Z (Qa (Qf Z) Z (Qc (Qt (Q0 (Yq (Q0 (Ql Z Z E ?_))))))))
    exact X5 (by have:=Vu (f:=Xn) (show k < xs.length by omega);unfold Xr;omega)
   ·have q2:=Ua hc3 (by omega)
    refine Qm (Q5 (Yv (Qg [true,true,true] Z Z (Qa (Qd Z) Z (Qa (Yd Z Z (Yy hc2n (hxs.ext E).1.1)) Z (Qa (Qf Z) Z (Qc (Q5 (Yg (k + 1,Uc (Xn (xs[k]'hi1)) l) (by simp;omega) ⟨Z,Z,Z,Z,trivial⟩ ⟨E,(by omega),(by omega),(by have:=Bf (f:=Xn) (show k < xs.length by omega);omega)⟩)))))))))
  ·have hc2n : ¬ k < xs.length:=by first | (have h:=of_decide_eq_false hc2;omega) | (have h:=hc2;simp at h;omega)
   refine Ym (Q4 (Q2 ?_))
   refine Qe (Qg [true,true] Z Z (Qa (Qd Z) Z (Qa (Qf Z) Z (Qc (Qt (Ql Z Z E ?_))))))
   have:=sum_all (f:=Xn) (show xs.length ≤ k by omega);exact Kl (by unfold Xr;omega) (by unfold Xr;omega)

set_option maxRecDepth 20000 in
theorem c_toNodeS (vxs : Value) (xs : List Node) (w : World) (hxs : RdD w 0 w.heap.size vxs xs) (hb : Xr Xn xs ≤ 1048576) : Ct Tryz.prog 61 [vxs] w (fun v w'=>OwS (α:=Node) w' w.heap.size w'.heap.size v xs):=by
 unfold Xr at hb
 refine Yi Tryz.func61 Z Tryz.ntmps61 Z ?_
 refine Q7 [(0,vxs)] ⟨Z,trivial⟩ ?_
 have E : Ext w w:=Ext.refl w
 refine Qe (Qg [true] Z Z (Qa (Qf Z) Z (Qc (Qe (Qg [true,true,false,true] Z Z (Qa (Qd Z) Z (Qa (Yb Tryz.underlying22 Z (hxs.ext E).len) Z (Hk (m:=xs.length) Gt Z Z (by omega) (by decide) Z (fun b1 w1 e1 s1 h1=>?_)))))))))
 have g_b1 : w.heap.size ≤ b1:=by have:=E.size;omega
 have y_b1:=h1.lt
 replace E:=E.trans e1
 have z1:=e1.size
 refine Qa (Qf Z) Z (Qc (Qe (Qe (Qg [true] Z Z (Qa (Qf Z) Z (Qc (Qw (Yk (fun (xq : Nat × List (List Value))=>let ⟨k,css⟩:=xq;[(0,vxs),(2,.slice none 0 0),(3,.slice (some ⟨b1,0,none⟩) xs.length xs.length),(4,.int .i64 ((k : Nat) : Int))]) (fun (xq : Nat × List (List Value)) w'=>let ⟨k,css⟩:=xq;Ext w w' ∧ w1.heap.size ≤ w'.heap.size ∧ k ≤ xs.length ∧ css.length = k ∧ Blk w' b1 (B6 css [.int .i64 0,.int .i64 0,.int .i64 0,.slice none 0 0] (xs.length - k)) ∧ AllO w' w1.heap.size w'.heap.size css (xs.take k)) (fun (xq : Nat × List (List Value))=>let ⟨k,css⟩:=xq;xs.length - k) (0,[]) ⟨Z,Z,Z,Z,trivial⟩ ⟨E,Nat.le_refl _,Nat.zero_le _,Z,(by simpa [B6] using h1),(by simp [AllO,All2])⟩ ?_))))))))
 clear E h1
 rintro ⟨k,css⟩ w2 ⟨E,z2,hk,hlk,h1,hA⟩
 refine Q7 [(0,vxs),(2,.slice none 0 0),(3,.slice (some ⟨b1,0,none⟩) xs.length xs.length),(4,.int .i64 ((k : Nat) : Int))] ⟨Z,Z,Z,Z,trivial⟩ ?_
 refine Qe (Qe (Qg [true,true,true,true] Z Z (Qa (Qd Z) Z (Qa (Qd Z) Z (Qa (Yb Tryz.underlying22 Z (hxs.ext E).len) Z (Qa (Yf Z Z) Z (Qc (Qr Z (fun hc1=>?_) (fun hc1=>?_)))))))))
 ·have hc1n : k < xs.length:=by first | (have h:=of_decide_eq_true hc1;omega) | (have h:=hc1;simp at h;omega)
  refine Qm (Qe (Qw (Qg [true,true,true,true,true,true,false,true,false] Z Z (Qa (Qd Z) Z (Qa (Qd Z) Z (Qa (Qd Z) Z (Qa (Qd Z) Z ?_)))))))
  have hi1 : k < xs.length:=(by first | assumption | omega | (simp only [List.length_set];first | assumption | omega) | (simp only [List.getElem_set_self,List.length_set];first | assumption | omega))
  obtain ⟨_,hr1,ha1⟩:=RdD.get hxs hi1
  obtain ⟨o1,rfl,hd1⟩:=Node.op hr1
  replace ha1 : At w (Y2 vxs) (Y9 vxs + k * 4) [.int .i64 ((xs[k]'hi1).kind),.int .i64 ((xs[k]'hi1).a),.int .i64 ((xs[k]'hi1).b),o1]:=ha1
  refine Qa (Qv (i:=k) sl22 Z Z (hxs.ext E).1 hi1) Z (Qa (Qy st143 Z (ha1.ext E) Z) Z (Qu Tryz.call107 Z (c_toNode [.int .i64 ((xs[k]'hi1).kind),.int .i64 ((xs[k]'hi1).a),.int .i64 ((xs[k]'hi1).b),o1] (xs[k]'hi1) _ (Node.mkR (xs[k]'hi1) (RdD.any (hd1.ext E))) (by have:=Vu (f:=Xn) (show k < xs.length by omega);omega)) Z (fun _ w3 e2 ho1=>?_)))
  obtain ⟨_,rfl,ho1⟩:=ho1
  have g_ho1 : w.heap.size ≤ w2.heap.size:=E.size
  replace E:=E.trans e2;replace h1:=h1.ext e2;replace hA:=hA.ext e2
  have z3:=e2.size
  obtain ⟨o2,rfl,sp1,hw1⟩:=Node.opO ho1
  refine Qa (Va Gt Z Z (by first | assumption | omega | (simp only [List.length_set];first | assumption | omega) | (simp only [List.getElem_set_self,List.length_set];first | assumption | omega))) Z (Q6 (cs':=B6 (css ++ [[.int .i64 ((xs[k]'hi1).kind),.int .i64 ((xs[k]'hi1).a),.int .i64 ((xs[k]'hi1).b),o2]]) [.int .i64 0,.int .i64 0,.int .i64 0,.slice none 0 0] (xs.length - (k + 1))) K7 Z Z Z (Qj Z (Qj Z (Qj Z (Qj hw1.one Z)))) h1 (C5 hA.d hlk Z hc1n (by rfl)) (Bo hA.d hlk Z hc1n Z) (fun w4 m1 h1'=>?_))
  replace h1:=h1'
  replace E:=E.step m1 (fun g hg=>by cases hg;omega);replace hA:=hA.mod m1 (fun g hg=>by cases hg;omega);replace hw1:=hw1.mod m1 (fun g hg=>by cases hg;omega)
  have z4:=m1.size
  refine Qc (Q5 (Yv (Qg [true,true,true] Z Z (Qa (Qd Z) Z (Qa (Yd Z Z (Yy hc1n (hxs.ext E).1.1)) Z (Qa (Qf Z) Z (Qc (Q5 (Yg (k + 1,css ++ [[.int .i64 ((xs[k]'hi1).kind),.int .i64 ((xs[k]'hi1).a),.int .i64 ((xs[k]'hi1).b),o2]]) (by simp;omega) ⟨Z,Z,Z,Z,trivial⟩ ⟨E,(by omega),(by omega),(by simp [hlk]),h1,(AllO.widen (AllO.step hA hc1n (Node.mkO (xs[k]'hi1) sp1 (Own.widen hw1 (by omega) (by omega))) (Nat.le_refl _) (Nat.le_refl _) (by omega) (by omega)) (Nat.le_refl _) (by omega))⟩)))))))))
 ·have hc1n : ¬ k < xs.length:=by first | (have h:=of_decide_eq_false hc1;omega) | (have h:=hc1;simp at h;omega)
  refine Ym (Q4 (Q2 ?_))
  refine Qe (Qg [true,true] Z Z (Qa (Qd Z) Z (Qa (Qf Z) Z (Qc (Qt (Ql Z Z E ?_))))))
  obtain rfl : k = xs.length:=by omega
  rw [Nat.sub_self,mkc_all] at h1
  rw [List.take_length] at hA
  exact OwS.ofBlk h1 hA (by have:=E.size;omega) (by omega) (by have:=E.size;omega) (by omega) (by omega) Z (by unfold maxLen;omega)

set_option maxRecDepth 20000 in
theorem c_eqNodeS (vxs : Value) (xs : List Node) (vys : Value) (ys : List Node) (w : World) (hxs : RdD w 0 w.heap.size vxs xs) (hys : RdD w 0 w.heap.size vys ys) : Ct Tryz.prog 72 [vxs,vys] w (fun v _=>v = .bool (decide (xs = ys))):=by
 refine Yi Tryz.func72 Z Tryz.ntmps72 Z ?_
 refine Q7 [(0,vxs),(1,vys)] ⟨Z,Z,trivial⟩ ?_
 have E : Ext w w:=Ext.refl w
 refine Qe (Qg [true] Z Z (Qa (Qf Z) Z (Qc (Qe (Qe (Qg [true,true,true,true,true] Z Z (Qa (Qd Z) Z (Qa (Yb Tryz.underlying32 Z (hxs.ext E).len) Z (Qa (Qd Z) Z (Qa (Yb Tryz.underlying32 Z (hys.ext E).len) Z (Qa (Yo Z Z) Z (Qc (Qr Z (fun hc1=>?_) (fun hc1=>?_))))))))))))))
 ·have hc1n : ¬ xs.length = ys.length:=by first | (have h:=of_decide_eq_true hc1;omega) | (have h:=hc1;simp at h;omega)
  refine Qe (Qg [true] Z Z (Qa (Qf Z) Z (Qc (Qt (Ql Z Z E ?_)))))
  simp [Hg hc1n]
 ·have hc1n : xs.length = ys.length:=by first | (have h:=of_decide_eq_false hc1;omega) | (have h:=hc1;simp at h;omega)
  refine Qm (Qe (Qe (Qg [true] Z Z (Qa (Qf Z) Z (Qc (Qw (Yk (fun (k : Nat)=>[(0,vxs),(1,vys),(4,.bool false),(5,.int .i64 ((k : Nat) : Int))]) (fun (k : Nat) w'=>Ext w w' ∧ w.heap.size ≤ w'.heap.size ∧ k ≤ xs.length ∧ xs.take k = ys.take k) (fun (k : Nat)=>xs.length - k) 0 ⟨Z,Z,Z,Z,trivial⟩ ⟨E,Nat.le_refl _,Nat.zero_le _,Z⟩ ?_)))))))
  clear E
  rintro k w1 ⟨E,z1,hk,hp⟩
  refine Qe (Qe (Qg [true,true,true,true] Z Z (Qa (Qd Z) Z (Qa (Qd Z) Z (Qa (Yb Tryz.underlying32 Z (hxs.ext E).len) Z (Qa (Yf Z Z) Z (Qc (Qr Z (fun hc2=>?_) (fun hc2=>?_)))))))))
  ·have hc2n : k < xs.length:=by first | (have h:=of_decide_eq_true hc2;omega) | (have h:=hc2;simp at h;omega)
   refine Qm (Qe (Qw (Qe (Xw Xp [(0,true),(1,true),(2,true),(3,true),(4,true),(5,true),(6,true),(7,true),(8,false),(9,true)] (by decide +kernel) Z (fun w2 e1=>?_)))))
   replace E:=E.trans e1
   have z2:=e1.size
   refine Qa (Qd Z) Z (Qa (Qd Z) Z ?_)
   have hi1 : k < xs.length:=(by first | assumption | omega | (simp only [List.length_set];first | assumption | omega) | (simp only [List.getElem_set_self,List.length_set];first | assumption | omega))
   obtain ⟨_,hr1,ha1⟩:=RdD.get hxs hi1
   obtain ⟨o1,rfl,hd1⟩:=Node.op hr1
   replace ha1 : At w (Y2 vxs) (Y9 vxs + k * 4) [.int .i64 ((xs[k]'hi1).kind),.int .i64 ((xs[k]'hi1).a),.int .i64 ((xs[k]'hi1).b),o1]:=ha1
   refine Qa (Qv (i:=k) Gt Z Z (hxs.ext E).1 hi1) Z (Qa (Qy K7 Z (ha1.ext E) Z) Z (Qa (Qd Z) Z (Qa (Qd Z) Z ?_)))
   have hi2 : k < ys.length:=(by first | assumption | omega | (simp only [List.length_set];first | assumption | omega) | (simp only [List.getElem_set_self,List.length_set];first | assumption | omega))
   obtain ⟨_,hr2,ha2⟩:=RdD.get hys hi2
   obtain ⟨o2,rfl,hd2⟩:=Node.op hr2
   replace ha2 : At w (Y2 vys) (Y9 vys + k * 4) [.int .i64 ((ys[k]'hi2).kind),.int .i64 ((ys[k]'hi2).a),.int .i64 ((ys[k]'hi2).b),o2]:=ha2
   refine Qa (Qv (i:=k) Gt Z Z (hys.ext E).1 hi2) Z (Qa (Qy K7 Z (ha2.ext E) Z) Z (Qu Tryz.call120 Z (c_eqNode [.int .i64 ((xs[k]'hi1).kind),.int .i64 ((xs[k]'hi1).a),.int .i64 ((xs[k]'hi1).b),o1] (xs[k]'hi1) [.int .i64 ((ys[k]'hi2).kind),.int .i64 ((ys[k]'hi2).a),.int .i64 ((ys[k]'hi2).b),o2] (ys[k]'hi2) _ (Node.mkR (xs[k]'hi1) (RdD.any (hd1.ext E))) (Node.mkR (ys[k]'hi2) (RdD.any (hd2.ext E)))) Z (fun _ w3 e2 hv=>?_)))
   subst hv
   replace E:=E.trans e2
   have z3:=e2.size
   refine Qa (Yt Z) Z (Qc (Qr Z (fun hc3=>?_) (fun hc3=>?_)))
   ·refine Qe (Qg [true] Z Z (Qa (Qf Z) Z (Qc (Qt (Q0 (Yq (Q0 (Ql Z Z E ?_))))))))
    exact Hh (by omega) (by omega) (by simpa using hc3)
   ·refine Qm (Q5 (Yv (Qg [true,true,true] Z Z (Qa (Qd Z) Z (Qa (Yd Z Z (Yy hc2n (hxs.ext E).1.1)) Z (Qa (Qf Z) Z (Qc (Q5 (Yg (k + 1) (by omega) ⟨Z,Z,Z,Z,trivial⟩ ⟨E,(by omega),(by omega),U9 hp (by assumption) (by omega) (by simpa using hc3)⟩)))))))))
  ·have hc2n : ¬ k < xs.length:=by first | (have h:=of_decide_eq_false hc2;omega) | (have h:=hc2;simp at h;omega)
   refine Ym (Q4 (Q2 ?_))
   refine Qe (Qg [true] Z Z (Qa (Qf Z) Z (Qc (Qt (Ql Z Z E ?_)))))
   exact V2 hp hc1n (by omega)

set_option maxRecDepth 20000 in
theorem c_szGraph (cx : List Value) (x : Graph) (n : Int) (w : World) (hx : Dat.R w 0 w.heap.size cx x) (h0 : 0 ≤ n ∧ n ≤ 1048576) : Ct Tryz.prog 14 [.agg cx.toArray,.int .i64 n] w (fun v _=>v = .int .i64 (Uc (Y7 x) n)):=by
 refine Yi Tryz.func14 Z Tryz.ntmps14 Z ?_
 obtain ⟨o1,rfl,hd1⟩:=Graph.op hx
 refine Q7 [(0,.agg [o1,.int .i64 x.workers,.int .i64 x.cap].toArray),(1,.int .i64 n)] ⟨Z,Z,trivial⟩ ?_
 have E : Ext w w:=Ext.refl w
 refine Qe (Qg [false,true] Z Z (Yz Z Z (fun b1 w1 e1 s1 h1=>?_)))
 have g_b1 : w.heap.size ≤ b1:=by have:=E.size;omega
 have y_b1:=h1.lt
 replace E:=E.trans e1
 have z1:=e1.size
 refine Qa (Qf Z) Z (Qc (Qe (Qg [true,true,true,false,true] Z Z (Qa (Qb fl24_0 Z) Z (Qa (Qk sc22 Z (h1.one 0 Z)) Z (Qa (Qd Z) Z (Qu Tryz.call53 Z (c_szNodeS o1 x.nodes n _ (RdD.any (hd1.ext E)) (by first | omega | (simp only [Qi];omega) | (rw [Qi];done) | (simp only [Qi];done))) Z (fun _ w2 e2 hv=>?_))))))))
 subst hv
 replace E:=E.trans e2;replace h1:=h1.ext e2
 have z2:=e2.size
 refine Qa (Qf Z) Z (Qc (Qe (Qe (Qg [true,true] Z Z (Qa (Qd Z) Z (Qa (Yf Z Z) Z (Qc (Qr Z (fun hc1=>?_) (fun hc1=>?_)))))))))
 ·have q1:=Ub hc1 (by omega)
  refine Qe (Qg [true] Z Z (Qa (Qf Z) Z (Qc (Qt (Ql Z Z E ?_)))))
  first | exact X5 (by unfold Y7;omega) | exact Kl (by unfold Y7;omega) (by unfold Y7;omega)
 ·have q2:=Ua hc1 (by omega)
  refine Qm (Qe (Qg [true,true] Z Z (Qa (Qd Z) Z (Qa (Qf Z) Z (Qc (Qt (Ql Z Z E ?_)))))))
  first | exact X5 (by unfold Y7;omega) | exact Kl (by unfold Y7;omega) (by unfold Y7;omega)

set_option maxRecDepth 20000 in
theorem c_eqGraph (cx : List Value) (x : Graph) (cy : List Value) (y : Graph) (w : World) (hx : Dat.R w 0 w.heap.size cx x) (hy : Dat.R w 0 w.heap.size cy y) : Ct Tryz.prog 30 [.agg cx.toArray,.agg cy.toArray] w (fun v _=>v = .bool (decide (x = y))):=by
 refine Yi Tryz.func30 Z Tryz.ntmps30 Z ?_
 obtain ⟨o1,rfl,hd1⟩:=Graph.op hx
 obtain ⟨o2,rfl,hd2⟩:=Graph.op hy
 refine Q7 [(0,.agg [o1,.int .i64 x.workers,.int .i64 x.cap].toArray),(1,.agg [o2,.int .i64 y.workers,.int .i64 y.cap].toArray)] ⟨Z,Z,trivial⟩ ?_
 have E : Ext w w:=Ext.refl w
 refine Qe (Qg [false,false,true] Z Z (Yz Z Z (fun b1 w1 e1 s1 h1=>?_)))
 have g_b1 : w.heap.size ≤ b1:=by have:=E.size;omega
 have y_b1:=h1.lt
 replace E:=E.trans e1
 have z1:=e1.size
 refine Yz Z Z (fun b2 w2 e2 s2 h2=>?_)
 have g_b2 : w.heap.size ≤ b2:=by have:=E.size;omega
 have y_b2:=h2.lt
 replace E:=E.trans e2;replace h1:=h1.ext e2
 have z2:=e2.size
 refine Qa (Qf Z) Z (Qc (Qe (Qe (Qg [true,true,true,true,false,true] Z Z (Qa (Qb Kn Z) Z (Qa (Qk Ge Z (h1.one 0 Z)) Z (Qa (Qb Kn Z) Z (Qa (Qk Ge Z (h2.one 0 Z)) Z (Qu Tryz.call72 Z (c_eqNodeS o1 x.nodes o2 y.nodes _ (RdD.any (hd1.ext E)) (RdD.any (hd2.ext E))) Z (fun _ w3 e3 hv=>?_))))))))))
 subst hv
 replace E:=E.trans e3;replace h1:=h1.ext e3;replace h2:=h2.ext e3
 have z3:=e3.size
 refine Qa (Yt Z) Z (Qc (Qr Z (fun hc1=>?_) (fun hc1=>?_)))
 ·refine Qe (Qg [true] Z Z (Qa (Qf Z) Z (Qc (Qt (Ql Z Z E ?_)))))
  cases x;cases y;simp_all
 ·refine Qm (Qe (Qe (Qg [true,true,true,true,true] Z Z (Qa (Qb Vn Z) Z (Qa (Qk Yp Z (h1.one 1 Z)) Z (Qa (Qb Vn Z) Z (Qa (Qk Yp Z (h2.one 1 Z)) Z (Qa (Yo Z Z) Z (Qc (Qr Z (fun hc2=>?_) (fun hc2=>?_)))))))))))
  ·refine Qe (Qg [true] Z Z (Qa (Qf Z) Z (Qc (Qt (Ql Z Z E ?_)))))
   cases x;cases y;simp_all
  ·refine Qm (Qe (Qe (Qg [true,true,true,true,true] Z Z (Qa (Qb T1 Z) Z (Qa (Qk Yp Z (h1.one 2 Z)) Z (Qa (Qb T1 Z) Z (Qa (Qk Yp Z (h2.one 2 Z)) Z (Qa (Yo Z Z) Z (Qc (Qr Z (fun hc3=>?_) (fun hc3=>?_)))))))))))
   ·refine Qe (Qg [true] Z Z (Qa (Qf Z) Z (Qc (Qt (Ql Z Z E ?_)))))
    cases x;cases y;simp_all
   ·refine Qm (Qe (Qg [true] Z Z (Qa (Qf Z) Z (Qc (Qt (Ql Z Z E ?_))))))
    cases x;cases y;simp_all

set_option maxRecDepth 20000 in
theorem c_toGraph (cx : List Value) (x : Graph) (w : World) (hx : Dat.R w 0 w.heap.size cx x) (hb : Y7 x ≤ 1048576) : Ct Tryz.prog 21 [.agg cx.toArray] w (fun v w'=>∃ o,v = .agg [o,.int .i64 x.workers,.int .i64 x.cap].toArray ∧ OwS w' w.heap.size w'.heap.size o x.nodes):=by
 unfold Y7 at hb
 refine Yi Tryz.func21 Z Tryz.ntmps21 Z ?_
 obtain ⟨o1,rfl,hd1⟩:=Graph.op hx
 refine Q7 [(0,.agg [o1,.int .i64 x.workers,.int .i64 x.cap].toArray)] ⟨Z,trivial⟩ ?_
 have E : Ext w w:=Ext.refl w
 refine Qe (Qg [false,false] Z Z (Yz Z Z (fun b1 w1 e1 s1 h1=>?_)))
 have g_b1 : w.heap.size ≤ b1:=by have:=E.size;omega
 have y_b1:=h1.lt
 replace E:=E.trans e1
 have z1:=e1.size
 refine Yj Uh Z (fun b2 w2 e2 s2 h2=>?_)
 have g_b2 : w.heap.size ≤ b2:=by have:=E.size;omega
 have y_b2:=h2.lt
 replace E:=E.trans e2;replace h1:=h1.ext e2
 have z2:=e2.size
 refine Qc (Qe (Qg [false] Z Z (Yj Uh Z (fun b3 w3 e3 s3 h3=>?_))))
 have g_b3 : w.heap.size ≤ b3:=by have:=E.size;omega
 have y_b3:=h3.lt
 replace E:=E.trans e3;replace h1:=h1.ext e3;replace h2:=h2.ext e3
 have z3:=e3.size
 refine Qc (Qe (Qg [true,true,false,true,false] Z Z (Qa (Qb fl24_0 Z) Z (Qa (Qk sc22 Z (h1.one 0 Z)) Z (Qu Tryz.call61 Z (c_toNodeS o1 x.nodes _ (RdD.any (hd1.ext E)) (by first | omega | (simp only [Qi];omega) | (rw [Qi];done) | (simp only [Qi];done))) Z (fun v1 w4 e4 ho1=>?_))))))
 have g_ho1 : w.heap.size ≤ w3.heap.size:=E.size
 replace E:=E.trans e4;replace h1:=h1.ext e4;replace h2:=h2.ext e4;replace h3:=h3.ext e4
 have z4:=e4.size
 refine Qa (Qb Kn Z) Z (Yh (cs':=[v1,.int .i64 0,.int .i64 0]) Ge Z Z (RdD.one (OwS.rd ho1)) h3 (Nat.le_of_ble_eq_true Z) Z (fun w5 m1 h3'=>?_))
 replace h3:=h3'
 replace E:=E.step m1 (fun g hg=>by cases hg;omega);replace h1:=h1.mod m1 (fun g hg=>by cases hg;omega);replace h2:=h2.mod m1 (fun g hg=>by cases hg;omega);replace ho1:=ho1.mod m1 (fun g hg=>by cases hg;omega)
 have z5:=m1.size
 refine Qc (Qe (Qg [true,true,true,false] Z Z (Qa (Qb fl24_1 Z) Z (Qa (Qk Yp Z (h1.one 1 Z)) Z (Qa (Qb Vn Z) Z (Yh (cs':=[v1,.int .i64 x.workers,.int .i64 0]) Yp Z Z Z h3 (Nat.le_of_ble_eq_true Z) Z (fun w6 m2 h3'=>?_)))))))
 replace h3:=h3'
 replace E:=E.step m2 (fun g hg=>by cases hg;omega);replace h1:=h1.mod m2 (fun g hg=>by cases hg;omega);replace h2:=h2.mod m2 (fun g hg=>by cases hg;omega);replace ho1:=ho1.mod m2 (fun g hg=>by cases hg;omega)
 have z6:=m2.size
 refine Qc (Qe (Qg [true,true,true,false] Z Z (Qa (Qb fl24_2 Z) Z (Qa (Qk Yp Z (h1.one 2 Z)) Z (Qa (Qb T1 Z) Z (Yh (cs':=[v1,.int .i64 x.workers,.int .i64 x.cap]) Yp Z Z Z h3 (Nat.le_of_ble_eq_true Z) Z (fun w7 m3 h3'=>?_)))))))
 replace h3:=h3'
 replace E:=E.step m3 (fun g hg=>by cases hg;omega);replace h1:=h1.mod m3 (fun g hg=>by cases hg;omega);replace h2:=h2.mod m3 (fun g hg=>by cases hg;omega);replace ho1:=ho1.mod m3 (fun g hg=>by cases hg;omega)
 have z7:=m3.size
 refine Qc (Qe (Qg [true,false] Z Z (Qa (Qy Uh Z h3.at Z) Z (Q6 (cs':=[v1,.int .i64 x.workers,.int .i64 x.cap]) Uh Z Z Z (Qj (RdD.one (OwS.rd ho1)) (Qj Z (Qj Z Z))) h2 (Nat.le_of_ble_eq_true Z) Z (fun w8 m4 h2'=>?_)))))
 replace h2:=h2'
 replace E:=E.step m4 (fun g hg=>by cases hg;omega);replace h1:=h1.mod m4 (fun g hg=>by cases hg;omega);replace h3:=h3.mod m4 (fun g hg=>by cases hg;omega);replace ho1:=ho1.mod m4 (fun g hg=>by cases hg;omega)
 have z8:=m4.size
 refine Qc (Qt (Xu Z Z (Yc Uh h2.at Z) E ?_))
 exact ⟨_,Z,OwS.widen ho1 (by have:=E.size;omega) (by omega)⟩

set_option maxRecDepth 20000 in
theorem s_l01In (x : Int) (lo : Int) (hi : Int) (w : World)  : Ct Tryz.prog 106 [.int .i64 x,.int .i64 lo,.int .i64 hi] w (fun v _=>v = .bool (Yr x lo hi)):=by
 refine Yi Tryz.func106 Z Tryz.ntmps106 Z ?_
 refine Q7 [(0,.int .i64 x),(1,.int .i64 lo),(2,.int .i64 hi)] ⟨Z,Z,Z,trivial⟩ ?_
 have E : Ext w w:=Ext.refl w
 refine Qe (Qg [true] Z Z (Qa (Qf Z) Z (Qc (Qe (Qg [true,true,true,true,true,true,true,true,true] Z Z (Qa (Qd Z) Z (Qa (Qd Z) Z (Qa (T4 Z Z) Z (Qa (Qd Z) Z (Xd 4 [(0,.int .i64 x),(1,.int .i64 lo),(2,.int .i64 hi),(6,.bool false),(14,.bool ((decide (lo ≤ x)) && (decide (x ≤ hi))))] (fun w'=>w = w') ?_ ?_))))))))))
 ·refine Y1 (gd:=10) Z Z (fun hg1=>?_) (fun hg1=>?_)
  ·refine Qn Z Z (Qd Z) Z (Qn Z Z (Qd Z) Z (Qn Z Z (Dk Z Z) Z (Qa (Qx Z Z) Z (Qq ⟨Z,Z,Z,Z,congrArg (fun b=>some (Value.bool b)) (show (decide (x ≤ hi)) = ((decide (lo ≤ x)) && (decide (x ≤ hi))) by first | (rw [hg1] <;> rfl) | (simp [hg1];done) | (simp only [Qp] <;> simp)),trivial⟩ Z))))
  ·refine Qh Z Z Z Z (Qh Z Z Z Z (Qh Z Z Z Z (Qa (Q1 Z Z) Z (Qq ⟨Z,Z,Z,Z,congrArg (fun b=>some (Value.bool b)) (show false = ((decide (lo ≤ x)) && (decide (x ≤ hi))) by first | (rw [hg1] <;> rfl) | (simp [hg1];done) | (simp only [Qp] <;> simp)),trivial⟩ Z))))
 rintro _ rfl
 refine Qa (Qf Z) Z (Qc (Qt (Ql Z Z E ?_)))
 rfl

set_option maxRecDepth 20000 in
theorem c_within (x : Int) (lo : Int) (hi : Int) (w : World)  : Ct Tryz.prog 71 [.int .i64 x,.int .i64 lo,.int .i64 hi] w (fun v _=>v = .bool (Yr x lo hi)):=by
 refine Yi Tryz.func71 Z Tryz.ntmps71 Z ?_
 refine Q7 [(0,.int .i64 x),(1,.int .i64 lo),(2,.int .i64 hi)] ⟨Z,Z,Z,trivial⟩ ?_
 have E : Ext w w:=Ext.refl w
 refine Qe (Qg [true] Z Z (Qa (Qf Z) Z (Qc (Qe (Qg [true,true,true,true,true,true,true,true,true] Z Z (Qa (Qd Z) Z (Qa (Qd Z) Z (Qa (T4 Z Z) Z (Qa (Qd Z) Z (Xd 4 [(0,.int .i64 x),(1,.int .i64 lo),(2,.int .i64 hi),(6,.bool false),(14,.bool ((decide (lo ≤ x)) && (decide (x ≤ hi))))] (fun w'=>w = w') ?_ ?_))))))))))
 ·refine Y1 (gd:=10) Z Z (fun hg1=>?_) (fun hg1=>?_)
  ·refine Qn Z Z (Qd Z) Z (Qn Z Z (Qd Z) Z (Qn Z Z (Dk Z Z) Z (Qa (Qx Z Z) Z (Qq ⟨Z,Z,Z,Z,congrArg (fun b=>some (Value.bool b)) (show (decide (x ≤ hi)) = ((decide (lo ≤ x)) && (decide (x ≤ hi))) by first | (rw [hg1] <;> rfl) | (simp [hg1];done) | (simp only [Qp] <;> simp)),trivial⟩ Z))))
  ·refine Qh Z Z Z Z (Qh Z Z Z Z (Qh Z Z Z Z (Qa (Q1 Z Z) Z (Qq ⟨Z,Z,Z,Z,congrArg (fun b=>some (Value.bool b)) (show false = ((decide (lo ≤ x)) && (decide (x ≤ hi))) by first | (rw [hg1] <;> rfl) | (simp [hg1];done) | (simp only [Qp] <;> simp)),trivial⟩ Z))))
 rintro _ rfl
 refine Qa (Qf Z) Z (Qc (Qt (Ql Z Z E ?_)))
 rfl

set_option maxRecDepth 20000 in
theorem c_LinkPlace (cg : List Value) (g : Graph) (a : Int) (b : Int) (w : World) (hg : Dat.R w 0 w.heap.size cg g) : Ct Tryz.prog 50 [.agg cg.toArray,.int .i64 a,.int .i64 b] w (fun v _=>v = .int .i64 (Qz g a b)):=by
 refine Yi Tryz.func50 Z Tryz.ntmps50 Z ?_
 obtain ⟨o1,rfl,hd1⟩:=Graph.op hg
 refine Q7 [(0,.agg [o1,.int .i64 g.workers,.int .i64 g.cap].toArray),(1,.int .i64 a),(2,.int .i64 b)] ⟨Z,Z,Z,trivial⟩ ?_
 have E : Ext w w:=Ext.refl w
 refine Qe (Qg [false,true] Z Z (Yz Z Z (fun b1 w1 e1 s1 h1=>?_)))
 have g_b1 : w.heap.size ≤ b1:=by have:=E.size;omega
 have y_b1:=h1.lt
 replace E:=E.trans e1
 have z1:=e1.size
 refine Qa (Qf Z) Z (Qc (Qe (Qe (Qg [true,true,true,true,true,true,true,true,true,true,true,true] Z Z (Qa (Qd Z) Z (Qa (Qd Z) Z (Qa (R_min Z Z) Z (Qa (Yf Z Z) Z (Qa (Qd Z) Z (Xd 7 [(0,.agg [o1,.int .i64 g.workers,.int .i64 g.cap].toArray),(1,.int .i64 a),(2,.int .i64 b),(3,.pointer (some ⟨b1,0,none⟩)),(6,.int .i64 0),(18,.bool ((decide ((if b < a then b else a) < 0)) || (decide (g.workers ≤ (if b > a then b else a)))))] (fun w'=>w1 = w') ?_ ?_))))))))))
 ·refine Y1 (gd:=11) Z Z (fun hg1=>?_) (fun hg1=>?_)
  ·refine Qh Z Z Z Z (Qh Z Z Z Z (Qh Z Z Z Z (Qh Z Z Z Z (Qh Z Z Z Z (Qh Z Z Z Z (Qa (Qx Z Z) Z (Qq ⟨Z,Z,Z,Z,Z,congrArg (fun b=>some (Value.bool b)) (show true = ((decide ((if b < a then b else a) < 0)) || (decide (g.workers ≤ (if b > a then b else a)))) by first | (rw [hg1] <;> rfl) | (simp [hg1];done) | (simp only [Qp] <;> simp)),trivial⟩ Z)))))))
  ·refine Qn Z Z (Qd Z) Z (Qn Z Z (Qd Z) Z (Qn Z Z (R_max Z Z) Z (Qn Z Z (Qb Vn Z) Z (Qn Z Z (Qk Yp Z (h1.one 1 Z)) Z (Qn Z Z (T4 Z Z) Z (Qa (Q1 Z Z) Z (Qq ⟨Z,Z,Z,Z,Z,congrArg (fun b=>some (Value.bool b)) (show (decide (g.workers ≤ (if b > a then b else a))) = ((decide ((if b < a then b else a) < 0)) || (decide (g.workers ≤ (if b > a then b else a)))) by first | (rw [hg1] <;> rfl) | (simp [hg1];done) | (simp only [Qp] <;> simp)),trivial⟩ Z)))))))
 rintro _ rfl
 refine Qc (Qr Z (fun hc1=>?_) (fun hc1=>?_))
 ·refine Qe (Qg [true] Z Z (Qa (Qf Z) Z (Qc (Qt (Ql Z Z E ?_)))))
  exact link_a hc1
 ·refine Qm (Qe (Qg [true,true,true,true,true,true,true] Z Z (Qa (Qd Z) Z (Qa (Qb Vn Z) Z (Qa (Qk Yp Z (h1.one 1 Z)) Z (Qa (R_mul Z Z Z) Z (Qa (Qd Z) Z (Qa (Yd Z Z Z) Z (Qa (Qf Z) Z (Qc (Qt (Ql Z Z E ?_))))))))))))
  exact link_b hc1

set_option maxRecDepth 20000 in
theorem s_LinkPlace (cg : List Value) (g : Graph) (a : Int) (b : Int) (w : World) (hg : Dat.R w 0 w.heap.size cg g) (hw : rg g.workers) : Ct Tryz.prog 58 [.agg cg.toArray,.int .i64 a,.int .i64 b] w (fun v _=>v = .int .i64 (Qz g a b)):=by
 refine Yi Tryz.func58 Z Tryz.ntmps58 Z ?_
 obtain ⟨o1,rfl,hd1⟩:=Graph.op hg
 refine Q7 [(0,.agg [o1,.int .i64 g.workers,.int .i64 g.cap].toArray),(1,.int .i64 a),(2,.int .i64 b)] ⟨Z,Z,Z,trivial⟩ ?_
 have E : Ext w w:=Ext.refl w
 refine Qe (Qg [false,true] Z Z (Yz Z Z (fun b1 w1 e1 s1 h1=>?_)))
 have g_b1 : w.heap.size ≤ b1:=by have:=E.size;omega
 have y_b1:=h1.lt
 replace E:=E.trans e1
 have z1:=e1.size
 refine Qa (Qf Z) Z (Qc (Qe (Qe (Qg [true,true,true,true,false,true,true,true,true,true,true,false,true,true,true,true,true,true,true] Z Z (Qa (Qd Z) Z (Qa (Qb Vn Z) Z (Qa (Qk Yp Z (h1.one 1 Z)) Z (Qa (Ug Z Z Z) Z (Qu Tryz.call106 Z (s_l01In a 0 (IntKind.i64.wrap (g.workers - 1)) _ ) Z (fun _ w2 e2 hv=>?_))))))))))
 subst hv
 replace E:=E.trans e2;replace h1:=h1.ext e2
 have z2:=e2.size
 refine Qa (Yt Z) Z (Qa (Qd Z) Z (Xd 12 [(0,.agg [o1,.int .i64 g.workers,.int .i64 g.cap].toArray),(1,.int .i64 a),(2,.int .i64 b),(3,.pointer (some ⟨b1,0,none⟩)),(6,.int .i64 0),(25,.bool (((!(Yr a 0 (IntKind.i64.wrap (g.workers - 1)))) || (!(Yr b 0 (IntKind.i64.wrap (g.workers - 1))))) || (decide (g.workers < 1))))] (fun w'=>Ext w w' ∧ w2.heap.size ≤ w'.heap.size ∧ Blk w' b1 ([o1,.int .i64 g.workers,.int .i64 g.cap])) ?_ ?_))
 ·refine Y1 (gd:=13) Z Z (fun hg1=>?_) (fun hg1=>?_)
  ·refine Qh Z Z Z Z (Qh Z Z Z Z (Qh Z Z Z Z (Qh Z Z Z Z ?_)))
   refine Yw Z Z Z Z ?_
   refine Qh Z Z Z Z (Qa (Qx Z Z) Z (Qa (Qd Z) Z (Qh Z Z Z Z (Qh Z Z Z Z (Qh Z Z Z Z (Qa (Qx Z Z) Z (Qq ⟨Z,Z,Z,Z,Z,congrArg (fun b=>some (Value.bool b)) (show true = (((!(Yr a 0 (IntKind.i64.wrap (g.workers - 1)))) || (!(Yr b 0 (IntKind.i64.wrap (g.workers - 1))))) || (decide (g.workers < 1))) by first | (rw [hg1] <;> rfl) | (simp [hg1];done) | (simp only [Qp] <;> simp)),trivial⟩ ⟨E,(by omega),h1⟩)))))))
  ·refine Qn Z Z (Qd Z) Z (Qn Z Z (Qb Vn Z) Z (Qn Z Z (Qk Yp Z (h1.one 1 Z)) Z (Qn Z Z (Ug Z Z Z) Z ?_)))
   refine X4 Z Z ?_
   refine Qu Tryz.call106 Z (s_l01In b 0 (IntKind.i64.wrap (g.workers - 1)) _ ) Z (fun _ w4 e3 hv=>?_)
   subst hv
   replace E:=E.trans e3;replace h1:=h1.ext e3
   have z3:=e3.size
   refine Qn Z Z (Yt Z) Z (Qa (Q1 Z Z) Z (Qa (Qd Z) Z ?_))
   refine Y1 (gd:=21) Z Z (fun hg2=>?_) (fun hg2=>?_)
   ·refine Qh Z Z Z Z (Qh Z Z Z Z (Qh Z Z Z Z (Qa (Qx Z Z) Z (Qq ⟨Z,Z,Z,Z,Z,congrArg (fun b=>some (Value.bool b)) (show true = (((!(Yr a 0 (IntKind.i64.wrap (g.workers - 1)))) || (!(Yr b 0 (IntKind.i64.wrap (g.workers - 1))))) || (decide (g.workers < 1))) by first | (rw [hg1,hg2] <;> rfl) | (simp [hg1,hg2];done) | (simp only [Qp] <;> simp)),trivial⟩ ⟨E,(by omega),h1⟩))))
   ·refine Qn Z Z (Qb Vn Z) Z (Qn Z Z (Qk Yp Z (h1.one 1 Z)) Z (Qn Z Z (Yf Z Z) Z (Qa (Q1 Z Z) Z (Qq ⟨Z,Z,Z,Z,Z,congrArg (fun b=>some (Value.bool b)) (show (decide (g.workers < 1)) = (((!(Yr a 0 (IntKind.i64.wrap (g.workers - 1)))) || (!(Yr b 0 (IntKind.i64.wrap (g.workers - 1))))) || (decide (g.workers < 1))) by first | (rw [hg1,hg2] <;> rfl) | (simp [hg1,hg2];done) | (simp only [Qp] <;> simp)),trivial⟩ ⟨E,(by omega),h1⟩))))
 clear E h1
 rintro w3 ⟨E,z4,h1⟩
 refine Qc (Qr Z (fun hc1=>?_) (fun hc1=>?_))
 ·refine Qe (Qg [true] Z Z (Qa (Qf Z) Z (Qc (Qt (Ql Z Z E ?_)))))
  exact link_c hw hc1
 ·refine Qm (Qe (Qg [true,true,true,true,true,true,true] Z Z (Qa (Qd Z) Z (Qa (Qb Vn Z) Z (Qa (Qk Yp Z (h1.one 1 Z)) Z (Qa (R_mul Z Z Z) Z (Qa (Qd Z) Z (Qa (Yd Z Z Z) Z (Qa (Qf Z) Z (Qc (Qt (Ql Z Z E ?_))))))))))))
  exact link_d hw hc1

set_option maxHeartbeats 4000000 in
set_option maxRecDepth 20000 in
theorem c_NodeOk (cx : List Value) (x : Node) (w : World) (hx : Dat.R w 0 w.heap.size cx x) : Ct Tryz.prog 134 [.agg cx.toArray] w (fun v _=>v = .bool (X6 x)):=by
 refine Yi Tryz.func134 Z Tryz.ntmps134 Z ?_
 obtain ⟨o1,rfl,hd1⟩:=Node.op hx
 refine Q7 [(0,.agg [.int .i64 x.kind,.int .i64 x.a,.int .i64 x.b,o1].toArray)] ⟨Z,trivial⟩ ?_
 have E : Ext w w:=Ext.refl w
 refine Qe (Qg [false,true] Z Z (Yz Z Z (fun b1 w1 e1 s1 h1=>?_)))
 have g_b1 : w.heap.size ≤ b1:=by have:=E.size;omega
 have y_b1:=h1.lt
 replace E:=E.trans e1
 have z1:=e1.size
 refine Qa (Qf Z) Z (Qc (Qe (Qe (Qg [true,true] Z Z (Qa (Qb Ke Z) Z (Qa (Qk Yp Z (h1.one 0 Z)) Z (Qc (S_cutG (fun (_ : Unit)=>[(1,.pointer (some ⟨b1,0,none⟩)),(2,.bool false)]) (fun (_ : Unit) w'=>Ext w w' ∧ w1.heap.size ≤ w'.heap.size ∧ Blk w' b1 ([.int .i64 x.kind,.int .i64 x.a,.int .i64 x.b,o1]) ∧ Ut x = true) ?_ ?_))))))))
 ·refine Qw (Qe (Qg [true,true] Z Z (Qa (Xg Z Z) Z (Qa (Qf Z) Z (Qc (Qr Z (fun hc1=>?_) (fun hc1=>?_)))))))
  ·refine Qe (Qg [true,true,false,true,true,true,true,true,true] Z Z (Qa (Qb Ko Z) Z (Qa (Qk Yp Z (h1.one 1 Z)) Z (Qu Tryz.call71 Z (c_within x.a 0 999 _ ) Z (fun _ w2 e2 hv=>?_)))))
   subst hv
   replace E:=E.trans e2;replace h1:=h1.ext e2
   have z3:=e2.size
   refine Qa (Yt Z) Z (Qa (Qd Z) Z (Xd 4 [(0,.agg [.int .i64 x.kind,.int .i64 x.a,.int .i64 x.b,o1].toArray),(1,.pointer (some ⟨b1,0,none⟩)),(2,.bool false),(5,.pointer (some ⟨b1,0,none⟩)),(6,.int .i64 x.kind),(7,.bool (x.kind == 2)),(8,.bool (x.kind == 2)),(17,.bool ((!(Yr x.a 0 999)) || (x.b != 0)))] (fun w'=>w2 = w') ?_ ?_))
   ·refine Y1 (gd:=13) Z Z (fun hg1=>?_) (fun hg1=>?_)
    ·refine Qh Z Z Z Z (Qh Z Z Z Z (Qh Z Z Z Z (Qa (Qx Z Z) Z (Qq ⟨Z,Z,Z,Z,Z,Z,Z,congrArg (fun b=>some (Value.bool b)) (show true = ((!(Yr x.a 0 999)) || (x.b != 0)) by first | (rw [hg1] <;> rfl) | (simp [hg1];done) | (simp only [Qp] <;> simp)),trivial⟩ Z))))
    ·refine Qn Z Z (Qb Um Z) Z (Qn Z Z (Qk Yp Z (h1.one 2 Z)) Z (Qn Z Z (Yo Z Z) Z (Qa (Q1 Z Z) Z (Qq ⟨Z,Z,Z,Z,Z,Z,Z,congrArg (fun b=>some (Value.bool b)) (show (x.b != 0) = ((!(Yr x.a 0 999)) || (x.b != 0)) by first | (rw [hg1] <;> rfl) | (simp [hg1];done) | (simp only [Qp] <;> simp)),trivial⟩ Z))))
   rintro _ rfl
   refine Qc (Qr Z (fun hc2=>?_) (fun hc2=>?_))
   ·refine Qe (Qg [true] Z Z (Qa (Qf Z) Z (Qc (Qt (Q0 (U1 (Ql Z Z E ?_)))))))
    exact Hd (by rw [node_2 (by assumption)];exact kx (by assumption))
   ·refine Qm (Q5 (Yv (Q5 (Gd () ⟨Z,Z,trivial⟩ ⟨E,(by omega),h1,(by rw [node_2 (by assumption)];exact ky (by assumption))⟩))))
  ·refine Qe (Qg [true,true] Z Z (Qa (Xg Z Z) Z (Qa (Qf Z) Z (Qc (Qr Z (fun hc3=>?_) (fun hc3=>?_))))))
   ·refine Qe (Qg [true,true,false,true,true,true,true,true,true,true,false,true,true] Z Z (Qa (Qb Ko Z) Z (Qa (Qk Yp Z (h1.one 1 Z)) Z (Qu Tryz.call71 Z (c_within x.a 1 10 _ ) Z (fun _ w4 e3 hv=>?_)))))
    subst hv
    replace E:=E.trans e3;replace h1:=h1.ext e3
    have z4:=e3.size
    refine Qa (Yt Z) Z (Qa (Qd Z) Z (Xd 8 [(0,.agg [.int .i64 x.kind,.int .i64 x.a,.int .i64 x.b,o1].toArray),(1,.pointer (some ⟨b1,0,none⟩)),(2,.bool false),(5,.pointer (some ⟨b1,0,none⟩)),(6,.int .i64 x.kind),(7,.bool (x.kind == 2)),(8,.bool (x.kind == 2)),(18,.bool (x.kind == 3)),(19,.bool (x.kind == 3)),(32,.bool ((!(Yr x.a 1 10)) || (!(Yr x.b 0 (IntKind.i64.wrap (x.a - 1))))))] (fun w'=>Ext w w' ∧ w4.heap.size ≤ w'.heap.size ∧ Blk w' b1 ([.int .i64 x.kind,.int .i64 x.a,.int .i64 x.b,o1])) ?_ ?_))
    ·refine Y1 (gd:=24) Z Z (fun hg2=>?_) (fun hg2=>?_)
     ·refine Qh Z Z Z Z (Qh Z Z Z Z (Qh Z Z Z Z (Qh Z Z Z Z (Qh Z Z Z Z ?_))))
      refine Yw Z Z Z Z ?_
      refine Qh Z Z Z Z (Qa (Qx Z Z) Z (Qq ⟨Z,Z,Z,Z,Z,Z,Z,Z,Z,congrArg (fun b=>some (Value.bool b)) (show true = ((!(Yr x.a 1 10)) || (!(Yr x.b 0 (IntKind.i64.wrap (x.a - 1))))) by first | (rw [hg2] <;> rfl) | (simp [hg2];done) | (simp only [Qp] <;> simp)),trivial⟩ ⟨E,(by omega),h1⟩))
     ·refine Qn Z Z (Qb Um Z) Z (Qn Z Z (Qk Yp Z (h1.one 2 Z)) Z (Qn Z Z (Qb Ko Z) Z (Qn Z Z (Qk Yp Z (h1.one 1 Z)) Z (Qn Z Z (Ug Z Z Z) Z ?_))))
      refine X4 Z Z ?_
      refine Qu Tryz.call71 Z (c_within x.b 0 (IntKind.i64.wrap (x.a - 1)) _ ) Z (fun _ w6 e4 hv=>?_)
      subst hv
      replace E:=E.trans e4;replace h1:=h1.ext e4
      have z5:=e4.size
      refine Qn Z Z (Yt Z) Z (Qa (Q1 Z Z) Z (Qq ⟨Z,Z,Z,Z,Z,Z,Z,Z,Z,congrArg (fun b=>some (Value.bool b)) (show (!(Yr x.b 0 (IntKind.i64.wrap (x.a - 1)))) = ((!(Yr x.a 1 10)) || (!(Yr x.b 0 (IntKind.i64.wrap (x.a - 1))))) by first | (rw [hg2] <;> rfl) | (simp [hg2];done) | (simp only [Qp] <;> simp)),trivial⟩ ⟨E,(by omega),h1⟩))
    clear E h1
    rintro w5 ⟨E,z6,h1⟩
    refine Qc (Qr Z (fun hc4=>?_) (fun hc4=>?_))
    ·refine Qe (Qg [true] Z Z (Qa (Qf Z) Z (Qc (Qt (Q0 (U1 (Ql Z Z E ?_)))))))
     exact Hd (by rw [node_3 (by assumption)];exact kx (by assumption))
    ·refine Qm (Q5 (Yv (Q5 (Gd () ⟨Z,Z,trivial⟩ ⟨E,(by omega),h1,(by rw [node_3 (by assumption)];exact ky (by assumption))⟩))))
   ·refine Qe (Qg [true,true] Z Z (Qa (Xg Z Z) Z (Qa (Qf Z) Z (Qc (Qr Z (fun hc5=>?_) (fun hc5=>?_))))))
    ·refine Qe (Qg [true,true,false,true,true,true,true,true,true] Z Z (Qa (Qb Ko Z) Z (Qa (Qk Yp Z (h1.one 1 Z)) Z (Qu Tryz.call71 Z (c_within x.a 0 99 _ ) Z (fun _ w7 e5 hv=>?_)))))
     subst hv
     replace E:=E.trans e5;replace h1:=h1.ext e5
     have z7:=e5.size
     refine Qa (Yt Z) Z (Qa (Qd Z) Z (Xd 4 [(0,.agg [.int .i64 x.kind,.int .i64 x.a,.int .i64 x.b,o1].toArray),(1,.pointer (some ⟨b1,0,none⟩)),(2,.bool false),(5,.pointer (some ⟨b1,0,none⟩)),(6,.int .i64 x.kind),(7,.bool (x.kind == 2)),(8,.bool (x.kind == 2)),(18,.bool (x.kind == 3)),(19,.bool (x.kind == 3)),(33,.bool (x.kind == 4)),(34,.bool (x.kind == 4)),(43,.bool ((!(Yr x.a 0 99)) || (x.b != 0)))] (fun w'=>w7 = w') ?_ ?_))
     ·refine Y1 (gd:=39) Z Z (fun hg3=>?_) (fun hg3=>?_)
      ·refine Qh Z Z Z Z (Qh Z Z Z Z (Qh Z Z Z Z (Qa (Qx Z Z) Z (Qq ⟨Z,Z,Z,Z,Z,Z,Z,Z,Z,Z,Z,congrArg (fun b=>some (Value.bool b)) (show true = ((!(Yr x.a 0 99)) || (x.b != 0)) by first | (rw [hg3] <;> rfl) | (simp [hg3];done) | (simp only [Qp] <;> simp)),trivial⟩ Z))))
      ·refine Qn Z Z (Qb Um Z) Z (Qn Z Z (Qk Yp Z (h1.one 2 Z)) Z (Qn Z Z (Yo Z Z) Z (Qa (Q1 Z Z) Z (Qq ⟨Z,Z,Z,Z,Z,Z,Z,Z,Z,Z,Z,congrArg (fun b=>some (Value.bool b)) (show (x.b != 0) = ((!(Yr x.a 0 99)) || (x.b != 0)) by first | (rw [hg3] <;> rfl) | (simp [hg3];done) | (simp only [Qp] <;> simp)),trivial⟩ Z))))
     rintro _ rfl
     refine Qc (Qr Z (fun hc6=>?_) (fun hc6=>?_))
     ·refine Qe (Qg [true] Z Z (Qa (Qf Z) Z (Qc (Qt (Q0 (U1 (Ql Z Z E ?_)))))))
      exact Hd (by rw [node_4 (by assumption)];exact kx (by assumption))
     ·refine Qm (Q5 (Yv (Q5 (Gd () ⟨Z,Z,trivial⟩ ⟨E,(by omega),h1,(by rw [node_4 (by assumption)];exact ky (by assumption))⟩))))
    ·refine Qe (Qe (Qg [true,true] Z Z (Qa (Xg Z Z) Z (Qa (Qf Z) Z (Qc (Qr Z (fun hc7=>?_) (fun hc7=>?_)))))))
     ·refine Qm (Af Z hc7 (Qe (Qg [true,true,true,true,true,true,true,true] Z Z (Qa (Qb Ko Z) Z (Qa (Qk Yp Z (h1.one 1 Z)) Z (Qa (Yo Z Z) Z (Qa (Qd Z) Z (Xd 4 [(0,.agg [.int .i64 x.kind,.int .i64 x.a,.int .i64 x.b,o1].toArray),(1,.pointer (some ⟨b1,0,none⟩)),(2,.bool false),(5,.pointer (some ⟨b1,0,none⟩)),(6,.int .i64 x.kind),(7,.bool (x.kind == 2)),(8,.bool (x.kind == 2)),(18,.bool (x.kind == 3)),(19,.bool (x.kind == 3)),(33,.bool (x.kind == 4)),(34,.bool (x.kind == 4)),(44,.bool (x.kind == 1)),(45,.bool (x.kind == 1)),(57,.bool ((x.a != 0) || (x.b != 0)))] (fun w'=>w1 = w') ?_ ?_))))))))
      ·refine Y1 (gd:=53) Z Z (fun hg4=>?_) (fun hg4=>?_)
       ·refine Qh Z Z Z Z (Qh Z Z Z Z (Qh Z Z Z Z (Qa (Qx Z Z) Z (Qq ⟨Z,Z,Z,Z,Z,Z,Z,Z,Z,Z,Z,Z,Z,congrArg (fun b=>some (Value.bool b)) (show true = ((x.a != 0) || (x.b != 0)) by first | (rw [hg4] <;> rfl) | (simp [hg4];done) | (simp only [Qp] <;> simp)),trivial⟩ Z))))
       ·refine Qn Z Z (Qb Um Z) Z (Qn Z Z (Qk Yp Z (h1.one 2 Z)) Z (Qn Z Z (Yo Z Z) Z (Qa (Q1 Z Z) Z (Qq ⟨Z,Z,Z,Z,Z,Z,Z,Z,Z,Z,Z,Z,Z,congrArg (fun b=>some (Value.bool b)) (show (x.b != 0) = ((x.a != 0) || (x.b != 0)) by first | (rw [hg4] <;> rfl) | (simp [hg4];done) | (simp only [Qp] <;> simp)),trivial⟩ Z))))
      rintro _ rfl
      refine Qc (Qr Z (fun hc8=>?_) (fun hc8=>?_))
      ·refine Qe (Qg [true] Z Z (Qa (Qf Z) Z (Qc (Qt (Q0 (U1 (Ql Z Z E ?_)))))))
       exact Hd (by rw [Ga (by assumption) (by assumption) (by assumption)];exact kx0 (by assumption))
      ·refine Qm (Q5 (Yv (Q5 (Gd () ⟨Z,Z,trivial⟩ ⟨E,(by omega),h1,(by rw [Ga (by assumption) (by assumption) (by assumption)];exact ky0 (by assumption) (V3 (by simp at *;omega)))⟩))))
     ·refine Qe (Qg [true,true] Z Z (Qa (Xg Z Z) Z (Qa (Qf Z) Z (Qc (Qr Z (fun hc9=>?_) (fun hc9=>?_))))))
      ·refine Qm (Af Z hc9 (Qe (Qg [true,true,true,true,true,true,true,true] Z Z (Qa (Qb Ko Z) Z (Qa (Qk Yp Z (h1.one 1 Z)) Z (Qa (Yo Z Z) Z (Qa (Qd Z) Z (Xd 4 [(0,.agg [.int .i64 x.kind,.int .i64 x.a,.int .i64 x.b,o1].toArray),(1,.pointer (some ⟨b1,0,none⟩)),(2,.bool false),(5,.pointer (some ⟨b1,0,none⟩)),(6,.int .i64 x.kind),(7,.bool (x.kind == 2)),(8,.bool (x.kind == 2)),(18,.bool (x.kind == 3)),(19,.bool (x.kind == 3)),(33,.bool (x.kind == 4)),(34,.bool (x.kind == 4)),(44,.bool (x.kind == 5)),(45,.bool (x.kind == 1)),(46,.bool (x.kind == 5)),(57,.bool ((x.a != 0) || (x.b != 0)))] (fun w'=>w1 = w') ?_ ?_))))))))
       ·refine Y1 (gd:=53) Z Z (fun hg5=>?_) (fun hg5=>?_)
        ·refine Qh Z Z Z Z (Qh Z Z Z Z (Qh Z Z Z Z (Qa (Qx Z Z) Z (Qq ⟨Z,Z,Z,Z,Z,Z,Z,Z,Z,Z,Z,Z,Z,Z,congrArg (fun b=>some (Value.bool b)) (show true = ((x.a != 0) || (x.b != 0)) by first | (rw [hg5] <;> rfl) | (simp [hg5];done) | (simp only [Qp] <;> simp)),trivial⟩ Z))))
        ·refine Qn Z Z (Qb Um Z) Z (Qn Z Z (Qk Yp Z (h1.one 2 Z)) Z (Qn Z Z (Yo Z Z) Z (Qa (Q1 Z Z) Z (Qq ⟨Z,Z,Z,Z,Z,Z,Z,Z,Z,Z,Z,Z,Z,Z,congrArg (fun b=>some (Value.bool b)) (show (x.b != 0) = ((x.a != 0) || (x.b != 0)) by first | (rw [hg5] <;> rfl) | (simp [hg5];done) | (simp only [Qp] <;> simp)),trivial⟩ Z))))
       rintro _ rfl
       refine Qc (Qr Z (fun hc10=>?_) (fun hc10=>?_))
       ·refine Qe (Qg [true] Z Z (Qa (Qf Z) Z (Qc (Qt (Q0 (U1 (Ql Z Z E ?_)))))))
        exact Hd (by rw [Ga (by assumption) (by assumption) (by assumption)];exact kx0 (by assumption))
       ·refine Qm (Q5 (Yv (Q5 (Gd () ⟨Z,Z,trivial⟩ ⟨E,(by omega),h1,(by rw [Ga (by assumption) (by assumption) (by assumption)];exact ky0 (by assumption) (V3 (by simp at *;omega)))⟩))))
      ·refine Qe (Qg [true,true] Z Z (Qa (Xg Z Z) Z (Qa (Qf Z) Z (Qc (Qr Z (fun hc11=>?_) (fun hc11=>?_))))))
       ·refine Qm (Af Z hc11 (Qe (Qg [true,true,true,true,true,true,true,true] Z Z (Qa (Qb Ko Z) Z (Qa (Qk Yp Z (h1.one 1 Z)) Z (Qa (Yo Z Z) Z (Qa (Qd Z) Z (Xd 4 [(0,.agg [.int .i64 x.kind,.int .i64 x.a,.int .i64 x.b,o1].toArray),(1,.pointer (some ⟨b1,0,none⟩)),(2,.bool false),(5,.pointer (some ⟨b1,0,none⟩)),(6,.int .i64 x.kind),(7,.bool (x.kind == 2)),(8,.bool (x.kind == 2)),(18,.bool (x.kind == 3)),(19,.bool (x.kind == 3)),(33,.bool (x.kind == 4)),(34,.bool (x.kind == 4)),(44,.bool (x.kind == 6)),(45,.bool (x.kind == 1)),(46,.bool (x.kind == 5)),(47,.bool (x.kind == 6)),(57,.bool ((x.a != 0) || (x.b != 0)))] (fun w'=>w1 = w') ?_ ?_))))))))
        ·refine Y1 (gd:=53) Z Z (fun hg6=>?_) (fun hg6=>?_)
         ·refine Qh Z Z Z Z (Qh Z Z Z Z (Qh Z Z Z Z (Qa (Qx Z Z) Z (Qq ⟨Z,Z,Z,Z,Z,Z,Z,Z,Z,Z,Z,Z,Z,Z,Z,congrArg (fun b=>some (Value.bool b)) (show true = ((x.a != 0) || (x.b != 0)) by first | (rw [hg6] <;> rfl) | (simp [hg6];done) | (simp only [Qp] <;> simp)),trivial⟩ Z))))
         ·refine Qn Z Z (Qb Um Z) Z (Qn Z Z (Qk Yp Z (h1.one 2 Z)) Z (Qn Z Z (Yo Z Z) Z (Qa (Q1 Z Z) Z (Qq ⟨Z,Z,Z,Z,Z,Z,Z,Z,Z,Z,Z,Z,Z,Z,Z,congrArg (fun b=>some (Value.bool b)) (show (x.b != 0) = ((x.a != 0) || (x.b != 0)) by first | (rw [hg6] <;> rfl) | (simp [hg6];done) | (simp only [Qp] <;> simp)),trivial⟩ Z))))
        rintro _ rfl
        refine Qc (Qr Z (fun hc12=>?_) (fun hc12=>?_))
        ·refine Qe (Qg [true] Z Z (Qa (Qf Z) Z (Qc (Qt (Q0 (U1 (Ql Z Z E ?_)))))))
         exact Hd (by rw [Ga (by assumption) (by assumption) (by assumption)];exact kx0 (by assumption))
        ·refine Qm (Q5 (Yv (Q5 (Gd () ⟨Z,Z,trivial⟩ ⟨E,(by omega),h1,(by rw [Ga (by assumption) (by assumption) (by assumption)];exact ky0 (by assumption) (V3 (by simp at *;omega)))⟩))))
       ·refine Qe (Qg [true,true] Z Z (Qa (Xg Z Z) Z (Qa (Qf Z) Z (Qc (Qr Z (fun hc13=>?_) (fun hc13=>?_))))))
        ·refine Qm (Af Z hc13 (Qe (Qg [true,true,true,true,true,true,true,true] Z Z (Qa (Qb Ko Z) Z (Qa (Qk Yp Z (h1.one 1 Z)) Z (Qa (Yo Z Z) Z (Qa (Qd Z) Z (Xd 4 [(0,.agg [.int .i64 x.kind,.int .i64 x.a,.int .i64 x.b,o1].toArray),(1,.pointer (some ⟨b1,0,none⟩)),(2,.bool false),(5,.pointer (some ⟨b1,0,none⟩)),(6,.int .i64 x.kind),(7,.bool (x.kind == 2)),(8,.bool (x.kind == 2)),(18,.bool (x.kind == 3)),(19,.bool (x.kind == 3)),(33,.bool (x.kind == 4)),(34,.bool (x.kind == 4)),(44,.bool (x.kind == 7)),(45,.bool (x.kind == 1)),(46,.bool (x.kind == 5)),(47,.bool (x.kind == 6)),(48,.bool (x.kind == 7)),(57,.bool ((x.a != 0) || (x.b != 0)))] (fun w'=>w1 = w') ?_ ?_))))))))
         ·refine Y1 (gd:=53) Z Z (fun hg7=>?_) (fun hg7=>?_)
          ·refine Qh Z Z Z Z (Qh Z Z Z Z (Qh Z Z Z Z (Qa (Qx Z Z) Z (Qq ⟨Z,Z,Z,Z,Z,Z,Z,Z,Z,Z,Z,Z,Z,Z,Z,Z,congrArg (fun b=>some (Value.bool b)) (show true = ((x.a != 0) || (x.b != 0)) by first | (rw [hg7] <;> rfl) | (simp [hg7];done) | (simp only [Qp] <;> simp)),trivial⟩ Z))))
          ·refine Qn Z Z (Qb Um Z) Z (Qn Z Z (Qk Yp Z (h1.one 2 Z)) Z (Qn Z Z (Yo Z Z) Z (Qa (Q1 Z Z) Z (Qq ⟨Z,Z,Z,Z,Z,Z,Z,Z,Z,Z,Z,Z,Z,Z,Z,Z,congrArg (fun b=>some (Value.bool b)) (show (x.b != 0) = ((x.a != 0) || (x.b != 0)) by first | (rw [hg7] <;> rfl) | (simp [hg7];done) | (simp only [Qp] <;> simp)),trivial⟩ Z))))
         rintro _ rfl
         refine Qc (Qr Z (fun hc14=>?_) (fun hc14=>?_))
         ·refine Qe (Qg [true] Z Z (Qa (Qf Z) Z (Qc (Qt (Q0 (U1 (Ql Z Z E ?_)))))))
          exact Hd (by rw [Ga (by assumption) (by assumption) (by assumption)];exact kx0 (by assumption))
         ·refine Qm (Q5 (Yv (Q5 (Gd () ⟨Z,Z,trivial⟩ ⟨E,(by omega),h1,(by rw [Ga (by assumption) (by assumption) (by assumption)];exact ky0 (by assumption) (V3 (by simp at *;omega)))⟩))))
        ·refine Qg [true,true] Z Z (Qa (Xg Z Z) Z (Qa (Qf Z) Z (Qc (Qr Z (fun hc15=>?_) (fun hc15=>?_)))))
         ·refine Qe (Qg [true,true,true,true,true,true,true,true] Z Z (Qa (Qb Ko Z) Z (Qa (Qk Yp Z (h1.one 1 Z)) Z (Qa (Yo Z Z) Z (Qa (Qd Z) Z (Xd 4 [(0,.agg [.int .i64 x.kind,.int .i64 x.a,.int .i64 x.b,o1].toArray),(1,.pointer (some ⟨b1,0,none⟩)),(2,.bool false),(5,.pointer (some ⟨b1,0,none⟩)),(6,.int .i64 x.kind),(7,.bool (x.kind == 2)),(8,.bool (x.kind == 2)),(18,.bool (x.kind == 3)),(19,.bool (x.kind == 3)),(33,.bool (x.kind == 4)),(34,.bool (x.kind == 4)),(44,.bool (x.kind == 8)),(45,.bool (x.kind == 1)),(46,.bool (x.kind == 5)),(47,.bool (x.kind == 6)),(48,.bool (x.kind == 7)),(49,.bool (x.kind == 8)),(57,.bool ((x.a != 0) || (x.b != 0)))] (fun w'=>w1 = w') ?_ ?_))))))
          ·refine Y1 (gd:=53) Z Z (fun hg8=>?_) (fun hg8=>?_)
           ·refine Qh Z Z Z Z (Qh Z Z Z Z (Qh Z Z Z Z (Qa (Qx Z Z) Z (Qq ⟨Z,Z,Z,Z,Z,Z,Z,Z,Z,Z,Z,Z,Z,Z,Z,Z,Z,congrArg (fun b=>some (Value.bool b)) (show true = ((x.a != 0) || (x.b != 0)) by first | (rw [hg8] <;> rfl) | (simp [hg8];done) | (simp only [Qp] <;> simp)),trivial⟩ Z))))
           ·refine Qn Z Z (Qb Um Z) Z (Qn Z Z (Qk Yp Z (h1.one 2 Z)) Z (Qn Z Z (Yo Z Z) Z (Qa (Q1 Z Z) Z (Qq ⟨Z,Z,Z,Z,Z,Z,Z,Z,Z,Z,Z,Z,Z,Z,Z,Z,Z,congrArg (fun b=>some (Value.bool b)) (show (x.b != 0) = ((x.a != 0) || (x.b != 0)) by first | (rw [hg8] <;> rfl) | (simp [hg8];done) | (simp only [Qp] <;> simp)),trivial⟩ Z))))
          rintro _ rfl
          refine Qc (Qr Z (fun hc16=>?_) (fun hc16=>?_))
          ·refine Qe (Qg [true] Z Z (Qa (Qf Z) Z (Qc (Qt (Q0 (U1 (Ql Z Z E ?_)))))))
           exact Hd (by rw [Ga (by assumption) (by assumption) (by assumption)];exact kx0 (by assumption))
          ·refine Qm (Q5 (Yv (Q5 (Gd () ⟨Z,Z,trivial⟩ ⟨E,(by omega),h1,(by rw [Ga (by assumption) (by assumption) (by assumption)];exact ky0 (by assumption) (V3 (by simp at *;omega)))⟩))))
         ·refine Qe (Qg [true] Z Z (Qa (Qf Z) Z (Qc (Qt (Q0 (U1 (Ql Z Z E ?_)))))))
          exact Hd (by rw [Ga (by assumption) (by assumption) (by assumption),win_not (by simp at *;omega)];rfl)
 ·clear E h1
  rintro _ w14 ⟨E,z2,h1,hkk⟩
  refine Qe (Qe (Xw Xp [(0,true),(1,true),(2,true),(3,true),(4,true),(5,true),(6,true),(7,true),(8,true),(9,true),(10,true),(11,true),(12,true),(13,true),(14,true),(15,true),(16,true),(17,true),(18,true),(19,true),(20,true),(21,true),(22,true),(23,true),(24,true),(25,true),(26,true),(27,true),(28,true),(29,true),(30,true),(31,true)] (by decide +kernel) Z (fun w15 e6=>?_)))
  replace E:=E.trans e6;replace h1:=h1.ext e6
  have z8:=e6.size
  refine Qa (Qb Xk Z) Z (Qa (Qk Ks Z (h1.one 3 Z)) Z (Qa (Yb Tryz.underlying76 Z (hd1.ext E).len) Z (Qa (G1 Z Z) Z (Qa (Qd Z) Z (Xd 27 [(1,.pointer (some ⟨b1,0,none⟩)),(2,.bool false),(89,.bool (((decide (2 < ((x.outs.length : Nat) : Int))) || ((x.kind == 8) && (decide (0 < ((x.outs.length : Nat) : Int))))) || ((((x.outs.length : Nat) : Int) == 2) && ((List.getD x.outs 0 default) == (List.getD x.outs 1 default)))))] (fun w'=>w15 = w') ?_ ?_)))))
  ·refine Y1 (gd:=62) Z Z (fun hg9=>?_) (fun hg9=>?_)
   ·have hg9n : x.outs.length > 2:=by first | (have h:=of_decide_eq_true hg9;omega) | (have h:=hg9;simp at h;omega)
    refine Qh Z Z Z Z (Qh Z Z Z Z (Qh Z Z Z Z (Qh Z Z Z Z (Q9 Z Z Z (Q9 Z Z Z (Q9 Z Z Z (Q9 Z Z Z (Qh Z Z Z Z (Qa (Qx Z Z) Z (Qa (Qd Z) Z (Qh Z Z Z Z (Qh Z Z Z Z (Qh Z Z Z Z (Qh Z Z Z Z (Qh Z Z Z Z (Q9 Z Z Z (Q9 Z Z Z (Q9 Z Z Z (Q9 Z Z Z (Q9 Z Z Z (Q9 Z Z Z (Q9 Z Z Z (Q9 Z Z Z (Q9 Z Z Z (Qh Z Z Z Z (Qa (Qx Z Z) Z (Qq ⟨Z,Z,congrArg (fun b=>some (Value.bool b)) (show true = (((decide (2 < ((x.outs.length : Nat) : Int))) || ((x.kind == 8) && (decide (0 < ((x.outs.length : Nat) : Int))))) || ((((x.outs.length : Nat) : Int) == 2) && ((List.getD x.outs 0 default) == (List.getD x.outs 1 default)))) by first | (rw [hg9] <;> rfl) | (simp [hg9];done) | (simp only [Qp] <;> simp)),trivial⟩ Z)))))))))))))))))))))))))))
   ·have hg9n : ¬ x.outs.length > 2:=by first | (have h:=of_decide_eq_false hg9;omega) | (have h:=hg9;simp at h;omega)
    refine Qn Z Z (Qb Ke Z) Z (Qn Z Z (Qk Yp Z (h1.one 0 Z)) Z (Qn Z Z (Xg Z Z) Z (Qn Z Z (Qd Z) Z ?_)))
    refine Y1 (gd:=66) Z Z (fun hg10=>?_) (fun hg10=>?_)
    ·refine Qn Z Z (Qb Xk Z) Z (Qn Z Z (Qk Ks Z (h1.one 3 Z)) Z (Qn Z Z (Yb Tryz.underlying76 Z (hd1.ext E).len) Z (Qn Z Z (G1 Z Z) Z (Qn Z Z (Qx Z Z) Z (Qa (Q1 Z Z) Z (Qa (Qd Z) Z ?_))))))
     refine Y1 (gd:=73) Z Z (fun hg11=>?_) (fun hg11=>?_)
     ·have hg11n : x.outs.length > 0:=by first | (have h:=of_decide_eq_true hg11;omega) | (have h:=hg11;simp at h;omega)
      refine Qh Z Z Z Z (Qh Z Z Z Z (Qh Z Z Z Z (Qh Z Z Z Z (Qh Z Z Z Z (Q9 Z Z Z (Q9 Z Z Z (Q9 Z Z Z (Q9 Z Z Z (Q9 Z Z Z (Q9 Z Z Z (Q9 Z Z Z (Q9 Z Z Z (Q9 Z Z Z (Qh Z Z Z Z (Qa (Qx Z Z) Z (Qq ⟨Z,Z,congrArg (fun b=>some (Value.bool b)) (show true = (((decide (2 < ((x.outs.length : Nat) : Int))) || ((x.kind == 8) && (decide (0 < ((x.outs.length : Nat) : Int))))) || ((((x.outs.length : Nat) : Int) == 2) && ((List.getD x.outs 0 default) == (List.getD x.outs 1 default)))) by first | (rw [hg9,hg10,hg11] <;> rfl) | (simp [hg9,hg10,hg11];done) | (simp only [Qp] <;> simp)),trivial⟩ Z))))))))))))))))
     ·have hg11n : ¬ x.outs.length > 0:=by first | (have h:=of_decide_eq_false hg11;omega) | (have h:=hg11;simp at h;omega)
      refine Qn Z Z (Qb Xk Z) Z (Qn Z Z (Qk Ks Z (h1.one 3 Z)) Z (Qn Z Z (Yb Tryz.underlying76 Z (hd1.ext E).len) Z (Qn Z Z (Xg Z Z) Z (Qn Z Z (Qd Z) Z ?_))))
      refine Y1 (gd:=78) Z Z (fun hg12=>?_) (fun hg12=>?_)
      ·have hg12n : x.outs.length = 2:=by first | (have h:=of_decide_eq_true hg12;omega) | (have h:=hg12;simp at h;omega)
       refine Qn Z Z (Qb Xk Z) Z (Qn Z Z (Qk Ks Z (h1.one 3 Z)) Z (Qn Z Z (Qv (i:=0) Uq Z Z (hd1.rd.ext E) (by first | assumption | omega | (simp only [List.length_set];first | assumption | omega) | (simp only [List.getElem_set_self,List.length_set];first | assumption | omega))) Z (Qn Z Z (Qk Yp Z ((RdS.getD (hd1.rd.ext E) (i:=0) (by first | assumption | omega | (simp only [List.length_set];first | assumption | omega) | (simp only [List.getElem_set_self,List.length_set];first | assumption | omega))).one 0 Z)) Z (Qn Z Z (Qb Xk Z) Z (Qn Z Z (Qk Ks Z (h1.one 3 Z)) Z (Qn Z Z (Qv (i:=1) Uq Z Z (hd1.rd.ext E) (by first | assumption | omega | (simp only [List.length_set];first | assumption | omega) | (simp only [List.getElem_set_self,List.length_set];first | assumption | omega))) Z (Qn Z Z (Qk Yp Z ((RdS.getD (hd1.rd.ext E) (i:=1) (by first | assumption | omega | (simp only [List.length_set];first | assumption | omega) | (simp only [List.getElem_set_self,List.length_set];first | assumption | omega))).one 0 Z)) Z (Qn Z Z (Xg Z Z) Z (Qn Z Z (Qx Z Z) Z (Qa (Q1 Z Z) Z (Qq ⟨Z,Z,congrArg (fun b=>some (Value.bool b)) (show ((List.getD x.outs 0 default) == (List.getD x.outs 1 default)) = (((decide (2 < ((x.outs.length : Nat) : Int))) || ((x.kind == 8) && (decide (0 < ((x.outs.length : Nat) : Int))))) || ((((x.outs.length : Nat) : Int) == 2) && ((List.getD x.outs 0 default) == (List.getD x.outs 1 default)))) by first | (rw [hg9,hg10,hg11,hg12] <;> rfl) | (simp [hg9,hg10,hg11,hg12];done) | (simp only [Qp] <;> simp)),trivial⟩ Z)))))))))))
      ·have hg12n : ¬ x.outs.length = 2:=by first | (have h:=of_decide_eq_false hg12;omega) | (have h:=hg12;simp at h;omega)
       refine Qh Z Z Z Z (Qh Z Z Z Z (Qh Z Z Z Z (Qh Z Z Z Z (Qh Z Z Z Z (Qh Z Z Z Z (Qh Z Z Z Z (Qh Z Z Z Z (Qh Z Z Z Z (Qn Z Z (Q1 Z Z) Z (Qa (Q1 Z Z) Z (Qq ⟨Z,Z,congrArg (fun b=>some (Value.bool b)) (show false = (((decide (2 < ((x.outs.length : Nat) : Int))) || ((x.kind == 8) && (decide (0 < ((x.outs.length : Nat) : Int))))) || ((((x.outs.length : Nat) : Int) == 2) && ((List.getD x.outs 0 default) == (List.getD x.outs 1 default)))) by first | (rw [hg9,hg10,hg11,hg12] <;> rfl) | (simp [hg9,hg10,hg11,hg12];done) | (simp only [Qp] <;> simp)),trivial⟩ Z)))))))))))
    ·refine Qh Z Z Z Z (Qh Z Z Z Z (Qh Z Z Z Z (Qh Z Z Z Z (Qn Z Z (Q1 Z Z) Z (Qa (Q1 Z Z) Z (Qa (Qd Z) Z (Qn Z Z (Qb Xk Z) Z (Qn Z Z (Qk Ks Z (h1.one 3 Z)) Z (Qn Z Z (Yb Tryz.underlying76 Z (hd1.ext E).len) Z (Qn Z Z (Xg Z Z) Z (Qn Z Z (Qd Z) Z ?_)))))))))))
     refine Y1 (gd:=78) Z Z (fun hg13=>?_) (fun hg13=>?_)
     ·have hg13n : x.outs.length = 2:=by first | (have h:=of_decide_eq_true hg13;omega) | (have h:=hg13;simp at h;omega)
      refine Qn Z Z (Qb Xk Z) Z (Qn Z Z (Qk Ks Z (h1.one 3 Z)) Z (Qn Z Z (Qv (i:=0) Uq Z Z (hd1.rd.ext E) (by first | assumption | omega | (simp only [List.length_set];first | assumption | omega) | (simp only [List.getElem_set_self,List.length_set];first | assumption | omega))) Z (Qn Z Z (Qk Yp Z ((RdS.getD (hd1.rd.ext E) (i:=0) (by first | assumption | omega | (simp only [List.length_set];first | assumption | omega) | (simp only [List.getElem_set_self,List.length_set];first | assumption | omega))).one 0 Z)) Z (Qn Z Z (Qb Xk Z) Z (Qn Z Z (Qk Ks Z (h1.one 3 Z)) Z (Qn Z Z (Qv (i:=1) Uq Z Z (hd1.rd.ext E) (by first | assumption | omega | (simp only [List.length_set];first | assumption | omega) | (simp only [List.getElem_set_self,List.length_set];first | assumption | omega))) Z (Qn Z Z (Qk Yp Z ((RdS.getD (hd1.rd.ext E) (i:=1) (by first | assumption | omega | (simp only [List.length_set];first | assumption | omega) | (simp only [List.getElem_set_self,List.length_set];first | assumption | omega))).one 0 Z)) Z (Qn Z Z (Xg Z Z) Z (Qn Z Z (Qx Z Z) Z (Qa (Q1 Z Z) Z (Qq ⟨Z,Z,congrArg (fun b=>some (Value.bool b)) (show ((List.getD x.outs 0 default) == (List.getD x.outs 1 default)) = (((decide (2 < ((x.outs.length : Nat) : Int))) || ((x.kind == 8) && (decide (0 < ((x.outs.length : Nat) : Int))))) || ((((x.outs.length : Nat) : Int) == 2) && ((List.getD x.outs 0 default) == (List.getD x.outs 1 default)))) by first | (rw [hg9,hg10,hg13] <;> rfl) | (simp [hg9,hg10,hg13];done) | (simp only [Qp] <;> simp)),trivial⟩ Z)))))))))))
     ·have hg13n : ¬ x.outs.length = 2:=by first | (have h:=of_decide_eq_false hg13;omega) | (have h:=hg13;simp at h;omega)
      refine Qh Z Z Z Z (Qh Z Z Z Z (Qh Z Z Z Z (Qh Z Z Z Z (Qh Z Z Z Z (Qh Z Z Z Z (Qh Z Z Z Z (Qh Z Z Z Z (Qh Z Z Z Z (Qn Z Z (Q1 Z Z) Z (Qa (Q1 Z Z) Z (Qq ⟨Z,Z,congrArg (fun b=>some (Value.bool b)) (show false = (((decide (2 < ((x.outs.length : Nat) : Int))) || ((x.kind == 8) && (decide (0 < ((x.outs.length : Nat) : Int))))) || ((((x.outs.length : Nat) : Int) == 2) && ((List.getD x.outs 0 default) == (List.getD x.outs 1 default)))) by first | (rw [hg9,hg10,hg13] <;> rfl) | (simp [hg9,hg10,hg13];done) | (simp only [Qp] <;> simp)),trivial⟩ Z)))))))))))
  rintro _ rfl
  refine Qc (Qr Z (fun hc17=>?_) (fun hc17=>?_))
  ·refine Qe (Qg [true] Z Z (Qa (Qf Z) Z (Qc (Qt (Ql Z Z E ?_)))))
   exact node_t (by assumption)
  ·refine Qm (Qe (Qe (Qg [true,true,true,true] Z Z (Qa (Qb Xk Z) Z (Qa (Qk Ks Z (h1.one 3 Z)) Z (Qa (Yb Tryz.underlying76 Z (hd1.ext E).len) Z (Qa (Qd Z) Z (Qc (Qw (Yk (fun (k : Nat)=>[(2,.bool false),(91,o1),(92,.int .i64 ((x.outs.length : Nat) : Int)),(93,.int .i64 ((k : Nat) : Int))]) (fun (k : Nat) w'=>Ext w w' ∧ w15.heap.size ≤ w'.heap.size ∧ Blk w' b1 ([.int .i64 x.kind,.int .i64 x.a,.int .i64 x.b,o1]) ∧ k ≤ x.outs.length ∧ (x.outs.take k).all (Yr · 0 7) = true) (fun (k : Nat)=>x.outs.length - k) 0 ⟨Z,Z,Z,Z,trivial⟩ ⟨E,Nat.le_refl _,h1,Nat.zero_le _,Z⟩ ?_))))))))))
   clear E h1
   rintro k w17 ⟨E,z9,h1,hk,hI⟩
   refine Qe (Qg [true] Z Z (Qa (Yf Z Z) Z (Qc (Qe (Qr Z (fun hc18=>?_) (fun hc18=>?_))))))
   ·have hc18n : k < x.outs.length:=by first | (have h:=of_decide_eq_true hc18;omega) | (have h:=hc18;simp at h;omega)
    refine Qm (Qe (Qw (Qe (Qg [true,true,true] Z Z ?_))))
    have hi1 : k < x.outs.length:=(by first | assumption | omega | (simp only [List.length_set];first | assumption | omega) | (simp only [List.getElem_set_self,List.length_set];first | assumption | omega))
    refine Qa (Qv (i:=k) Uq Z Z (hd1.rd.ext E) hi1) Z (Qa (Qk Yp Z (((hd1.rd.ext E).get hi1).one 0 Z)) Z (Qa (Qf Z) Z (Qc (Qe (Qg [true,false,true] Z Z (Qa (Qd Z) Z (Qu Tryz.call71 Z (c_within (x.outs[k]'hi1) 0 7 _ ) Z (fun _ w18 e7 hv=>?_))))))))
    subst hv
    replace E:=E.trans e7;replace h1:=h1.ext e7
    have z10:=e7.size
    refine Qa (Yt Z) Z (Qc (Qr Z (fun hc19=>?_) (fun hc19=>?_)))
    ·refine Qe (Qg [true] Z Z (Qa (Qf Z) Z (Qc (Qt (Q0 (Yq (Q0 (Ql Z Z E ?_))))))))
     exact node_l (by assumption)
    ·refine Qm (Q5 (Yv (Qg [true,true] Z Z (Qa (Yd Z Z (Yy hc18n (hd1.ext E).1.1)) Z (Qa (Qd Z) Z (Qc (Q5 (Yg (k + 1) (by omega) ⟨Z,Z,Z,Z,trivial⟩ ⟨E,(by omega),h1,(by omega),X9 hI (by assumption) (by simpa using (show (!(Yr x.outs[k] 0 7)) = false by assumption))⟩))))))))
   ·have hc18n : ¬ k < x.outs.length:=by first | (have h:=of_decide_eq_false hc18;omega) | (have h:=hc18;simp at h;omega)
    refine Ym (Q4 (Q2 ?_))
    refine Qe (Qg [true] Z Z (Qa (Qf Z) Z (Qc (Qt (Ql Z Z E ?_)))))
    exact node_y hkk (by assumption) hI (by omega)

set_option maxHeartbeats 4000000 in
set_option maxRecDepth 20000 in
theorem s_NodeOk (cx : List Value) (x : Node) (w : World) (hx : Dat.R w 0 w.heap.size cx x) : Ct Tryz.prog 129 [.agg cx.toArray] w (fun v _=>v = .bool (X6 x)):=by
 refine Yi Tryz.func129 Z Tryz.ntmps129 Z ?_
 obtain ⟨o1,rfl,hd1⟩:=Node.op hx
 refine Q7 [(0,.agg [.int .i64 x.kind,.int .i64 x.a,.int .i64 x.b,o1].toArray)] ⟨Z,trivial⟩ ?_
 have E : Ext w w:=Ext.refl w
 refine Qe (Qg [false,true] Z Z (Yz Z Z (fun b1 w1 e1 s1 h1=>?_)))
 have g_b1 : w.heap.size ≤ b1:=by have:=E.size;omega
 have y_b1:=h1.lt
 replace E:=E.trans e1
 have z1:=e1.size
 refine Qa (Qf Z) Z (Qc (Qe (Qg [true,true,true,true] Z Z (Qa (Qb Ko Z) Z (Qa (Qk Yp Z (h1.one 1 Z)) Z (Qa (Xg Z Z) Z (Qa (Qf Z) Z (Qc (Qe (Qg [true,true,true,true] Z Z (Qa (Qb Um Z) Z (Qa (Qk Yp Z (h1.one 2 Z)) Z (Qa (Xg Z Z) Z (Qa (Qf Z) Z (Qc (Qe (Qe (Qg [true,true] Z Z (Qa (Qb Ke Z) Z (Qa (Qk Yp Z (h1.one 0 Z)) Z (Qc (S_cutG (fun (xq : Bool × Bool)=>let ⟨p0,q0⟩:=xq;[(1,.pointer (some ⟨b1,0,none⟩)),(2,.bool false),(3,.bool p0),(4,.bool q0)]) (fun (xq : Bool × Bool) w'=>let ⟨p0,q0⟩:=xq;Ext w w' ∧ w1.heap.size ≤ w'.heap.size ∧ Blk w' b1 ([.int .i64 x.kind,.int .i64 x.a,.int .i64 x.b,o1]) ∧ Ut x = (Yr x.kind 1 8 && p0 && q0)) ?_ ?_))))))))))))))))))))))
 ·refine Qw (Qe (Qg [true,true] Z Z (Qa (Xg Z Z) Z (Qa (Qf Z) Z (Qc (Qr Z (fun hc1=>?_) (fun hc1=>?_)))))))
  ·refine Qg [true,true,false,true] Z Z (Qa (Qb Ko Z) Z (Qa (Qk Yp Z (h1.one 1 Z)) Z (Qu Tryz.call106 Z (s_l01In x.a 0 999 _ ) Z (fun _ w2 e2 hv=>?_))))
   subst hv
   replace E:=E.trans e2;replace h1:=h1.ext e2
   have z3:=e2.size
   refine Qa (Qf Z) Z (Qc (Q5 (Yv (Q5 (Gd (Yr x.a 0 999,x.b == 0) ⟨Z,Z,Z,Z,trivial⟩ ⟨E,(by omega),h1,(by rw [node_2 (by assumption),V3 (n:=x.kind) (by have:=eq_of_beq (show (x.kind == 2) = true by assumption);omega),Bool.true_and])⟩)))))
  ·refine Qe (Qg [true,true] Z Z (Qa (Xg Z Z) Z (Qa (Qf Z) Z (Qc (Qr Z (fun hc2=>?_) (fun hc2=>?_))))))
   ·refine Qe (Qg [true,true,false,true] Z Z (Qa (Qb Ko Z) Z (Qa (Qk Yp Z (h1.one 1 Z)) Z (Qu Tryz.call106 Z (s_l01In x.a 1 10 _ ) Z (fun _ w3 e3 hv=>?_)))))
    subst hv
    replace E:=E.trans e3;replace h1:=h1.ext e3
    have z4:=e3.size
    refine Qa (Qf Z) Z (Qc (Qg [true,true,true,true,true,false,true] Z Z (Qa (Qb Um Z) Z (Qa (Qk Yp Z (h1.one 2 Z)) Z (Qa (Qb Ko Z) Z (Qa (Qk Yp Z (h1.one 1 Z)) Z (Qa (Ug Z Z Z) Z (Qu Tryz.call106 Z (s_l01In x.b 0 (IntKind.i64.wrap (x.a - 1)) _ ) Z (fun _ w4 e4 hv=>?_)))))))))
    subst hv
    replace E:=E.trans e4;replace h1:=h1.ext e4
    have z5:=e4.size
    refine Qa (Qf Z) Z (Qc (Q5 (Yv (Q5 (Gd (Yr x.a 1 10,Yr x.b 0 (IntKind.i64.wrap (x.a - 1))) ⟨Z,Z,Z,Z,trivial⟩ ⟨E,(by omega),h1,(by rw [node_3 (by assumption),V3 (n:=x.kind) (by have:=eq_of_beq (show (x.kind == 3) = true by assumption);omega),Bool.true_and])⟩)))))
   ·refine Qe (Qg [true,true] Z Z (Qa (Xg Z Z) Z (Qa (Qf Z) Z (Qc (Qr Z (fun hc3=>?_) (fun hc3=>?_))))))
    ·refine Qg [true,true,false,true] Z Z (Qa (Qb Ko Z) Z (Qa (Qk Yp Z (h1.one 1 Z)) Z (Qu Tryz.call106 Z (s_l01In x.a 0 99 _ ) Z (fun _ w5 e5 hv=>?_))))
     subst hv
     replace E:=E.trans e5;replace h1:=h1.ext e5
     have z6:=e5.size
     refine Qa (Qf Z) Z (Qc (Q5 (Yv (Q5 (Gd (Yr x.a 0 99,x.b == 0) ⟨Z,Z,Z,Z,trivial⟩ ⟨E,(by omega),h1,(by rw [node_4 (by assumption),V3 (n:=x.kind) (by have:=eq_of_beq (show (x.kind == 4) = true by assumption);omega),Bool.true_and])⟩)))))
    ·refine Qm (Q5 (Yv (Q5 (Gd (x.a == 0,x.b == 0) ⟨Z,Z,Z,Z,trivial⟩ ⟨E,(by omega),h1,(Ga (by assumption) (by assumption) (by assumption))⟩))))
 ·clear E h1
  rintro ⟨p0,q0⟩ w6 ⟨E,z2,h1,hpq⟩
  refine Q7 [(1,.pointer (some ⟨b1,0,none⟩)),(2,.bool false),(3,.bool p0),(4,.bool q0)] ⟨Z,Z,Z,Z,trivial⟩ ?_
  refine Qe (Qe (Qg [true,true,false,true,true,true,true,true,true,true,true,true,true,true,true,true,true,true,true,true,true,true,true,true,true,true,true,true,true] Z Z (Qa (Qb Ke Z) Z (Qa (Qk Yp Z (h1.one 0 Z)) Z (Qu Tryz.call106 Z (s_l01In x.kind 1 8 _ ) Z (fun _ w7 e6 hv=>?_))))))
  subst hv
  replace E:=E.trans e6;replace h1:=h1.ext e6
  have z7:=e6.size
  refine Qa (Yt Z) Z (Qa (Qd Z) Z (Xd 24 [(1,.pointer (some ⟨b1,0,none⟩)),(2,.bool false),(3,.bool p0),(4,.bool q0),(63,.bool (((((!(Yr x.kind 1 8)) || (!p0)) || (!q0)) || (decide (2 < ((x.outs.length : Nat) : Int)))) || ((x.kind == 8) && (decide (0 < ((x.outs.length : Nat) : Int))))))] (fun w'=>w7 = w') ?_ ?_))
  ·refine Y1 (gd:=39) Z Z (fun hg1=>?_) (fun hg1=>?_)
   ·refine Qh Z Z Z Z (Qh Z Z Z Z (Qa (Qx Z Z) Z (Qa (Qd Z) Z (Qh Z Z Z Z (Qh Z Z Z Z (Qa (Qx Z Z) Z (Qa (Qd Z) Z (Qh Z Z Z Z (Qh Z Z Z Z (Qh Z Z Z Z (Qh Z Z Z Z (Qa (Qx Z Z) Z (Qa (Qd Z) Z (Qh Z Z Z Z (Qh Z Z Z Z (Qh Z Z Z Z (Qh Z Z Z Z (Q9 Z Z Z (Q9 Z Z Z (Q9 Z Z Z (Q9 Z Z Z (Qh Z Z Z Z (Qa (Qx Z Z) Z (Qq ⟨Z,Z,Z,Z,congrArg (fun b=>some (Value.bool b)) (show true = (((((!(Yr x.kind 1 8)) || (!p0)) || (!q0)) || (decide (2 < ((x.outs.length : Nat) : Int)))) || ((x.kind == 8) && (decide (0 < ((x.outs.length : Nat) : Int))))) by first | (rw [hg1] <;> rfl) | (simp [hg1];done) | (simp only [Qp] <;> simp)),trivial⟩ Z))))))))))))))))))))))))
   ·refine Qn Z Z (Qd Z) Z (Qn Z Z (Yt Z) Z (Qa (Q1 Z Z) Z (Qa (Qd Z) Z ?_)))
    refine Y1 (gd:=43) Z Z (fun hg2=>?_) (fun hg2=>?_)
    ·refine Qh Z Z Z Z (Qh Z Z Z Z (Qa (Qx Z Z) Z (Qa (Qd Z) Z (Qh Z Z Z Z (Qh Z Z Z Z (Qh Z Z Z Z (Qh Z Z Z Z (Qa (Qx Z Z) Z (Qa (Qd Z) Z (Qh Z Z Z Z (Qh Z Z Z Z (Qh Z Z Z Z (Qh Z Z Z Z (Q9 Z Z Z (Q9 Z Z Z (Q9 Z Z Z (Q9 Z Z Z (Qh Z Z Z Z (Qa (Qx Z Z) Z (Qq ⟨Z,Z,Z,Z,congrArg (fun b=>some (Value.bool b)) (show true = (((((!(Yr x.kind 1 8)) || (!p0)) || (!q0)) || (decide (2 < ((x.outs.length : Nat) : Int)))) || ((x.kind == 8) && (decide (0 < ((x.outs.length : Nat) : Int))))) by first | (rw [hg1,hg2] <;> rfl) | (simp [hg1,hg2];done) | (simp only [Qp] <;> simp)),trivial⟩ Z))))))))))))))))))))
    ·refine Qn Z Z (Qd Z) Z (Qn Z Z (Yt Z) Z (Qa (Q1 Z Z) Z (Qa (Qd Z) Z ?_)))
     refine Y1 (gd:=47) Z Z (fun hg3=>?_) (fun hg3=>?_)
     ·refine Qh Z Z Z Z (Qh Z Z Z Z (Qh Z Z Z Z (Qh Z Z Z Z (Qa (Qx Z Z) Z (Qa (Qd Z) Z (Qh Z Z Z Z (Qh Z Z Z Z (Qh Z Z Z Z (Qh Z Z Z Z (Q9 Z Z Z (Q9 Z Z Z (Q9 Z Z Z (Q9 Z Z Z (Qh Z Z Z Z (Qa (Qx Z Z) Z (Qq ⟨Z,Z,Z,Z,congrArg (fun b=>some (Value.bool b)) (show true = (((((!(Yr x.kind 1 8)) || (!p0)) || (!q0)) || (decide (2 < ((x.outs.length : Nat) : Int)))) || ((x.kind == 8) && (decide (0 < ((x.outs.length : Nat) : Int))))) by first | (rw [hg1,hg2,hg3] <;> rfl) | (simp [hg1,hg2,hg3];done) | (simp only [Qp] <;> simp)),trivial⟩ Z))))))))))))))))
     ·refine Qn Z Z (Qb Xk Z) Z (Qn Z Z (Qk Ks Z (h1.one 3 Z)) Z (Qn Z Z (Yb Tryz.underlying76 Z (hd1.ext E).len) Z (Qn Z Z (G1 Z Z) Z (Qa (Q1 Z Z) Z (Qa (Qd Z) Z ?_)))))
      refine Y1 (gd:=53) Z Z (fun hg4=>?_) (fun hg4=>?_)
      ·have hg4n : x.outs.length > 2:=by first | (have h:=of_decide_eq_true hg4;omega) | (have h:=hg4;simp at h;omega)
       refine Qh Z Z Z Z (Qh Z Z Z Z (Qh Z Z Z Z (Qh Z Z Z Z (Q9 Z Z Z (Q9 Z Z Z (Q9 Z Z Z (Q9 Z Z Z (Qh Z Z Z Z (Qa (Qx Z Z) Z (Qq ⟨Z,Z,Z,Z,congrArg (fun b=>some (Value.bool b)) (show true = (((((!(Yr x.kind 1 8)) || (!p0)) || (!q0)) || (decide (2 < ((x.outs.length : Nat) : Int)))) || ((x.kind == 8) && (decide (0 < ((x.outs.length : Nat) : Int))))) by first | (rw [hg1,hg2,hg3,hg4] <;> rfl) | (simp [hg1,hg2,hg3,hg4];done) | (simp only [Qp] <;> simp)),trivial⟩ Z))))))))))
      ·have hg4n : ¬ x.outs.length > 2:=by first | (have h:=of_decide_eq_false hg4;omega) | (have h:=hg4;simp at h;omega)
       refine Qn Z Z (Qb Ke Z) Z (Qn Z Z (Qk Yp Z (h1.one 0 Z)) Z (Qn Z Z (Xg Z Z) Z (Qn Z Z (Qd Z) Z ?_)))
       refine Y1 (gd:=57) Z Z (fun hg5=>?_) (fun hg5=>?_)
       ·refine Qn Z Z (Qb Xk Z) Z (Qn Z Z (Qk Ks Z (h1.one 3 Z)) Z (Qn Z Z (Yb Tryz.underlying76 Z (hd1.ext E).len) Z (Qn Z Z (G1 Z Z) Z (Qn Z Z (Qx Z Z) Z (Qa (Q1 Z Z) Z (Qq ⟨Z,Z,Z,Z,congrArg (fun b=>some (Value.bool b)) (show (decide (0 < ((x.outs.length : Nat) : Int))) = (((((!(Yr x.kind 1 8)) || (!p0)) || (!q0)) || (decide (2 < ((x.outs.length : Nat) : Int)))) || ((x.kind == 8) && (decide (0 < ((x.outs.length : Nat) : Int))))) by first | (rw [hg1,hg2,hg3,hg4,hg5] <;> rfl) | (simp [hg1,hg2,hg3,hg4,hg5];done) | (simp only [Qp] <;> simp)),trivial⟩ Z))))))
       ·refine Qh Z Z Z Z (Qh Z Z Z Z (Qh Z Z Z Z (Qh Z Z Z Z (Qn Z Z (Q1 Z Z) Z (Qa (Q1 Z Z) Z (Qq ⟨Z,Z,Z,Z,congrArg (fun b=>some (Value.bool b)) (show false = (((((!(Yr x.kind 1 8)) || (!p0)) || (!q0)) || (decide (2 < ((x.outs.length : Nat) : Int)))) || ((x.kind == 8) && (decide (0 < ((x.outs.length : Nat) : Int))))) by first | (rw [hg1,hg2,hg3,hg4,hg5] <;> rfl) | (simp [hg1,hg2,hg3,hg4,hg5];done) | (simp only [Qp] <;> simp)),trivial⟩ Z))))))
  rintro _ rfl
  refine Qc (Qr Z (fun hc4=>?_) (fun hc4=>?_))
  ·refine Qe (Qg [true] Z Z (Qa (Qf Z) Z (Qc (Qt (Ql Z Z E ?_)))))
   exact node_s hpq (by assumption)
  ·refine Qm (Qe (Qe (Qg [true] Z Z (Qa (Qf Z) Z (Qc (Qw (Yk (fun (k : Nat)=>[(1,.pointer (some ⟨b1,0,none⟩)),(2,.bool false),(5,.int .i64 ((k : Nat) : Int))]) (fun (k : Nat) w'=>Ext w w' ∧ w7.heap.size ≤ w'.heap.size ∧ Blk w' b1 ([.int .i64 x.kind,.int .i64 x.a,.int .i64 x.b,o1]) ∧ k ≤ x.outs.length ∧ (x.outs.take k).all (Yr · 0 7) = true ∧ (1 < k → ((List.getD x.outs 0 default) == (List.getD x.outs 1 default)) = false)) (fun (k : Nat)=>x.outs.length - k) 0 ⟨Z,Z,Z,trivial⟩ ⟨E,Nat.le_refl _,h1,Nat.zero_le _,Z,(by omega)⟩ ?_)))))))
   clear E h1
   rintro k w9 ⟨E,z8,h1,hk,hI,hJ⟩
   refine Qe (Qe (Qg [true,true,true,true,true] Z Z (Qa (Qd Z) Z (Qa (Qb Xk Z) Z (Qa (Qk Ks Z (h1.one 3 Z)) Z (Qa (Yb Tryz.underlying76 Z (hd1.ext E).len) Z (Qa (Yf Z Z) Z (Qc (Qr Z (fun hc5=>?_) (fun hc5=>?_))))))))))
   ·have hc5n : k < x.outs.length:=by first | (have h:=of_decide_eq_true hc5;omega) | (have h:=hc5;simp at h;omega)
    refine Qm (Qe (Qw (Qe (Xw Xp [(0,true),(1,true),(2,true),(3,true),(4,true),(5,false),(6,true),(7,true),(8,true),(9,true),(10,true),(11,true),(12,true),(13,true),(14,true),(15,true),(16,true),(17,true),(18,true),(19,true),(20,true),(21,true)] (by decide +kernel) Z (fun w10 e7=>?_)))))
    replace E:=E.trans e7;replace h1:=h1.ext e7
    have z9:=e7.size
    refine Qa (Qb Xk Z) Z (Qa (Qk Ks Z (h1.one 3 Z)) Z (Qa (Qd Z) Z ?_))
    have hi1 : k < x.outs.length:=(by first | assumption | omega | (simp only [List.length_set];first | assumption | omega) | (simp only [List.getElem_set_self,List.length_set];first | assumption | omega))
    refine Qa (Qv (i:=k) Uq Z Z (hd1.rd.ext E) hi1) Z (Qa (Qk Yp Z (((hd1.rd.ext E).get hi1).one 0 Z)) Z (Qu Tryz.call106 Z (s_l01In (x.outs[k]'hi1) 0 7 _ ) Z (fun _ w11 e8 hv=>?_)))
    subst hv
    replace E:=E.trans e8;replace h1:=h1.ext e8
    have z10:=e8.size
    refine Qa (Yt Z) Z (Qa (Qd Z) Z (Xd 14 [(1,.pointer (some ⟨b1,0,none⟩)),(2,.bool false),(5,.int .i64 ((k : Nat) : Int)),(64,.int .i64 ((k : Nat) : Int)),(65,.pointer (some ⟨b1,3,none⟩)),(66,o1),(67,.int .i64 ((x.outs.length : Nat) : Int)),(68,.bool (decide (((k : Nat) : Int) < ((x.outs.length : Nat) : Int)))),(92,.bool ((!(Yr (x.outs[k]'hi1) 0 7)) || ((decide (0 < ((k : Nat) : Int))) && ((List.getD x.outs 0 default) == (List.getD x.outs 1 default)))))] (fun w'=>w11 = w') ?_ ?_))
    ·refine Y1 (gd:=78) Z Z (fun hg6=>?_) (fun hg6=>?_)
     ·refine Qh Z Z Z Z (Qh Z Z Z Z (Qh Z Z Z Z (Q9 Z Z Z (Q9 Z Z Z (Q9 Z Z Z (Q9 Z Z Z (Q9 Z Z Z (Q9 Z Z Z (Q9 Z Z Z (Q9 Z Z Z (Q9 Z Z Z (Qh Z Z Z Z (Qa (Qx Z Z) Z (Qq ⟨Z,Z,Z,Z,Z,Z,Z,Z,congrArg (fun b=>some (Value.bool b)) (show true = ((!(Yr (x.outs[k]'hi1) 0 7)) || ((decide (0 < ((k : Nat) : Int))) && ((List.getD x.outs 0 default) == (List.getD x.outs 1 default)))) by first | (rw [hg6] <;> rfl) | (simp [hg6];done) | (simp only [Qp] <;> simp)),trivial⟩ Z))))))))))))))
     ·refine Qn Z Z (Qd Z) Z (Qn Z Z (G1 Z Z) Z (Qn Z Z (Qd Z) Z ?_))
      refine Y1 (gd:=81) Z Z (fun hg7=>?_) (fun hg7=>?_)
      ·have hg7n : k > 0:=by first | (have h:=of_decide_eq_true hg7;omega) | (have h:=hg7;simp at h;omega)
       refine Qn Z Z (Qb Xk Z) Z (Qn Z Z (Qk Ks Z (h1.one 3 Z)) Z (Qn Z Z (Qv (i:=0) Uq Z Z (hd1.rd.ext E) (by first | assumption | omega | (simp only [List.length_set];first | assumption | omega) | (simp only [List.getElem_set_self,List.length_set];first | assumption | omega))) Z (Qn Z Z (Qk Yp Z ((RdS.getD (hd1.rd.ext E) (i:=0) (by first | assumption | omega | (simp only [List.length_set];first | assumption | omega) | (simp only [List.getElem_set_self,List.length_set];first | assumption | omega))).one 0 Z)) Z (Qn Z Z (Qb Xk Z) Z (Qn Z Z (Qk Ks Z (h1.one 3 Z)) Z (Qn Z Z (Qv (i:=1) Uq Z Z (hd1.rd.ext E) (by first | assumption | omega | (simp only [List.length_set];first | assumption | omega) | (simp only [List.getElem_set_self,List.length_set];first | assumption | omega))) Z (Qn Z Z (Qk Yp Z ((RdS.getD (hd1.rd.ext E) (i:=1) (by first | assumption | omega | (simp only [List.length_set];first | assumption | omega) | (simp only [List.getElem_set_self,List.length_set];first | assumption | omega))).one 0 Z)) Z (Qn Z Z (Xg Z Z) Z (Qn Z Z (Qx Z Z) Z (Qa (Q1 Z Z) Z (Qq ⟨Z,Z,Z,Z,Z,Z,Z,Z,congrArg (fun b=>some (Value.bool b)) (show ((List.getD x.outs 0 default) == (List.getD x.outs 1 default)) = ((!(Yr (x.outs[k]'hi1) 0 7)) || ((decide (0 < ((k : Nat) : Int))) && ((List.getD x.outs 0 default) == (List.getD x.outs 1 default)))) by first | (rw [hg6,hg7] <;> rfl) | (simp [hg6,hg7];done) | (simp only [Qp] <;> simp)),trivial⟩ Z)))))))))))
      ·have hg7n : ¬ k > 0:=by first | (have h:=of_decide_eq_false hg7;omega) | (have h:=hg7;simp at h;omega)
       refine Qh Z Z Z Z (Qh Z Z Z Z (Qh Z Z Z Z (Qh Z Z Z Z (Qh Z Z Z Z (Qh Z Z Z Z (Qh Z Z Z Z (Qh Z Z Z Z (Qh Z Z Z Z (Qn Z Z (Q1 Z Z) Z (Qa (Q1 Z Z) Z (Qq ⟨Z,Z,Z,Z,Z,Z,Z,Z,congrArg (fun b=>some (Value.bool b)) (show false = ((!(Yr (x.outs[k]'hi1) 0 7)) || ((decide (0 < ((k : Nat) : Int))) && ((List.getD x.outs 0 default) == (List.getD x.outs 1 default)))) by first | (rw [hg6,hg7] <;> rfl) | (simp [hg6,hg7];done) | (simp only [Qp] <;> simp)),trivial⟩ Z)))))))))))
    rintro _ rfl
    refine Qc (Qr Z (fun hc6=>?_) (fun hc6=>?_))
    ·refine Qe (Qg [true] Z Z (Qa (Qf Z) Z (Qc (Qt (Q0 (Yq (Q0 (Ql Z Z E ?_))))))))
     exact node_d (by assumption) (node_p (p:=p0) (q:=q0) (by assumption) hpq).2
    ·refine Qm (Q5 (Yv (Qg [true,true,true] Z Z (Qa (Qd Z) Z (Qa (Yd Z Z (Yy hc5n (hd1.ext E).1.1)) Z (Qa (Qf Z) Z (Qc (Q5 (Yg (k + 1) (by omega) ⟨Z,Z,Z,trivial⟩ ⟨E,(by omega),h1,(by omega),X9 hI (by assumption) (nodeL (by assumption)),nodeJ (by assumption)⟩)))))))))
   ·have hc5n : ¬ k < x.outs.length:=by first | (have h:=of_decide_eq_false hc5;omega) | (have h:=hc5;simp at h;omega)
    refine Ym (Q4 (Q2 ?_))
    refine Qe (Qg [true] Z Z (Qa (Qf Z) Z (Qc (Qt (Ql Z Z E ?_)))))
    exact node_z (p:=p0) (q:=q0) (by assumption) hpq hI hJ (by omega)

set_option maxHeartbeats 4000000 in
set_option maxRecDepth 20000 in
theorem c_GraphOk (cg : List Value) (g : Graph) (w : World) (hg : Dat.R w 0 w.heap.size cg g) : Ct Tryz.prog 116 [.agg cg.toArray] w (fun v _=>v = .bool (Y4 g)):=by
 refine Yi Tryz.func116 Z Tryz.ntmps116 Z ?_
 obtain ⟨o1,rfl,hd1⟩:=Graph.op hg
 refine Q7 [(0,.agg [o1,.int .i64 g.workers,.int .i64 g.cap].toArray)] ⟨Z,trivial⟩ ?_
 have E : Ext w w:=Ext.refl w
 refine Qe (Qg [false,true] Z Z (Yz Z Z (fun b1 w1 e1 s1 h1=>?_)))
 have g_b1 : w.heap.size ≤ b1:=by have:=E.size;omega
 have y_b1:=h1.lt
 replace E:=E.trans e1
 have z1:=e1.size
 refine Qa (Qf Z) Z (Qc (Qe (Qe (Qg [true,true,true,false,true,true,true,true,false,true,true,true,true,true,false,true,true] Z Z (Qa (Qb Kn Z) Z (Qa (Qk Ge Z (h1.one 0 Z)) Z (Qa (Yb Tryz.underlying32 Z (hd1.ext E).len) Z (Qu Tryz.call71 Z (c_within ((g.nodes.length : Nat) : Int) 1 8 _ ) Z (fun _ w2 e2 hv=>?_)))))))))
 subst hv
 replace E:=E.trans e2;replace h1:=h1.ext e2
 have z2:=e2.size
 refine Qa (Yt Z) Z (Qa (Qd Z) Z (Xd 11 [(0,.agg [o1,.int .i64 g.workers,.int .i64 g.cap].toArray),(1,.pointer (some ⟨b1,0,none⟩)),(2,.bool false),(24,.bool (((!(Yr ((g.nodes.length : Nat) : Int) 1 8)) || (!(Yr g.workers 1 4))) || (!(Yr g.cap 1 4))))] (fun w'=>Ext w w' ∧ w2.heap.size ≤ w'.heap.size ∧ Blk w' b1 ([o1,.int .i64 g.workers,.int .i64 g.cap])) ?_ ?_))
 ·refine Y1 (gd:=13) Z Z (fun hg1=>?_) (fun hg1=>?_)
  ·refine Qh Z Z Z Z (Qh Z Z Z Z ?_)
   refine Yw Z Z Z Z ?_
   refine Qh Z Z Z Z (Qa (Qx Z Z) Z (Qa (Qd Z) Z (Qh Z Z Z Z (Qh Z Z Z Z ?_))))
   refine Yw Z Z Z Z ?_
   refine Qh Z Z Z Z (Qa (Qx Z Z) Z (Qq ⟨Z,Z,Z,congrArg (fun b=>some (Value.bool b)) (show true = (((!(Yr ((g.nodes.length : Nat) : Int) 1 8)) || (!(Yr g.workers 1 4))) || (!(Yr g.cap 1 4))) by first | (rw [hg1] <;> rfl) | (simp [hg1];done) | (simp only [Qp] <;> simp)),trivial⟩ ⟨E,(by omega),h1⟩))
  ·refine Qn Z Z (Qb Vn Z) Z (Qn Z Z (Qk Yp Z (h1.one 1 Z)) Z ?_)
   refine X4 Z Z ?_
   refine Qu Tryz.call71 Z (c_within g.workers 1 4 _ ) Z (fun _ w4 e3 hv=>?_)
   subst hv
   replace E:=E.trans e3;replace h1:=h1.ext e3
   have z3:=e3.size
   refine Qn Z Z (Yt Z) Z (Qa (Q1 Z Z) Z (Qa (Qd Z) Z ?_))
   refine Y1 (gd:=19) Z Z (fun hg2=>?_) (fun hg2=>?_)
   ·refine Qh Z Z Z Z (Qh Z Z Z Z ?_)
    refine Yw Z Z Z Z ?_
    refine Qh Z Z Z Z (Qa (Qx Z Z) Z (Qq ⟨Z,Z,Z,congrArg (fun b=>some (Value.bool b)) (show true = (((!(Yr ((g.nodes.length : Nat) : Int) 1 8)) || (!(Yr g.workers 1 4))) || (!(Yr g.cap 1 4))) by first | (rw [hg1,hg2] <;> rfl) | (simp [hg1,hg2];done) | (simp only [Qp] <;> simp)),trivial⟩ ⟨E,(by omega),h1⟩))
   ·refine Qn Z Z (Qb T1 Z) Z (Qn Z Z (Qk Yp Z (h1.one 2 Z)) Z ?_)
    refine X4 Z Z ?_
    refine Qu Tryz.call71 Z (c_within g.cap 1 4 _ ) Z (fun _ w5 e4 hv=>?_)
    subst hv
    replace E:=E.trans e4;replace h1:=h1.ext e4
    have z4:=e4.size
    refine Qn Z Z (Yt Z) Z (Qa (Q1 Z Z) Z (Qq ⟨Z,Z,Z,congrArg (fun b=>some (Value.bool b)) (show (!(Yr g.cap 1 4)) = (((!(Yr ((g.nodes.length : Nat) : Int) 1 8)) || (!(Yr g.workers 1 4))) || (!(Yr g.cap 1 4))) by first | (rw [hg1,hg2] <;> rfl) | (simp [hg1,hg2];done) | (simp only [Qp] <;> simp)),trivial⟩ ⟨E,(by omega),h1⟩))
 clear E h1
 rintro w3 ⟨E,z5,h1⟩
 refine Qc (Qr Z (fun hc1=>?_) (fun hc1=>?_))
 ·refine Qe (Qg [true] Z Z (Qa (Qf Z) Z (Qc (Qt (Ql Z Z E ?_)))))
  exact graph_h (by assumption)
 ·refine Qm (Qe (Qe (Qg [true,true,true,true] Z Z (Qa (Qb Kn Z) Z (Qa (Qk Ge Z (h1.one 0 Z)) Z (Qa (Yb Tryz.underlying32 Z (hd1.ext E).len) Z (Qa (Qd Z) Z (Qc (Qw (Yk (fun (i : Nat)=>[(1,.pointer (some ⟨b1,0,none⟩)),(2,.bool false),(26,o1),(27,.int .i64 ((g.nodes.length : Nat) : Int)),(28,.int .i64 ((i : Nat) : Int))]) (fun (i : Nat) w'=>Ext w w' ∧ w3.heap.size ≤ w'.heap.size ∧ Blk w' b1 ([o1,.int .i64 g.workers,.int .i64 g.cap]) ∧ i ≤ g.nodes.length ∧ (∀ j,j < i → K3 g j (List.getD g.nodes j default) = true)) (fun (i : Nat)=>g.nodes.length - i) 0 ⟨Z,Z,Z,Z,Z,trivial⟩ ⟨E,Nat.le_refl _,h1,Nat.zero_le _,(fun j hj=>by omega)⟩ ?_))))))))))
  clear E h1
  rintro i w6 ⟨E,z6,h1,hle,hp⟩
  refine Qe (Qg [true] Z Z (Qa (Yf Z Z) Z (Qc (Qe (Qr Z (fun hc2=>?_) (fun hc2=>?_))))))
  ·have hc2n : i < g.nodes.length:=by first | (have h:=of_decide_eq_true hc2;omega) | (have h:=hc2;simp at h;omega)
   refine Qm (Qe (Qw (Qe (Qg [true,true,true,false,true,false] Z Z (Qa (Qd Z) Z ?_)))))
   have hi1 : i < g.nodes.length:=(by first | assumption | omega | (simp only [List.length_set];first | assumption | omega) | (simp only [List.getElem_set_self,List.length_set];first | assumption | omega))
   obtain ⟨_,hr1,ha1⟩:=RdD.get hd1 hi1
   obtain ⟨o2,rfl,hd2⟩:=Node.op hr1
   replace ha1 : At w (Y2 o1) (Y9 o1 + i * 4) [.int .i64 ((g.nodes[i]'hi1).kind),.int .i64 ((g.nodes[i]'hi1).a),.int .i64 ((g.nodes[i]'hi1).b),o2]:=ha1
   refine Qa (Qv (i:=i) Gt Z Z (hd1.ext E).1 hi1) Z (Qa (Qy K7 Z (ha1.ext E) Z) Z (Yj K7 Z (fun b2 w7 e5 s2 h2=>?_)))
   have g_b2 : w.heap.size ≤ b2:=by have:=E.size;omega
   have y_b2:=h2.lt
   replace E:=E.trans e5;replace h1:=h1.ext e5
   have z7:=e5.size
   refine Qa (Qf Z) Z (Q6 (cs':=[.int .i64 ((g.nodes[i]'hi1).kind),.int .i64 ((g.nodes[i]'hi1).a),.int .i64 ((g.nodes[i]'hi1).b),o2]) K7 Z Z Z (Qj Z (Qj Z (Qj Z (Qj (RdD.one (hd2.ext E)) Z)))) h2 (Nat.le_of_ble_eq_true Z) Z (fun w8 m1 h2'=>?_))
   replace h2:=h2'
   replace E:=E.step m1 (fun g hg=>by cases hg;omega);replace h1:=h1.mod m1 (fun g hg=>by cases hg;omega)
   have z8:=m1.size
   refine Qc (Qe (Qe (Qg [true,false,true,true,true,true,true,true,true,true,true] Z Z (Qa (Qy K7 Z h2.at Z) Z (Qu Tryz.call134 Z (c_NodeOk [.int .i64 ((g.nodes[i]'hi1).kind),.int .i64 ((g.nodes[i]'hi1).a),.int .i64 ((g.nodes[i]'hi1).b),o2] (g.nodes[i]'hi1) _ (Node.mkR (g.nodes[i]'hi1) (RdD.any (hd2.ext E)))) Z (fun _ w9 e6 hv=>?_))))))
   subst hv
   replace E:=E.trans e6;replace h1:=h1.ext e6;replace h2:=h2.ext e6
   have z9:=e6.size
   refine Qa (Yt Z) Z (Qa (Qd Z) Z (Xd 7 [(1,.pointer (some ⟨b1,0,none⟩)),(2,.bool false),(3,.int .i64 ((i : Nat) : Int)),(4,.pointer (some ⟨b2,0,none⟩)),(26,o1),(27,.int .i64 ((g.nodes.length : Nat) : Int)),(28,.int .i64 ((i : Nat) : Int)),(29,.bool (decide (((i : Nat) : Int) < ((g.nodes.length : Nat) : Int)))),(30,.int .i64 ((i : Nat) : Int)),(31,.pointer (some ⟨Y2 o1,Y9 o1 + i * 4,none⟩)),(32,.agg [.int .i64 ((g.nodes[i]'hi1).kind),.int .i64 ((g.nodes[i]'hi1).a),.int .i64 ((g.nodes[i]'hi1).b),o2].toArray),(43,.bool ((!(X6 (g.nodes[i]'hi1))) || (!((((g.nodes[i]'hi1).kind) == 1) == (((i : Nat) : Int) == 0)))))] (fun w'=>w9 = w') ?_ ?_))
   ·refine Y1 (gd:=36) Z Z (fun hg3=>?_) (fun hg3=>?_)
    ·refine Qh Z Z Z Z (Qh Z Z Z Z (Qh Z Z Z Z (Qh Z Z Z Z (Qh Z Z Z Z (Qh Z Z Z Z (Qa (Qx Z Z) Z (Qq ⟨Z,Z,Z,Z,Z,Z,Z,Z,Z,Z,Z,congrArg (fun b=>some (Value.bool b)) (show true = ((!(X6 (g.nodes[i]'hi1))) || (!((((g.nodes[i]'hi1).kind) == 1) == (((i : Nat) : Int) == 0)))) by first | (rw [hg3] <;> rfl) | (simp [hg3];done) | (simp only [Qp] <;> simp)),trivial⟩ Z)))))))
    ·refine Qn Z Z (Qb Ke Z) Z (Qn Z Z (Qk Yp Z (h2.one 0 Z)) Z (Qn Z Z (Xg Z Z) Z (Qn Z Z (Qd Z) Z (Qn Z Z (Xg Z Z) Z (Qn Z Z (Uz (Tryz.underlying4) Z Z) Z (Qa (Q1 Z Z) Z (Qq ⟨Z,Z,Z,Z,Z,Z,Z,Z,Z,Z,Z,congrArg (fun b=>some (Value.bool b)) (show (!((((g.nodes[i]'hi1).kind) == 1) == (((i : Nat) : Int) == 0))) = ((!(X6 (g.nodes[i]'hi1))) || (!((((g.nodes[i]'hi1).kind) == 1) == (((i : Nat) : Int) == 0)))) by first | (rw [hg3] <;> rfl) | (simp [hg3];done) | (simp only [Qp] <;> simp)),trivial⟩ Z)))))))
   rintro _ rfl
   refine Qc (Qr Z (fun hc3=>?_) (fun hc3=>?_))
   ·refine Qe (Qg [true] Z Z (Qa (Qf Z) Z (Qc (Qt (Q0 (Yq (Q0 (Ql Z Z E ?_))))))))
    exact graph_a (by assumption)
   ·refine Qm (Qe (Qg [true,true,true,true] Z Z (Qa (Qb Xk Z) Z (Qa (Qk Ks Z (h2.one 3 Z)) Z (Qa (Yb Tryz.underlying76 Z (hd2.ext E).len) Z (Qa (Qd Z) Z (Qc (Qw (Yk (fun (k : Nat)=>[(1,.pointer (some ⟨b1,0,none⟩)),(2,.bool false),(3,.int .i64 ((i : Nat) : Int)),(4,.pointer (some ⟨b2,0,none⟩)),(26,o1),(27,.int .i64 ((g.nodes.length : Nat) : Int)),(28,.int .i64 ((i : Nat) : Int)),(45,o2),(46,.int .i64 ((((g.nodes[i]'hi1).outs).length : Nat) : Int)),(47,.int .i64 ((k : Nat) : Int))]) (fun (k : Nat) w'=>Ext w w' ∧ w9.heap.size ≤ w'.heap.size ∧ Blk w' b1 ([o1,.int .i64 g.workers,.int .i64 g.cap]) ∧ Blk w' b2 [.int .i64 ((g.nodes[i]'hi1).kind),.int .i64 ((g.nodes[i]'hi1).a),.int .i64 ((g.nodes[i]'hi1).b),o2] ∧ k ≤ (g.nodes[i]'hi1).outs.length ∧ ((g.nodes[i]'hi1).outs.take k).all (fun to=>!K9 g i (g.nodes[i]'hi1) to) = true) (fun (k : Nat)=>(g.nodes[i]'hi1).outs.length - k) 0 ⟨Z,Z,Z,Z,Z,Z,Z,Z,Z,Z,trivial⟩ ⟨E,Nat.le_refl _,h1,h2,Nat.zero_le _,Z⟩ ?_)))))))))
    clear E h1 h2
    rintro k w11 ⟨E,z10,h1,h2,hk,hI⟩
    refine Qe (Qg [true] Z Z (Qa (Yf Z Z) Z (Qc (Qe (Qr Z (fun hc4=>?_) (fun hc4=>?_))))))
    ·have hc4n : k < ((g.nodes[i]'hi1).outs).length:=by first | (have h:=of_decide_eq_true hc4;omega) | (have h:=hc4;simp at h;omega)
     refine Qm (Qe (Qw (Qe (Qg [true,true,true] Z Z ?_))))
     have hi2 : k < ((g.nodes[i]'hi1).outs).length:=(by first | assumption | omega | (simp only [List.length_set];first | assumption | omega) | (simp only [List.getElem_set_self,List.length_set];first | assumption | omega))
     refine Qa (Qv (i:=k) Uq Z Z (hd2.rd.ext E) hi2) Z (Qa (Qk Yp Z (((hd2.rd.ext E).get hi2).one 0 Z)) Z (Qa (Qf Z) Z (Qc (Qe (Qe (Qg [true,true,true,true,true] Z Z (Qa (Qd Z) Z (Qa (Qb Kn Z) Z (Qa (Qk Ge Z (h1.one 0 Z)) Z (Qa (Yb Tryz.underlying32 Z (hd1.ext E).len) Z (Qa (T4 Z Z) Z (Qc (Qr Z (fun hc5=>?_) (fun hc5=>?_))))))))))))))
     ·refine Qe (Qg [true] Z Z (Qa (Qf Z) Z (Qc (Qt (Q0 (Yq (Q0 (Q0 (Yq (Q0 (Ql Z Z E ?_)))))))))))
      exact A6 (edge_a (by assumption))
     ·have hto:=Bs (h1:=hi1) (h2:=hi2) (by assumption)
      have htl:=Int.not_le.1 (of_decide_eq_false hc5)
      refine Qm (Qe (Qg [true,true,true,true,true,true,true] Z Z (Qa (Qb Kn Z) Z (Qa (Qk Ge Z (h1.one 0 Z)) Z (Qa (Qd Z) Z ?_)))))
      have hi3 : (Int.toNat (((g.nodes[i]'hi1).outs)[k]'hi2)) < g.nodes.length:=(by first | assumption | omega | (simp only [List.length_set];first | assumption | omega) | (simp only [List.getElem_set_self,List.length_set];first | assumption | omega))
      obtain ⟨_,hr2,ha2⟩:=RdD.get hd1 hi3
      obtain ⟨o3,rfl,hd3⟩:=Node.op hr2
      replace ha2 : At w (Y2 o1) (Y9 o1 + (Int.toNat (((g.nodes[i]'hi1).outs)[k]'hi2)) * 4) [.int .i64 ((g.nodes[(Int.toNat (((g.nodes[i]'hi1).outs)[k]'hi2))]'hi3).kind),.int .i64 ((g.nodes[(Int.toNat (((g.nodes[i]'hi1).outs)[k]'hi2))]'hi3).a),.int .i64 ((g.nodes[(Int.toNat (((g.nodes[i]'hi1).outs)[k]'hi2))]'hi3).b),o3]:=ha2
      refine Qa (Xs (i:=(Int.toNat (((g.nodes[i]'hi1).outs)[k]'hi2))) Gt Z Z (hd1.ext E).1 (by omega) hi3) Z (Qa (Qs Ke Z) Z (Qa (Qk Yp Z ((ha2.ext E).one 0 Z)) Z (Qa (Qf Z) Z (Qc (Qe (Qg [true,true,true,true,true,true,true,true,true,true,true,true,true,true,true,true,true,true,true,true,true,true,true,true,true,true] Z Z (Qa (Qb Ke Z) Z (Qa (Qk Yp Z (h2.one 0 Z)) Z (Qa (Xg Z Z) Z (Qa (Qd Z) Z (Xd 22 [(1,.pointer (some ⟨b1,0,none⟩)),(2,.bool false),(3,.int .i64 ((i : Nat) : Int)),(4,.pointer (some ⟨b2,0,none⟩)),(6,.int .i64 (((g.nodes[i]'hi1).outs)[k]'hi2)),(7,.int .i64 ((g.nodes[(Int.toNat (((g.nodes[i]'hi1).outs)[k]'hi2))]'hi3).kind)),(26,o1),(27,.int .i64 ((g.nodes.length : Nat) : Int)),(28,.int .i64 ((i : Nat) : Int)),(45,o2),(46,.int .i64 ((((g.nodes[i]'hi1).outs).length : Nat) : Int)),(47,.int .i64 ((k : Nat) : Int)),(48,.bool (decide (((k : Nat) : Int) < ((((g.nodes[i]'hi1).outs).length : Nat) : Int)))),(49,.pointer (some ⟨Y2 o2,Y9 o2 + k * 1,none⟩)),(50,.int .i64 (((g.nodes[i]'hi1).outs)[k]'hi2)),(51,.int .i64 (((g.nodes[i]'hi1).outs)[k]'hi2)),(52,.pointer (some ⟨b1,0,none⟩)),(53,o1),(54,.int .i64 ((g.nodes.length : Nat) : Int)),(55,.bool (decide (((g.nodes.length : Nat) : Int) ≤ (((g.nodes[i]'hi1).outs)[k]'hi2)))),(56,.pointer (some ⟨b1,0,none⟩)),(57,o1),(58,.int .i64 (((g.nodes[i]'hi1).outs)[k]'hi2)),(59,.pointer (some ⟨Y2 o1,Y9 o1 + (Int.toNat (((g.nodes[i]'hi1).outs)[k]'hi2)) * 4,none⟩)),(60,.pointer (some ⟨(Y2 o1),Y9 o1 + (Int.toNat (((g.nodes[i]'hi1).outs)[k]'hi2)) * 4 + 0,none⟩)),(61,.int .i64 ((g.nodes[(Int.toNat (((g.nodes[i]'hi1).outs)[k]'hi2))]'hi3).kind)),(87,.bool (((((g.nodes[i]'hi1).kind) == 7) && ((decide (((i : Nat) : Int) < (((g.nodes[i]'hi1).outs)[k]'hi2))) || ((((g.nodes[(Int.toNat (((g.nodes[i]'hi1).outs)[k]'hi2))]'hi3).kind) != 5) && (((g.nodes[(Int.toNat (((g.nodes[i]'hi1).outs)[k]'hi2))]'hi3).kind) != 6)))) || ((((g.nodes[i]'hi1).kind) != 7) && (decide ((((g.nodes[i]'hi1).outs)[k]'hi2) ≤ ((i : Nat) : Int))))))] (fun w'=>w11 = w') ?_ ?_)))))))))))
      ·refine Y1 (gd:=65) Z Z (fun hg4=>?_) (fun hg4=>?_)
       ·refine Qn Z Z (Qd Z) Z (Qn Z Z (Qd Z) Z (Qn Z Z (G1 Z Z) Z (Qn Z Z (Qd Z) Z ?_)))
        refine Y1 (gd:=69) Z Z (fun hg5=>?_) (fun hg5=>?_)
        ·refine Qh Z Z Z Z (Qh Z Z Z Z (Qh Z Z Z Z (Q9 Z Z Z (Q9 Z Z Z (Qh Z Z Z Z (Qn Z Z (Qx Z Z) Z (Qa (Qx Z Z) Z (Qa (Qd Z) Z (Qh Z Z Z Z (Qh Z Z Z Z (Qh Z Z Z Z (Qh Z Z Z Z (Q9 Z Z Z (Q9 Z Z Z (Q9 Z Z Z (Qh Z Z Z Z (Qa (Qx Z Z) Z (Qq ⟨Z,Z,Z,Z,Z,Z,Z,Z,Z,Z,Z,Z,Z,Z,Z,Z,Z,Z,Z,Z,Z,Z,Z,Z,Z,Z,congrArg (fun b=>some (Value.bool b)) (show true = (((((g.nodes[i]'hi1).kind) == 7) && ((decide (((i : Nat) : Int) < (((g.nodes[i]'hi1).outs)[k]'hi2))) || ((((g.nodes[(Int.toNat (((g.nodes[i]'hi1).outs)[k]'hi2))]'hi3).kind) != 5) && (((g.nodes[(Int.toNat (((g.nodes[i]'hi1).outs)[k]'hi2))]'hi3).kind) != 6)))) || ((((g.nodes[i]'hi1).kind) != 7) && (decide ((((g.nodes[i]'hi1).outs)[k]'hi2) ≤ ((i : Nat) : Int))))) by first | (rw [hg4,hg5] <;> rfl) | (simp [hg4,hg5];done) | (simp only [Qp] <;> simp)),trivial⟩ Z))))))))))))))))))
        ·refine Qn Z Z (Qd Z) Z (Qn Z Z (Yo Z Z) Z (Qn Z Z (Qd Z) Z ?_))
         refine Y1 (gd:=72) Z Z (fun hg6=>?_) (fun hg6=>?_)
         ·refine Qn Z Z (Qd Z) Z (Qn Z Z (Yo Z Z) Z (Qn Z Z (Qx Z Z) Z (Qn Z Z (Q1 Z Z) Z (Qa (Qx Z Z) Z (Qa (Qd Z) Z ?_)))))
          refine Y1 (gd:=78) Z Z (fun hg7=>?_) (fun hg7=>?_)
          ·refine Qh Z Z Z Z (Qh Z Z Z Z (Qh Z Z Z Z (Qh Z Z Z Z (Q9 Z Z Z (Q9 Z Z Z (Q9 Z Z Z (Qh Z Z Z Z (Qa (Qx Z Z) Z (Qq ⟨Z,Z,Z,Z,Z,Z,Z,Z,Z,Z,Z,Z,Z,Z,Z,Z,Z,Z,Z,Z,Z,Z,Z,Z,Z,Z,congrArg (fun b=>some (Value.bool b)) (show true = (((((g.nodes[i]'hi1).kind) == 7) && ((decide (((i : Nat) : Int) < (((g.nodes[i]'hi1).outs)[k]'hi2))) || ((((g.nodes[(Int.toNat (((g.nodes[i]'hi1).outs)[k]'hi2))]'hi3).kind) != 5) && (((g.nodes[(Int.toNat (((g.nodes[i]'hi1).outs)[k]'hi2))]'hi3).kind) != 6)))) || ((((g.nodes[i]'hi1).kind) != 7) && (decide ((((g.nodes[i]'hi1).outs)[k]'hi2) ≤ ((i : Nat) : Int))))) by first | (rw [hg4,hg5,hg6,hg7] <;> rfl) | (simp [hg4,hg5,hg6,hg7];done) | (simp only [Qp] <;> simp)),trivial⟩ Z)))))))))
          ·refine Qn Z Z (Qb Ke Z) Z (Qn Z Z (Qk Yp Z (h2.one 0 Z)) Z (Qn Z Z (Yo Z Z) Z (Qn Z Z (Qd Z) Z ?_)))
           refine Y1 (gd:=82) Z Z (fun hg8=>?_) (fun hg8=>?_)
           ·refine Qn Z Z (Qd Z) Z (Qn Z Z (Qd Z) Z (Qn Z Z (Dk Z Z) Z (Qn Z Z (Qx Z Z) Z (Qa (Q1 Z Z) Z (Qq ⟨Z,Z,Z,Z,Z,Z,Z,Z,Z,Z,Z,Z,Z,Z,Z,Z,Z,Z,Z,Z,Z,Z,Z,Z,Z,Z,congrArg (fun b=>some (Value.bool b)) (show (decide ((((g.nodes[i]'hi1).outs)[k]'hi2) ≤ ((i : Nat) : Int))) = (((((g.nodes[i]'hi1).kind) == 7) && ((decide (((i : Nat) : Int) < (((g.nodes[i]'hi1).outs)[k]'hi2))) || ((((g.nodes[(Int.toNat (((g.nodes[i]'hi1).outs)[k]'hi2))]'hi3).kind) != 5) && (((g.nodes[(Int.toNat (((g.nodes[i]'hi1).outs)[k]'hi2))]'hi3).kind) != 6)))) || ((((g.nodes[i]'hi1).kind) != 7) && (decide ((((g.nodes[i]'hi1).outs)[k]'hi2) ≤ ((i : Nat) : Int))))) by first | (rw [hg4,hg5,hg6,hg7,hg8] <;> rfl) | (simp [hg4,hg5,hg6,hg7,hg8];done) | (simp only [Qp] <;> simp)),trivial⟩ Z)))))
           ·refine Qh Z Z Z Z (Qh Z Z Z Z (Qh Z Z Z Z (Qn Z Z (Q1 Z Z) Z (Qa (Q1 Z Z) Z (Qq ⟨Z,Z,Z,Z,Z,Z,Z,Z,Z,Z,Z,Z,Z,Z,Z,Z,Z,Z,Z,Z,Z,Z,Z,Z,Z,Z,congrArg (fun b=>some (Value.bool b)) (show false = (((((g.nodes[i]'hi1).kind) == 7) && ((decide (((i : Nat) : Int) < (((g.nodes[i]'hi1).outs)[k]'hi2))) || ((((g.nodes[(Int.toNat (((g.nodes[i]'hi1).outs)[k]'hi2))]'hi3).kind) != 5) && (((g.nodes[(Int.toNat (((g.nodes[i]'hi1).outs)[k]'hi2))]'hi3).kind) != 6)))) || ((((g.nodes[i]'hi1).kind) != 7) && (decide ((((g.nodes[i]'hi1).outs)[k]'hi2) ≤ ((i : Nat) : Int))))) by first | (rw [hg4,hg5,hg6,hg7,hg8] <;> rfl) | (simp [hg4,hg5,hg6,hg7,hg8];done) | (simp only [Qp] <;> simp)),trivial⟩ Z)))))
         ·refine Qh Z Z Z Z (Qh Z Z Z Z (Qn Z Z (Q1 Z Z) Z (Qn Z Z (Q1 Z Z) Z (Qa (Qx Z Z) Z (Qa (Qd Z) Z (Qn Z Z (Qb Ke Z) Z (Qn Z Z (Qk Yp Z (h2.one 0 Z)) Z (Qn Z Z (Yo Z Z) Z (Qn Z Z (Qd Z) Z ?_)))))))))
          refine Y1 (gd:=82) Z Z (fun hg9=>?_) (fun hg9=>?_)
          ·refine Qn Z Z (Qd Z) Z (Qn Z Z (Qd Z) Z (Qn Z Z (Dk Z Z) Z (Qn Z Z (Qx Z Z) Z (Qa (Q1 Z Z) Z (Qq ⟨Z,Z,Z,Z,Z,Z,Z,Z,Z,Z,Z,Z,Z,Z,Z,Z,Z,Z,Z,Z,Z,Z,Z,Z,Z,Z,congrArg (fun b=>some (Value.bool b)) (show (decide ((((g.nodes[i]'hi1).outs)[k]'hi2) ≤ ((i : Nat) : Int))) = (((((g.nodes[i]'hi1).kind) == 7) && ((decide (((i : Nat) : Int) < (((g.nodes[i]'hi1).outs)[k]'hi2))) || ((((g.nodes[(Int.toNat (((g.nodes[i]'hi1).outs)[k]'hi2))]'hi3).kind) != 5) && (((g.nodes[(Int.toNat (((g.nodes[i]'hi1).outs)[k]'hi2))]'hi3).kind) != 6)))) || ((((g.nodes[i]'hi1).kind) != 7) && (decide ((((g.nodes[i]'hi1).outs)[k]'hi2) ≤ ((i : Nat) : Int))))) by first | (rw [hg4,hg5,hg6,hg9] <;> rfl) | (simp [hg4,hg5,hg6,hg9];done) | (simp only [Qp] <;> simp)),trivial⟩ Z)))))
          ·refine Qh Z Z Z Z (Qh Z Z Z Z (Qh Z Z Z Z (Qn Z Z (Q1 Z Z) Z (Qa (Q1 Z Z) Z (Qq ⟨Z,Z,Z,Z,Z,Z,Z,Z,Z,Z,Z,Z,Z,Z,Z,Z,Z,Z,Z,Z,Z,Z,Z,Z,Z,Z,congrArg (fun b=>some (Value.bool b)) (show false = (((((g.nodes[i]'hi1).kind) == 7) && ((decide (((i : Nat) : Int) < (((g.nodes[i]'hi1).outs)[k]'hi2))) || ((((g.nodes[(Int.toNat (((g.nodes[i]'hi1).outs)[k]'hi2))]'hi3).kind) != 5) && (((g.nodes[(Int.toNat (((g.nodes[i]'hi1).outs)[k]'hi2))]'hi3).kind) != 6)))) || ((((g.nodes[i]'hi1).kind) != 7) && (decide ((((g.nodes[i]'hi1).outs)[k]'hi2) ≤ ((i : Nat) : Int))))) by first | (rw [hg4,hg5,hg6,hg9] <;> rfl) | (simp [hg4,hg5,hg6,hg9];done) | (simp only [Qp] <;> simp)),trivial⟩ Z)))))
       ·refine Qh Z Z Z Z (Qh Z Z Z Z (Qh Z Z Z Z (Qh Z Z Z Z (Q9 Z Z Z (Q9 Z Z Z (Q9 Z Z Z (Q9 Z Z Z (Q9 Z Z Z (Q9 Z Z Z (Qh Z Z Z Z (Qa (Q1 Z Z) Z (Qa (Qd Z) Z (Qn Z Z (Qb Ke Z) Z (Qn Z Z (Qk Yp Z (h2.one 0 Z)) Z (Qn Z Z (Yo Z Z) Z (Qn Z Z (Qd Z) Z ?_))))))))))))))))
        refine Y1 (gd:=82) Z Z (fun hg10=>?_) (fun hg10=>?_)
        ·refine Qn Z Z (Qd Z) Z (Qn Z Z (Qd Z) Z (Qn Z Z (Dk Z Z) Z (Qn Z Z (Qx Z Z) Z (Qa (Q1 Z Z) Z (Qq ⟨Z,Z,Z,Z,Z,Z,Z,Z,Z,Z,Z,Z,Z,Z,Z,Z,Z,Z,Z,Z,Z,Z,Z,Z,Z,Z,congrArg (fun b=>some (Value.bool b)) (show (decide ((((g.nodes[i]'hi1).outs)[k]'hi2) ≤ ((i : Nat) : Int))) = (((((g.nodes[i]'hi1).kind) == 7) && ((decide (((i : Nat) : Int) < (((g.nodes[i]'hi1).outs)[k]'hi2))) || ((((g.nodes[(Int.toNat (((g.nodes[i]'hi1).outs)[k]'hi2))]'hi3).kind) != 5) && (((g.nodes[(Int.toNat (((g.nodes[i]'hi1).outs)[k]'hi2))]'hi3).kind) != 6)))) || ((((g.nodes[i]'hi1).kind) != 7) && (decide ((((g.nodes[i]'hi1).outs)[k]'hi2) ≤ ((i : Nat) : Int))))) by first | (rw [hg4,hg10] <;> rfl) | (simp [hg4,hg10];done) | (simp only [Qp] <;> simp)),trivial⟩ Z)))))
        ·refine Qh Z Z Z Z (Qh Z Z Z Z (Qh Z Z Z Z (Qn Z Z (Q1 Z Z) Z (Qa (Q1 Z Z) Z (Qq ⟨Z,Z,Z,Z,Z,Z,Z,Z,Z,Z,Z,Z,Z,Z,Z,Z,Z,Z,Z,Z,Z,Z,Z,Z,Z,Z,congrArg (fun b=>some (Value.bool b)) (show false = (((((g.nodes[i]'hi1).kind) == 7) && ((decide (((i : Nat) : Int) < (((g.nodes[i]'hi1).outs)[k]'hi2))) || ((((g.nodes[(Int.toNat (((g.nodes[i]'hi1).outs)[k]'hi2))]'hi3).kind) != 5) && (((g.nodes[(Int.toNat (((g.nodes[i]'hi1).outs)[k]'hi2))]'hi3).kind) != 6)))) || ((((g.nodes[i]'hi1).kind) != 7) && (decide ((((g.nodes[i]'hi1).outs)[k]'hi2) ≤ ((i : Nat) : Int))))) by first | (rw [hg4,hg10] <;> rfl) | (simp [hg4,hg10];done) | (simp only [Qp] <;> simp)),trivial⟩ Z)))))
      rintro _ rfl
      refine Qc (Qr Z (fun hc6=>?_) (fun hc6=>?_))
      ·refine Qe (Qg [true] Z Z (Qa (Qf Z) Z (Qc (Qt (Q0 (Yq (Q0 (Q0 (Yq (Q0 (Ql Z Z E ?_)))))))))))
       exact A6 (edge_b (congrArg Node.kind (Xm _)).symm (by assumption))
      ·refine Qm (Q5 (Yv (Qg [true,true] Z Z (Qa (Yd Z Z (Yy hc4n (hd2.ext E).1.1)) Z (Qa (Qd Z) Z (Qc (Q5 (Yg (k + 1) (by omega) ⟨Z,Z,Z,Z,Z,Z,Z,Z,Z,Z,trivial⟩ ⟨E,(by omega),h1,h2,(by omega),X9 hI (by assumption) (edge_n (congrArg Node.kind (Xm _)).symm (by assumption) (by assumption))⟩))))))))
    ·have hc4n : ¬ k < ((g.nodes[i]'hi1).outs).length:=by first | (have h:=of_decide_eq_false hc4;omega) | (have h:=hc4;simp at h;omega)
     refine Ym (Q4 (Q2 ?_))
     refine Q5 (Yv (Qg [true,true] Z Z (Qa (Yd Z Z (Yy hc2n (hd1.ext E).1.1)) Z (Qa (Qd Z) Z (Qc (Q5 (Yg (i + 1) (by omega) ⟨Z,Z,Z,Z,Z,trivial⟩ ⟨E,(by omega),h1,(by omega),graph_s (h1:=hi1) (by assumption) hI (by omega) hp⟩)))))))
  ·have hc2n : ¬ i < g.nodes.length:=by first | (have h:=of_decide_eq_false hc2;omega) | (have h:=hc2;simp at h;omega)
   refine Ym (Q4 (Q2 ?_))
   refine Qe (Qg [true] Z Z (Qa (Qf Z) Z (Qc (Qt (Ql Z Z E ?_)))))
   exact graph_y (by assumption) hp (by omega)

set_option maxHeartbeats 4000000 in
set_option maxRecDepth 20000 in
theorem s_GraphOk (cg : List Value) (g : Graph) (w : World) (hg : Dat.R w 0 w.heap.size cg g) : Ct Tryz.prog 102 [.agg cg.toArray] w (fun v _=>v = .bool (Y4 g)):=by
 refine Yi Tryz.func102 Z Tryz.ntmps102 Z ?_
 obtain ⟨o1,rfl,hd1⟩:=Graph.op hg
 refine Q7 [(0,.agg [o1,.int .i64 g.workers,.int .i64 g.cap].toArray)] ⟨Z,trivial⟩ ?_
 have E : Ext w w:=Ext.refl w
 refine Qe (Qg [false,true] Z Z (Yz Z Z (fun b1 w1 e1 s1 h1=>?_)))
 have g_b1 : w.heap.size ≤ b1:=by have:=E.size;omega
 have y_b1:=h1.lt
 replace E:=E.trans e1
 have z1:=e1.size
 refine Qa (Qf Z) Z (Qc (Qe (Qe (Qg [true,true,true,false,true,true,true,true,false,true,true,true,true,true,false,true,true] Z Z (Qa (Qb Kn Z) Z (Qa (Qk Ge Z (h1.one 0 Z)) Z (Qa (Yb Tryz.underlying32 Z (hd1.ext E).len) Z (Qu Tryz.call106 Z (s_l01In ((g.nodes.length : Nat) : Int) 1 8 _ ) Z (fun _ w2 e2 hv=>?_)))))))))
 subst hv
 replace E:=E.trans e2;replace h1:=h1.ext e2
 have z2:=e2.size
 refine Qa (Yt Z) Z (Qa (Qd Z) Z (Xd 11 [(0,.agg [o1,.int .i64 g.workers,.int .i64 g.cap].toArray),(1,.pointer (some ⟨b1,0,none⟩)),(2,.bool false),(24,.bool (((!(Yr ((g.nodes.length : Nat) : Int) 1 8)) || (!(Yr g.workers 1 4))) || (!(Yr g.cap 1 4))))] (fun w'=>Ext w w' ∧ w2.heap.size ≤ w'.heap.size ∧ Blk w' b1 ([o1,.int .i64 g.workers,.int .i64 g.cap])) ?_ ?_))
 ·refine Y1 (gd:=13) Z Z (fun hg1=>?_) (fun hg1=>?_)
  ·refine Qh Z Z Z Z (Qh Z Z Z Z ?_)
   refine Yw Z Z Z Z ?_
   refine Qh Z Z Z Z (Qa (Qx Z Z) Z (Qa (Qd Z) Z (Qh Z Z Z Z (Qh Z Z Z Z ?_))))
   refine Yw Z Z Z Z ?_
   refine Qh Z Z Z Z (Qa (Qx Z Z) Z (Qq ⟨Z,Z,Z,congrArg (fun b=>some (Value.bool b)) (show true = (((!(Yr ((g.nodes.length : Nat) : Int) 1 8)) || (!(Yr g.workers 1 4))) || (!(Yr g.cap 1 4))) by first | (rw [hg1] <;> rfl) | (simp [hg1];done) | (simp only [Qp] <;> simp)),trivial⟩ ⟨E,(by omega),h1⟩))
  ·refine Qn Z Z (Qb Vn Z) Z (Qn Z Z (Qk Yp Z (h1.one 1 Z)) Z ?_)
   refine X4 Z Z ?_
   refine Qu Tryz.call106 Z (s_l01In g.workers 1 4 _ ) Z (fun _ w4 e3 hv=>?_)
   subst hv
   replace E:=E.trans e3;replace h1:=h1.ext e3
   have z3:=e3.size
   refine Qn Z Z (Yt Z) Z (Qa (Q1 Z Z) Z (Qa (Qd Z) Z ?_))
   refine Y1 (gd:=19) Z Z (fun hg2=>?_) (fun hg2=>?_)
   ·refine Qh Z Z Z Z (Qh Z Z Z Z ?_)
    refine Yw Z Z Z Z ?_
    refine Qh Z Z Z Z (Qa (Qx Z Z) Z (Qq ⟨Z,Z,Z,congrArg (fun b=>some (Value.bool b)) (show true = (((!(Yr ((g.nodes.length : Nat) : Int) 1 8)) || (!(Yr g.workers 1 4))) || (!(Yr g.cap 1 4))) by first | (rw [hg1,hg2] <;> rfl) | (simp [hg1,hg2];done) | (simp only [Qp] <;> simp)),trivial⟩ ⟨E,(by omega),h1⟩))
   ·refine Qn Z Z (Qb T1 Z) Z (Qn Z Z (Qk Yp Z (h1.one 2 Z)) Z ?_)
    refine X4 Z Z ?_
    refine Qu Tryz.call106 Z (s_l01In g.cap 1 4 _ ) Z (fun _ w5 e4 hv=>?_)
    subst hv
    replace E:=E.trans e4;replace h1:=h1.ext e4
    have z4:=e4.size
    refine Qn Z Z (Yt Z) Z (Qa (Q1 Z Z) Z (Qq ⟨Z,Z,Z,congrArg (fun b=>some (Value.bool b)) (show (!(Yr g.cap 1 4)) = (((!(Yr ((g.nodes.length : Nat) : Int) 1 8)) || (!(Yr g.workers 1 4))) || (!(Yr g.cap 1 4))) by first | (rw [hg1,hg2] <;> rfl) | (simp [hg1,hg2];done) | (simp only [Qp] <;> simp)),trivial⟩ ⟨E,(by omega),h1⟩))
 clear E h1
 rintro w3 ⟨E,z5,h1⟩
 refine Qc (Qr Z (fun hc1=>?_) (fun hc1=>?_))
 ·refine Qe (Qg [true] Z Z (Qa (Qf Z) Z (Qc (Qt (Ql Z Z E ?_)))))
  exact graph_h (by assumption)
 ·refine Qm (Qe (Qe (Qg [true] Z Z (Qa (Qf Z) Z (Qc (Qw (Yk (fun (i : Nat)=>[(1,.pointer (some ⟨b1,0,none⟩)),(2,.bool false),(3,.int .i64 ((i : Nat) : Int))]) (fun (i : Nat) w'=>Ext w w' ∧ w3.heap.size ≤ w'.heap.size ∧ Blk w' b1 ([o1,.int .i64 g.workers,.int .i64 g.cap]) ∧ i ≤ g.nodes.length ∧ (∀ j,j < i → K3 g j (List.getD g.nodes j default) = true)) (fun (i : Nat)=>g.nodes.length - i) 0 ⟨Z,Z,Z,trivial⟩ ⟨E,Nat.le_refl _,h1,Nat.zero_le _,(fun j hj=>by omega)⟩ ?_)))))))
  clear E h1
  rintro i w6 ⟨E,z6,h1,hle,hp⟩
  refine Qe (Qe (Qg [true,true,true,true,true] Z Z (Qa (Qd Z) Z (Qa (Qb Kn Z) Z (Qa (Qk Ge Z (h1.one 0 Z)) Z (Qa (Yb Tryz.underlying32 Z (hd1.ext E).len) Z (Qa (Yf Z Z) Z (Qc (Qr Z (fun hc2=>?_) (fun hc2=>?_))))))))))
  ·have hc2n : i < g.nodes.length:=by first | (have h:=of_decide_eq_true hc2;omega) | (have h:=hc2;simp at h;omega)
   refine Qm (Qe (Qw (Qe (Qg [true,true,true,true,true,false,false] Z Z (Qa (Qb Kn Z) Z (Qa (Qk Ge Z (h1.one 0 Z)) Z (Qa (Qd Z) Z ?_)))))))
   have hi1 : i < g.nodes.length:=(by first | assumption | omega | (simp only [List.length_set];first | assumption | omega) | (simp only [List.getElem_set_self,List.length_set];first | assumption | omega))
   obtain ⟨_,hr1,ha1⟩:=RdD.get hd1 hi1
   obtain ⟨o2,rfl,hd2⟩:=Node.op hr1
   replace ha1 : At w (Y2 o1) (Y9 o1 + i * 4) [.int .i64 ((g.nodes[i]'hi1).kind),.int .i64 ((g.nodes[i]'hi1).a),.int .i64 ((g.nodes[i]'hi1).b),o2]:=ha1
   refine Qa (Qv (i:=i) Gt Z Z (hd1.ext E).1 hi1) Z (Qa (Qy K7 Z (ha1.ext E) Z) Z (Yj K7 Z (fun b2 w7 e5 s2 h2=>?_)))
   have g_b2 : w.heap.size ≤ b2:=by have:=E.size;omega
   have y_b2:=h2.lt
   replace E:=E.trans e5;replace h1:=h1.ext e5
   have z7:=e5.size
   refine Q6 (cs':=[.int .i64 ((g.nodes[i]'hi1).kind),.int .i64 ((g.nodes[i]'hi1).a),.int .i64 ((g.nodes[i]'hi1).b),o2]) K7 Z Z Z (Qj Z (Qj Z (Qj Z (Qj (RdD.one (hd2.ext E)) Z)))) h2 (Nat.le_of_ble_eq_true Z) Z (fun w8 m1 h2'=>?_)
   replace h2:=h2'
   replace E:=E.step m1 (fun g hg=>by cases hg;omega);replace h1:=h1.mod m1 (fun g hg=>by cases hg;omega)
   have z8:=m1.size
   refine Qc (Qe (Qe (Qg [true,false,true,true,true,true,true,true,true,true,true] Z Z (Qa (Qy K7 Z h2.at Z) Z (Qu Tryz.call129 Z (s_NodeOk [.int .i64 ((g.nodes[i]'hi1).kind),.int .i64 ((g.nodes[i]'hi1).a),.int .i64 ((g.nodes[i]'hi1).b),o2] (g.nodes[i]'hi1) _ (Node.mkR (g.nodes[i]'hi1) (RdD.any (hd2.ext E)))) Z (fun _ w9 e6 hv=>?_))))))
   subst hv
   replace E:=E.trans e6;replace h1:=h1.ext e6;replace h2:=h2.ext e6
   have z9:=e6.size
   refine Qa (Yt Z) Z (Qa (Qd Z) Z (Xd 7 [(1,.pointer (some ⟨b1,0,none⟩)),(2,.bool false),(3,.int .i64 ((i : Nat) : Int)),(4,.pointer (some ⟨b2,0,none⟩)),(25,.int .i64 ((i : Nat) : Int)),(26,.pointer (some ⟨b1,0,none⟩)),(27,o1),(28,.int .i64 ((g.nodes.length : Nat) : Int)),(29,.bool (decide (((i : Nat) : Int) < ((g.nodes.length : Nat) : Int)))),(32,.pointer (some ⟨b1,0,none⟩)),(33,o1),(34,.int .i64 ((i : Nat) : Int)),(35,.pointer (some ⟨Y2 o1,Y9 o1 + i * 4,none⟩)),(36,.agg [.int .i64 ((g.nodes[i]'hi1).kind),.int .i64 ((g.nodes[i]'hi1).a),.int .i64 ((g.nodes[i]'hi1).b),o2].toArray),(47,.bool ((!(X6 (g.nodes[i]'hi1))) || (!((((g.nodes[i]'hi1).kind) == 1) == (((i : Nat) : Int) == 0)))))] (fun w'=>w9 = w') ?_ ?_))
   ·refine Y1 (gd:=40) Z Z (fun hg3=>?_) (fun hg3=>?_)
    ·refine Qh Z Z Z Z (Qh Z Z Z Z (Qh Z Z Z Z (Qh Z Z Z Z (Qh Z Z Z Z (Qh Z Z Z Z (Qa (Qx Z Z) Z (Qq ⟨Z,Z,Z,Z,Z,Z,Z,Z,Z,Z,Z,Z,Z,Z,congrArg (fun b=>some (Value.bool b)) (show true = ((!(X6 (g.nodes[i]'hi1))) || (!((((g.nodes[i]'hi1).kind) == 1) == (((i : Nat) : Int) == 0)))) by first | (rw [hg3] <;> rfl) | (simp [hg3];done) | (simp only [Qp] <;> simp)),trivial⟩ Z)))))))
    ·refine Qn Z Z (Qb Ke Z) Z (Qn Z Z (Qk Yp Z (h2.one 0 Z)) Z (Qn Z Z (Xg Z Z) Z (Qn Z Z (Qd Z) Z (Qn Z Z (Xg Z Z) Z (Qn Z Z (Uz (Tryz.underlying4) Z Z) Z (Qa (Q1 Z Z) Z (Qq ⟨Z,Z,Z,Z,Z,Z,Z,Z,Z,Z,Z,Z,Z,Z,congrArg (fun b=>some (Value.bool b)) (show (!((((g.nodes[i]'hi1).kind) == 1) == (((i : Nat) : Int) == 0))) = ((!(X6 (g.nodes[i]'hi1))) || (!((((g.nodes[i]'hi1).kind) == 1) == (((i : Nat) : Int) == 0)))) by first | (rw [hg3] <;> rfl) | (simp [hg3];done) | (simp only [Qp] <;> simp)),trivial⟩ Z)))))))
   rintro _ rfl
   refine Qc (Qr Z (fun hc3=>?_) (fun hc3=>?_))
   ·refine Qe (Qg [true] Z Z (Qa (Qf Z) Z (Qc (Qt (Q0 (Yq (Q0 (Ql Z Z E ?_))))))))
    exact graph_a (by assumption)
   ·refine Qm (Qe (Qg [true] Z Z (Qa (Qf Z) Z (Qc (Qw (Yk (fun (k : Nat)=>[(1,.pointer (some ⟨b1,0,none⟩)),(2,.bool false),(3,.int .i64 ((i : Nat) : Int)),(4,.pointer (some ⟨b2,0,none⟩)),(5,.int .i64 ((k : Nat) : Int))]) (fun (k : Nat) w'=>Ext w w' ∧ w9.heap.size ≤ w'.heap.size ∧ Blk w' b1 ([o1,.int .i64 g.workers,.int .i64 g.cap]) ∧ Blk w' b2 [.int .i64 ((g.nodes[i]'hi1).kind),.int .i64 ((g.nodes[i]'hi1).a),.int .i64 ((g.nodes[i]'hi1).b),o2] ∧ k ≤ (g.nodes[i]'hi1).outs.length ∧ ((g.nodes[i]'hi1).outs.take k).all (fun to=>!K9 g i (g.nodes[i]'hi1) to) = true) (fun (k : Nat)=>(g.nodes[i]'hi1).outs.length - k) 0 ⟨Z,Z,Z,Z,Z,trivial⟩ ⟨E,Nat.le_refl _,h1,h2,Nat.zero_le _,Z⟩ ?_))))))
    clear E h1 h2
    rintro k w11 ⟨E,z10,h1,h2,hk,hI⟩
    refine Qe (Qe (Qg [true,true,true,true,true] Z Z (Qa (Qd Z) Z (Qa (Qb Xk Z) Z (Qa (Qk Ks Z (h2.one 3 Z)) Z (Qa (Yb Tryz.underlying76 Z (hd2.ext E).len) Z (Qa (Yf Z Z) Z (Qc (Qr Z (fun hc4=>?_) (fun hc4=>?_))))))))))
    ·have hc4n : k < ((g.nodes[i]'hi1).outs).length:=by first | (have h:=of_decide_eq_true hc4;omega) | (have h:=hc4;simp at h;omega)
     refine Qm (Qe (Qw (Qe (Qg [true,true,true,true,true,true] Z Z (Qa (Qb Xk Z) Z (Qa (Qk Ks Z (h2.one 3 Z)) Z (Qa (Qd Z) Z ?_)))))))
     have hi2 : k < ((g.nodes[i]'hi1).outs).length:=(by first | assumption | omega | (simp only [List.length_set];first | assumption | omega) | (simp only [List.getElem_set_self,List.length_set];first | assumption | omega))
     refine Qa (Qv (i:=k) Uq Z Z (hd2.rd.ext E) hi2) Z (Qa (Qk Yp Z (((hd2.rd.ext E).get hi2).one 0 Z)) Z (Qa (Qf Z) Z (Qc (Qe (Qe (Qg [true,true,true,true,true,true,true,true,true,true,true,true,true,true,true] Z Z (Qa (Qd Z) Z (Qa (Qb Kn Z) Z (Qa (Qk Ge Z (h1.one 0 Z)) Z (Qa (Yb Tryz.underlying32 Z (hd1.ext E).len) Z (Qa (T4 Z Z) Z (Qa (Qd Z) Z (Xd 9 [(1,.pointer (some ⟨b1,0,none⟩)),(2,.bool false),(3,.int .i64 ((i : Nat) : Int)),(4,.pointer (some ⟨b2,0,none⟩)),(5,.int .i64 ((k : Nat) : Int)),(6,.int .i64 (((g.nodes[i]'hi1).outs)[k]'hi2)),(48,.int .i64 ((k : Nat) : Int)),(49,.pointer (some ⟨b2,3,none⟩)),(50,o2),(51,.int .i64 ((((g.nodes[i]'hi1).outs).length : Nat) : Int)),(52,.bool (decide (((k : Nat) : Int) < ((((g.nodes[i]'hi1).outs).length : Nat) : Int)))),(55,.pointer (some ⟨b2,3,none⟩)),(56,o2),(57,.int .i64 ((k : Nat) : Int)),(58,.pointer (some ⟨Y2 o2,Y9 o2 + k * 1,none⟩)),(59,.int .i64 (((g.nodes[i]'hi1).outs)[k]'hi2)),(74,.bool ((decide (((g.nodes.length : Nat) : Int) ≤ (((g.nodes[i]'hi1).outs)[k]'hi2))) || ((((g.nodes[i]'hi1).kind) != 7) && (decide ((((g.nodes[i]'hi1).outs)[k]'hi2) ≤ ((i : Nat) : Int))))))] (fun w'=>w11 = w') ?_ ?_)))))))))))))
     ·refine Y1 (gd:=65) Z Z (fun hg4=>?_) (fun hg4=>?_)
      ·refine Qh Z Z Z Z (Qh Z Z Z Z (Qh Z Z Z Z (Qh Z Z Z Z (Q9 Z Z Z (Q9 Z Z Z (Q9 Z Z Z (Qh Z Z Z Z (Qa (Qx Z Z) Z (Qq ⟨Z,Z,Z,Z,Z,Z,Z,Z,Z,Z,Z,Z,Z,Z,Z,Z,congrArg (fun b=>some (Value.bool b)) (show true = ((decide (((g.nodes.length : Nat) : Int) ≤ (((g.nodes[i]'hi1).outs)[k]'hi2))) || ((((g.nodes[i]'hi1).kind) != 7) && (decide ((((g.nodes[i]'hi1).outs)[k]'hi2) ≤ ((i : Nat) : Int))))) by first | (rw [hg4] <;> rfl) | (simp [hg4];done) | (simp only [Qp] <;> simp)),trivial⟩ Z)))))))))
      ·have hto:=Bs (h1:=hi1) (h2:=hi2) (by assumption)
       have htl:=Int.not_le.1 (of_decide_eq_false hg4)
       refine Qn Z Z (Qb Ke Z) Z (Qn Z Z (Qk Yp Z (h2.one 0 Z)) Z (Qn Z Z (Yo Z Z) Z (Qn Z Z (Qd Z) Z ?_)))
       refine Y1 (gd:=69) Z Z (fun hg5=>?_) (fun hg5=>?_)
       ·refine Qn Z Z (Qd Z) Z (Qn Z Z (Qd Z) Z (Qn Z Z (Dk Z Z) Z (Qn Z Z (Qx Z Z) Z (Qa (Q1 Z Z) Z (Qq ⟨Z,Z,Z,Z,Z,Z,Z,Z,Z,Z,Z,Z,Z,Z,Z,Z,congrArg (fun b=>some (Value.bool b)) (show (decide ((((g.nodes[i]'hi1).outs)[k]'hi2) ≤ ((i : Nat) : Int))) = ((decide (((g.nodes.length : Nat) : Int) ≤ (((g.nodes[i]'hi1).outs)[k]'hi2))) || ((((g.nodes[i]'hi1).kind) != 7) && (decide ((((g.nodes[i]'hi1).outs)[k]'hi2) ≤ ((i : Nat) : Int))))) by first | (rw [hg4,hg5] <;> rfl) | (simp [hg4,hg5];done) | (simp only [Qp] <;> simp)),trivial⟩ Z)))))
       ·refine Qh Z Z Z Z (Qh Z Z Z Z (Qh Z Z Z Z (Qn Z Z (Q1 Z Z) Z (Qa (Q1 Z Z) Z (Qq ⟨Z,Z,Z,Z,Z,Z,Z,Z,Z,Z,Z,Z,Z,Z,Z,Z,congrArg (fun b=>some (Value.bool b)) (show false = ((decide (((g.nodes.length : Nat) : Int) ≤ (((g.nodes[i]'hi1).outs)[k]'hi2))) || ((((g.nodes[i]'hi1).kind) != 7) && (decide ((((g.nodes[i]'hi1).outs)[k]'hi2) ≤ ((i : Nat) : Int))))) by first | (rw [hg4,hg5] <;> rfl) | (simp [hg4,hg5];done) | (simp only [Qp] <;> simp)),trivial⟩ Z)))))
     rintro _ rfl
     refine Qc (Qr Z (fun hc5=>?_) (fun hc5=>?_))
     ·refine Qe (Qg [true] Z Z (Qa (Qf Z) Z (Qc (Qt (Q0 (Yq (Q0 (Q0 (Yq (Q0 (Ql Z Z E ?_)))))))))))
      exact A6 (edge_s1 (by assumption))
     ·have hto:=Bs (h1:=hi1) (h2:=hi2) (by assumption)
      have htl:=edge_lt hc5
      refine Qm (Qe (Qg [true,true,true,true,true,true,true] Z Z (Qa (Qb Kn Z) Z (Qa (Qk Ge Z (h1.one 0 Z)) Z (Qa (Qd Z) Z ?_)))))
      have hi3 : (Int.toNat (((g.nodes[i]'hi1).outs)[k]'hi2)) < g.nodes.length:=(by first | assumption | omega | (simp only [List.length_set];first | assumption | omega) | (simp only [List.getElem_set_self,List.length_set];first | assumption | omega))
      obtain ⟨_,hr2,ha2⟩:=RdD.get hd1 hi3
      obtain ⟨o3,rfl,hd3⟩:=Node.op hr2
      replace ha2 : At w (Y2 o1) (Y9 o1 + (Int.toNat (((g.nodes[i]'hi1).outs)[k]'hi2)) * 4) [.int .i64 ((g.nodes[(Int.toNat (((g.nodes[i]'hi1).outs)[k]'hi2))]'hi3).kind),.int .i64 ((g.nodes[(Int.toNat (((g.nodes[i]'hi1).outs)[k]'hi2))]'hi3).a),.int .i64 ((g.nodes[(Int.toNat (((g.nodes[i]'hi1).outs)[k]'hi2))]'hi3).b),o3]:=ha2
      refine Qa (Xs (i:=(Int.toNat (((g.nodes[i]'hi1).outs)[k]'hi2))) Gt Z Z (hd1.ext E).1 (by omega) hi3) Z (Qa (Qs Ke Z) Z (Qa (Qk Yp Z ((ha2.ext E).one 0 Z)) Z (Qa (Qf Z) Z (Qc (Qe (Qg [true,true,true,true,true,true,true,true,true,true,true,true,true,true,true,true] Z Z (Qa (Qb Ke Z) Z (Qa (Qk Yp Z (h2.one 0 Z)) Z (Qa (Xg Z Z) Z (Qa (Qd Z) Z (Xd 12 [(1,.pointer (some ⟨b1,0,none⟩)),(2,.bool false),(3,.int .i64 ((i : Nat) : Int)),(4,.pointer (some ⟨b2,0,none⟩)),(5,.int .i64 ((k : Nat) : Int)),(6,.int .i64 (((g.nodes[i]'hi1).outs)[k]'hi2)),(7,.int .i64 ((g.nodes[(Int.toNat (((g.nodes[i]'hi1).outs)[k]'hi2))]'hi3).kind)),(48,.int .i64 ((k : Nat) : Int)),(49,.pointer (some ⟨b2,3,none⟩)),(50,o2),(51,.int .i64 ((((g.nodes[i]'hi1).outs).length : Nat) : Int)),(52,.bool (decide (((k : Nat) : Int) < ((((g.nodes[i]'hi1).outs).length : Nat) : Int)))),(55,.pointer (some ⟨b2,3,none⟩)),(56,o2),(57,.int .i64 ((k : Nat) : Int)),(58,.pointer (some ⟨Y2 o2,Y9 o2 + k * 1,none⟩)),(59,.int .i64 (((g.nodes[i]'hi1).outs)[k]'hi2)),(74,.bool ((decide (((g.nodes.length : Nat) : Int) ≤ (((g.nodes[i]'hi1).outs)[k]'hi2))) || ((((g.nodes[i]'hi1).kind) != 7) && (decide ((((g.nodes[i]'hi1).outs)[k]'hi2) ≤ ((i : Nat) : Int)))))),(75,.pointer (some ⟨b1,0,none⟩)),(76,o1),(77,.int .i64 (((g.nodes[i]'hi1).outs)[k]'hi2)),(78,.pointer (some ⟨Y2 o1,Y9 o1 + (Int.toNat (((g.nodes[i]'hi1).outs)[k]'hi2)) * 4,none⟩)),(79,.pointer (some ⟨(Y2 o1),Y9 o1 + (Int.toNat (((g.nodes[i]'hi1).outs)[k]'hi2)) * 4 + 0,none⟩)),(80,.int .i64 ((g.nodes[(Int.toNat (((g.nodes[i]'hi1).outs)[k]'hi2))]'hi3).kind)),(96,.bool ((((g.nodes[i]'hi1).kind) == 7) && ((decide (((i : Nat) : Int) < (((g.nodes[i]'hi1).outs)[k]'hi2))) || ((((g.nodes[(Int.toNat (((g.nodes[i]'hi1).outs)[k]'hi2))]'hi3).kind) != 5) && (((g.nodes[(Int.toNat (((g.nodes[i]'hi1).outs)[k]'hi2))]'hi3).kind) != 6)))))] (fun w'=>w11 = w') ?_ ?_)))))))))))
      ·refine Y1 (gd:=84) Z Z (fun hg6=>?_) (fun hg6=>?_)
       ·refine Qn Z Z (Qd Z) Z (Qn Z Z (Qd Z) Z (Qn Z Z (G1 Z Z) Z (Qn Z Z (Qd Z) Z ?_)))
        refine Y1 (gd:=88) Z Z (fun hg7=>?_) (fun hg7=>?_)
        ·refine Qh Z Z Z Z (Qh Z Z Z Z (Qh Z Z Z Z (Q9 Z Z Z (Q9 Z Z Z (Qh Z Z Z Z (Qn Z Z (Qx Z Z) Z (Qa (Qx Z Z) Z (Qq ⟨Z,Z,Z,Z,Z,Z,Z,Z,Z,Z,Z,Z,Z,Z,Z,Z,Z,Z,Z,Z,Z,Z,Z,Z,congrArg (fun b=>some (Value.bool b)) (show true = ((((g.nodes[i]'hi1).kind) == 7) && ((decide (((i : Nat) : Int) < (((g.nodes[i]'hi1).outs)[k]'hi2))) || ((((g.nodes[(Int.toNat (((g.nodes[i]'hi1).outs)[k]'hi2))]'hi3).kind) != 5) && (((g.nodes[(Int.toNat (((g.nodes[i]'hi1).outs)[k]'hi2))]'hi3).kind) != 6)))) by first | (rw [hg6,hg7] <;> rfl) | (simp [hg6,hg7];done) | (simp only [Qp] <;> simp)),trivial⟩ Z))))))))
        ·refine Qn Z Z (Qd Z) Z (Qn Z Z (Yo Z Z) Z (Qn Z Z (Qd Z) Z ?_))
         refine Y1 (gd:=91) Z Z (fun hg8=>?_) (fun hg8=>?_)
         ·refine Qn Z Z (Qd Z) Z (Qn Z Z (Yo Z Z) Z (Qn Z Z (Qx Z Z) Z (Qn Z Z (Q1 Z Z) Z (Qa (Qx Z Z) Z (Qq ⟨Z,Z,Z,Z,Z,Z,Z,Z,Z,Z,Z,Z,Z,Z,Z,Z,Z,Z,Z,Z,Z,Z,Z,Z,congrArg (fun b=>some (Value.bool b)) (show (((g.nodes[(Int.toNat (((g.nodes[i]'hi1).outs)[k]'hi2))]'hi3).kind) != 6) = ((((g.nodes[i]'hi1).kind) == 7) && ((decide (((i : Nat) : Int) < (((g.nodes[i]'hi1).outs)[k]'hi2))) || ((((g.nodes[(Int.toNat (((g.nodes[i]'hi1).outs)[k]'hi2))]'hi3).kind) != 5) && (((g.nodes[(Int.toNat (((g.nodes[i]'hi1).outs)[k]'hi2))]'hi3).kind) != 6)))) by first | (rw [hg6,hg7,hg8] <;> rfl) | (simp [hg6,hg7,hg8];done) | (simp only [Qp] <;> simp)),trivial⟩ Z)))))
         ·refine Qh Z Z Z Z (Qh Z Z Z Z (Qn Z Z (Q1 Z Z) Z (Qn Z Z (Q1 Z Z) Z (Qa (Qx Z Z) Z (Qq ⟨Z,Z,Z,Z,Z,Z,Z,Z,Z,Z,Z,Z,Z,Z,Z,Z,Z,Z,Z,Z,Z,Z,Z,Z,congrArg (fun b=>some (Value.bool b)) (show false = ((((g.nodes[i]'hi1).kind) == 7) && ((decide (((i : Nat) : Int) < (((g.nodes[i]'hi1).outs)[k]'hi2))) || ((((g.nodes[(Int.toNat (((g.nodes[i]'hi1).outs)[k]'hi2))]'hi3).kind) != 5) && (((g.nodes[(Int.toNat (((g.nodes[i]'hi1).outs)[k]'hi2))]'hi3).kind) != 6)))) by first | (rw [hg6,hg7,hg8] <;> rfl) | (simp [hg6,hg7,hg8];done) | (simp only [Qp] <;> simp)),trivial⟩ Z)))))
       ·refine Qh Z Z Z Z (Qh Z Z Z Z (Qh Z Z Z Z (Qh Z Z Z Z (Q9 Z Z Z (Q9 Z Z Z (Q9 Z Z Z (Q9 Z Z Z (Q9 Z Z Z (Q9 Z Z Z (Qh Z Z Z Z (Qa (Q1 Z Z) Z (Qq ⟨Z,Z,Z,Z,Z,Z,Z,Z,Z,Z,Z,Z,Z,Z,Z,Z,Z,Z,Z,Z,Z,Z,Z,Z,congrArg (fun b=>some (Value.bool b)) (show false = ((((g.nodes[i]'hi1).kind) == 7) && ((decide (((i : Nat) : Int) < (((g.nodes[i]'hi1).outs)[k]'hi2))) || ((((g.nodes[(Int.toNat (((g.nodes[i]'hi1).outs)[k]'hi2))]'hi3).kind) != 5) && (((g.nodes[(Int.toNat (((g.nodes[i]'hi1).outs)[k]'hi2))]'hi3).kind) != 6)))) by first | (rw [hg6] <;> rfl) | (simp [hg6];done) | (simp only [Qp] <;> simp)),trivial⟩ Z))))))))))))
      rintro _ rfl
      refine Qc (Qr Z (fun hc6=>?_) (fun hc6=>?_))
      ·refine Qe (Qg [true] Z Z (Qa (Qf Z) Z (Qc (Qt (Q0 (Yq (Q0 (Q0 (Yq (Q0 (Ql Z Z E ?_)))))))))))
       exact A6 (edge_s2 (congrArg Node.kind (Xm _)).symm (by assumption))
      ·refine Qm (Q5 (Yv (Qg [true,true,true] Z Z (Qa (Qd Z) Z (Qa (Yd Z Z (Yy hc4n (hd2.ext E).1.1)) Z (Qa (Qf Z) Z (Qc (Q5 (Yg (k + 1) (by omega) ⟨Z,Z,Z,Z,Z,trivial⟩ ⟨E,(by omega),h1,h2,(by omega),X9 hI (by assumption) (edge_sn (congrArg Node.kind (Xm _)).symm (by assumption) (by assumption))⟩)))))))))
    ·have hc4n : ¬ k < ((g.nodes[i]'hi1).outs).length:=by first | (have h:=of_decide_eq_false hc4;omega) | (have h:=hc4;simp at h;omega)
     refine Ym (Q4 (Q2 ?_))
     refine Q5 (Yv (Qg [true,true,true] Z Z (Qa (Qd Z) Z (Qa (Yd Z Z (Yy hc2n (hd1.ext E).1.1)) Z (Qa (Qf Z) Z (Qc (Q5 (Yg (i + 1) (by omega) ⟨Z,Z,Z,trivial⟩ ⟨E,(by omega),h1,(by omega),graph_s (h1:=hi1) (by assumption) hI (by omega) hp⟩))))))))
  ·have hc2n : ¬ i < g.nodes.length:=by first | (have h:=of_decide_eq_false hc2;omega) | (have h:=hc2;simp at h;omega)
   refine Ym (Q4 (Q2 ?_))
   refine Qe (Qg [true] Z Z (Qa (Qf Z) Z (Qc (Qt (Ql Z Z E ?_)))))
   exact graph_y (by assumption) hp (by omega)

set_option maxRecDepth 20000 in
theorem c_toStamp (x : Stamp) (w : World)  : Ct Tryz.prog 143 [.agg (Enc.enc x).toArray] w (fun v _=>v = .agg (Enc.enc x).toArray):=by
 refine Yi Tryz.func143 Z Tryz.ntmps143 Z ?_
 refine Q7 [(0,.agg (Enc.enc x).toArray)] ⟨Z,trivial⟩ ?_
 have E : Ext w w:=Ext.refl w
 refine Qe (Qg [false,false] Z Z (Yz Z Z (fun b1 w1 e1 s1 h1=>?_)))
 have g_b1 : w.heap.size ≤ b1:=by have:=E.size;omega
 have y_b1:=h1.lt
 replace E:=E.trans e1
 have z1:=e1.size
 refine Yj B4 Z (fun b2 w2 e2 s2 h2=>?_)
 have g_b2 : w.heap.size ≤ b2:=by have:=E.size;omega
 have y_b2:=h2.lt
 replace E:=E.trans e2;replace h1:=h1.ext e2
 have z2:=e2.size
 refine Qc (Qe (Qg [false] Z Z (Yj B4 Z (fun b3 w3 e3 s3 h3=>?_))))
 have g_b3 : w.heap.size ≤ b3:=by have:=E.size;omega
 have y_b3:=h3.lt
 replace E:=E.trans e3;replace h1:=h1.ext e3;replace h2:=h2.ext e3
 have z3:=e3.size
 refine Qc (Qe (Qg [true,true,true,false] Z Z (Qa (Qb fl176_0 Z) Z (Qa (Qk Yp Z (h1.one 0 Z)) Z (Qa (Qb Vm Z) Z (Yh (cs':=[.int .i64 x.epoch,.int .i64 0]) Yp Z Z Z h3 (Nat.le_of_ble_eq_true Z) Z (fun w4 m1 h3'=>?_)))))))
 replace h3:=h3'
 replace E:=E.step m1 (fun g hg=>by cases hg;omega);replace h1:=h1.mod m1 (fun g hg=>by cases hg;omega);replace h2:=h2.mod m1 (fun g hg=>by cases hg;omega)
 have z4:=m1.size
 refine Qc (Qe (Qg [true,true,true,false] Z Z (Qa (Qb fl176_1 Z) Z (Qa (Qk Yp Z (h1.one 1 Z)) Z (Qa (Qb Tc Z) Z (Yh (cs':=[.int .i64 x.epoch,.int .i64 x.turn]) Yp Z Z Z h3 (Nat.le_of_ble_eq_true Z) Z (fun w5 m2 h3'=>?_)))))))
 replace h3:=h3'
 replace E:=E.step m2 (fun g hg=>by cases hg;omega);replace h1:=h1.mod m2 (fun g hg=>by cases hg;omega);replace h2:=h2.mod m2 (fun g hg=>by cases hg;omega)
 have z5:=m2.size
 refine Qc (Qe (Qg [true,false] Z Z (Qa (Qy B4 Z h3.at Z) Z (Q6 (cs':=[.int .i64 x.epoch,.int .i64 x.turn]) B4 Z Z Z Z h2 (Nat.le_of_ble_eq_true Z) Z (fun w6 m3 h2'=>?_)))))
 replace h2:=h2'
 replace E:=E.step m3 (fun g hg=>by cases hg;omega);replace h1:=h1.mod m3 (fun g hg=>by cases hg;omega);replace h3:=h3.mod m3 (fun g hg=>by cases hg;omega)
 have z6:=m3.size
 refine Qc (Qt (Xu Z Z (Yc B4 h2.at Z) E ?_))
 rfl

set_option maxRecDepth 20000 in
theorem c_toRecord (x : Record) (w : World)  : Ct Tryz.prog 131 [.agg (Enc.enc x).toArray] w (fun v _=>v = .agg (Enc.enc x).toArray):=by
 refine Yi Tryz.func131 Z Tryz.ntmps131 Z ?_
 refine Q7 [(0,.agg (Enc.enc x).toArray)] ⟨Z,trivial⟩ ?_
 have E : Ext w w:=Ext.refl w
 refine Qe (Qg [false,false] Z Z (Yz Z Z (fun b1 w1 e1 s1 h1=>?_)))
 have g_b1 : w.heap.size ≤ b1:=by have:=E.size;omega
 have y_b1:=h1.lt
 replace E:=E.trans e1
 have z1:=e1.size
 refine Yj K0 Z (fun b2 w2 e2 s2 h2=>?_)
 have g_b2 : w.heap.size ≤ b2:=by have:=E.size;omega
 have y_b2:=h2.lt
 replace E:=E.trans e2;replace h1:=h1.ext e2
 have z2:=e2.size
 refine Qc (Qe (Qg [false] Z Z (Yj K0 Z (fun b3 w3 e3 s3 h3=>?_))))
 have g_b3 : w.heap.size ≤ b3:=by have:=E.size;omega
 have y_b3:=h3.lt
 replace E:=E.trans e3;replace h1:=h1.ext e3;replace h2:=h2.ext e3
 have z3:=e3.size
 refine Qc (Qe (Qg [true,true,true,false] Z Z (Qa (Qb fl178_0 Z) Z (Qa (Qk Yp Z (h1.one 0 Z)) Z (Qa (Qb Gy Z) Z (Yh (cs':=[.int .i64 x.op,.int .i64 0,.int .i64 0,.int .i64 0,.int .i64 0]) Yp Z Z Z h3 (Nat.le_of_ble_eq_true Z) Z (fun w4 m1 h3'=>?_)))))))
 replace h3:=h3'
 replace E:=E.step m1 (fun g hg=>by cases hg;omega);replace h1:=h1.mod m1 (fun g hg=>by cases hg;omega);replace h2:=h2.mod m1 (fun g hg=>by cases hg;omega)
 have z4:=m1.size
 refine Qc (Qe (Qg [true,true,false,true,false] Z Z (Qa (Qb fl178_1 Z) Z (Qa (Qy st176 Z (h1.part 1 [.int .i64 x.stamp.epoch,.int .i64 x.stamp.turn] Z) Z) Z (Qu Tryz.call143 Z (c_toStamp x.stamp _ ) Z (fun _ w5 e4 hv=>?_))))))
 subst hv
 replace E:=E.trans e4;replace h1:=h1.ext e4;replace h2:=h2.ext e4;replace h3:=h3.ext e4
 have z5:=e4.size
 refine Qa (Qb Uu Z) Z (Q6 (cs':=[.int .i64 x.op,.int .i64 x.stamp.epoch,.int .i64 x.stamp.turn,.int .i64 0,.int .i64 0]) B4 Z Z Z Z h3 (Nat.le_of_ble_eq_true Z) Z (fun w6 m2 h3'=>?_))
 replace h3:=h3'
 replace E:=E.step m2 (fun g hg=>by cases hg;omega);replace h1:=h1.mod m2 (fun g hg=>by cases hg;omega);replace h2:=h2.mod m2 (fun g hg=>by cases hg;omega)
 have z6:=m2.size
 refine Qc (Qe (Qg [true,true,true,false] Z Z (Qa (Qb fl178_2 Z) Z (Qa (Qk Yp Z (h1.one 3 Z)) Z (Qa (Qb Cx Z) Z (Yh (cs':=[.int .i64 x.op,.int .i64 x.stamp.epoch,.int .i64 x.stamp.turn,.int .i64 x.key,.int .i64 0]) Yp Z Z Z h3 (Nat.le_of_ble_eq_true Z) Z (fun w7 m3 h3'=>?_)))))))
 replace h3:=h3'
 replace E:=E.step m3 (fun g hg=>by cases hg;omega);replace h1:=h1.mod m3 (fun g hg=>by cases hg;omega);replace h2:=h2.mod m3 (fun g hg=>by cases hg;omega)
 have z7:=m3.size
 refine Qc (Qe (Qg [true,true,true,false] Z Z (Qa (Qb fl178_3 Z) Z (Qa (Qk Yp Z (h1.one 4 Z)) Z (Qa (Qb Cw Z) Z (Yh (cs':=[.int .i64 x.op,.int .i64 x.stamp.epoch,.int .i64 x.stamp.turn,.int .i64 x.key,.int .i64 x.val]) Yp Z Z Z h3 (Nat.le_of_ble_eq_true Z) Z (fun w8 m4 h3'=>?_)))))))
 replace h3:=h3'
 replace E:=E.step m4 (fun g hg=>by cases hg;omega);replace h1:=h1.mod m4 (fun g hg=>by cases hg;omega);replace h2:=h2.mod m4 (fun g hg=>by cases hg;omega)
 have z8:=m4.size
 refine Qc (Qe (Qg [true,false] Z Z (Qa (Qy K0 Z h3.at Z) Z (Q6 (cs':=[.int .i64 x.op,.int .i64 x.stamp.epoch,.int .i64 x.stamp.turn,.int .i64 x.key,.int .i64 x.val]) K0 Z Z Z Z h2 (Nat.le_of_ble_eq_true Z) Z (fun w9 m5 h2'=>?_)))))
 replace h2:=h2'
 replace E:=E.step m5 (fun g hg=>by cases hg;omega);replace h1:=h1.mod m5 (fun g hg=>by cases hg;omega);replace h3:=h3.mod m5 (fun g hg=>by cases hg;omega)
 have z9:=m5.size
 refine Qc (Qt (Xu Z Z (Yc K0 h2.at Z) E ?_))
 rfl

end Go.Proofs.YtjpoipdddpmeiaaGreat
