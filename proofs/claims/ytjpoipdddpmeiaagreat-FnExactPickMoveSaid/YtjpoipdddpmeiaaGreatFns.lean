/- What the functions that the laws call come to: a contract each; no condition. -/
import Derived.Test.YtjpoipdddpmeiaaGreatTypes
namespace Go.Proofs.YtjpoipdddpmeiaaGreat
open Go Go.Proofs.YtjpoipdddpmeiaaGreat.X Go.Proofs
set_option maxRecDepth 20000 in
theorem c_l02Order (a : Int) (b : Int) (w : World)  : Ct Tryz.prog 148 [.int .i64 a,.int .i64 b] w (fun v _=>v = .int .i64 (Xr a b)):=by
 refine Ym Tryz.func148 Z Tryz.ntmps148 Z ?_
 refine Q8 [(0,.int .i64 a),(1,.int .i64 b)] ⟨Z,Z,trivial⟩ ?_
 have E : Ext w w:=Ext.refl w
 refine Qe (Qh [true] Z Z (Qa (Qf Z) Z (Qc (Qe (Q0 (Qe (Qh [true,true,true,true] Z Z (Qa (Qd Z) Z (Qa (Qd Z) Z (Qa (Yi Z Z) Z (Qa (Qf Z) Z (Qc (Qt Z (fun hc1=>?_) (fun hc1=>?_))))))))))))))
 ·refine Qe (Qh [true] Z Z (Qa (Qf Z) Z (Qc (Qv (Q2 (Qm Z Z E (congrArg (Value.int .i64) ?_)))))))
  simp at *
  unfold Xr;(repeat' split) <;> first | rfl | omega
 ·refine Qe (Qh [true,true,true,true] Z Z (Qa (Qd Z) Z (Qa (Qd Z) Z (Qa (G8 Z Z) Z (Qa (Qf Z) Z (Qc (Qt Z (fun hc2=>?_) (fun hc2=>?_))))))))
  ·refine Qe (Qh [true] Z Z (Qa (Qf Z) Z (Qc (Qv (Q2 (Qm Z Z E (congrArg (Value.int .i64) ?_)))))))
   simp at *
   unfold Xr;(repeat' split) <;> first | rfl | omega
  ·refine Qo (Q6 (Y0 (Qe (Qh [true] Z Z (Qa (Qf Z) Z (Qc (Qv (Qm Z Z E (congrArg (Value.int .i64) ?_)))))))))
   simp at *
   unfold Xr;(repeat' split) <;> first | rfl | omega

set_option maxRecDepth 20000 in
theorem c_toCell (x : Cell) (w : World)  : Ct Tryz.prog 132 [.agg (Enc.enc x).toArray] w (fun v _=>v = .agg (Enc.enc x).toArray):=by
 refine Ym Tryz.func132 Z Tryz.ntmps132 Z ?_
 refine Q8 [(0,.agg (Enc.enc x).toArray)] ⟨Z,trivial⟩ ?_
 have E : Ext w w:=Ext.refl w
 refine Qe (Qh [false,false] Z Z (Y1 Z Z (fun b1 w1 e1 s1 h1=>?_)))
 have g_b1 : w.heap.size ≤ b1:=by have:=E.size;omega
 have y_b1:=h1.lt
 replace E:=E.trans e1
 have z1:=e1.size
 refine Yo Tq Z (fun b2 w2 e2 s2 h2=>?_)
 have g_b2 : w.heap.size ≤ b2:=by have:=E.size;omega
 have y_b2:=h2.lt
 replace E:=E.trans e2;replace h1:=h1.ext e2
 have z2:=e2.size
 refine Qc (Qe (Qh [false] Z Z (Yo Tq Z (fun b3 w3 e3 s3 h3=>?_))))
 have g_b3 : w.heap.size ≤ b3:=by have:=E.size;omega
 have y_b3:=h3.lt
 replace E:=E.trans e3;replace h1:=h1.ext e3;replace h2:=h2.ext e3
 have z3:=e3.size
 refine Qc (Qe (Qh [true,true,true,false] Z Z (Qa (Qb fl180_0 Z) Z (Qa (Qk Yt Z (h1.one 0 Z)) Z (Qa (Qb Gv Z) Z (Yj (cs':=[.int .i64 x.op,.int .i64 0,.int .i64 0,.int .i64 0]) Yt Z Z Z h3 (Nat.le_of_ble_eq_true Z) Z (fun w4 m1 h3'=>?_)))))))
 replace h3:=h3'
 replace E:=E.step m1 (fun g hg=>by cases hg;omega);replace h1:=h1.mod m1 (fun g hg=>by cases hg;omega);replace h2:=h2.mod m1 (fun g hg=>by cases hg;omega)
 have z4:=m1.size
 refine Qc (Qe (Qh [true,true,true,false] Z Z (Qa (Qb fl180_1 Z) Z (Qa (Qk Yt Z (h1.one 1 Z)) Z (Qa (Qb Gu Z) Z (Yj (cs':=[.int .i64 x.op,.int .i64 x.epoch,.int .i64 0,.int .i64 0]) Yt Z Z Z h3 (Nat.le_of_ble_eq_true Z) Z (fun w5 m2 h3'=>?_)))))))
 replace h3:=h3'
 replace E:=E.step m2 (fun g hg=>by cases hg;omega);replace h1:=h1.mod m2 (fun g hg=>by cases hg;omega);replace h2:=h2.mod m2 (fun g hg=>by cases hg;omega)
 have z5:=m2.size
 refine Qc (Qe (Qh [true,true,true,false] Z Z (Qa (Qb fl180_2 Z) Z (Qa (Qk Yt Z (h1.one 2 Z)) Z (Qa (Qb Gt Z) Z (Yj (cs':=[.int .i64 x.op,.int .i64 x.epoch,.int .i64 x.key,.int .i64 0]) Yt Z Z Z h3 (Nat.le_of_ble_eq_true Z) Z (fun w6 m3 h3'=>?_)))))))
 replace h3:=h3'
 replace E:=E.step m3 (fun g hg=>by cases hg;omega);replace h1:=h1.mod m3 (fun g hg=>by cases hg;omega);replace h2:=h2.mod m3 (fun g hg=>by cases hg;omega)
 have z6:=m3.size
 refine Qc (Qe (Qh [true,true,true,false] Z Z (Qa (Qb fl180_3 Z) Z (Qa (Qk Yt Z (h1.one 3 Z)) Z (Qa (Qb Gs Z) Z (Yj (cs':=[.int .i64 x.op,.int .i64 x.epoch,.int .i64 x.key,.int .i64 x.val]) Yt Z Z Z h3 (Nat.le_of_ble_eq_true Z) Z (fun w7 m4 h3'=>?_)))))))
 replace h3:=h3'
 replace E:=E.step m4 (fun g hg=>by cases hg;omega);replace h1:=h1.mod m4 (fun g hg=>by cases hg;omega);replace h2:=h2.mod m4 (fun g hg=>by cases hg;omega)
 have z7:=m4.size
 refine Qc (Qe (Qh [true,false] Z Z (Qa (Qy Tq Z h3.at Z) Z (Q4 (cs':=[.int .i64 x.op,.int .i64 x.epoch,.int .i64 x.key,.int .i64 x.val]) Tq Z Z Z Z h2 (Nat.le_of_ble_eq_true Z) Z (fun w8 m5 h2'=>?_)))))
 replace h2:=h2'
 replace E:=E.step m5 (fun g hg=>by cases hg;omega);replace h1:=h1.mod m5 (fun g hg=>by cases hg;omega);replace h3:=h3.mod m5 (fun g hg=>by cases hg;omega)
 have z8:=m5.size
 refine Qc (Qv (X3 Z Z (Yd Tq h2.at Z) E ?_))
 rfl

set_option maxRecDepth 20000 in
theorem c_eqCell (x : Cell) (y : Cell) (w : World)  : Ct Tryz.prog 139 [.agg (Enc.enc x).toArray,.agg (Enc.enc y).toArray] w (fun v _=>v = .bool (decide (x = y))):=by
 refine Ym Tryz.func139 Z Tryz.ntmps139 Z ?_
 refine Q8 [(0,.agg (Enc.enc x).toArray),(1,.agg (Enc.enc y).toArray)] ⟨Z,Z,trivial⟩ ?_
 have E : Ext w w:=Ext.refl w
 refine Qe (Qh [false,false,true] Z Z (Y1 Z Z (fun b1 w1 e1 s1 h1=>?_)))
 have g_b1 : w.heap.size ≤ b1:=by have:=E.size;omega
 have y_b1:=h1.lt
 replace E:=E.trans e1
 have z1:=e1.size
 refine Y1 Z Z (fun b2 w2 e2 s2 h2=>?_)
 have g_b2 : w.heap.size ≤ b2:=by have:=E.size;omega
 have y_b2:=h2.lt
 replace E:=E.trans e2;replace h1:=h1.ext e2
 have z2:=e2.size
 refine Qa (Qf Z) Z (Qc (Qe (Qe (Qh [true,true,true,true,true] Z Z (Qa (Qb Gv Z) Z (Qa (Qk Yt Z (h1.one 0 Z)) Z (Qa (Qb Gv Z) Z (Qa (Qk Yt Z (h2.one 0 Z)) Z (Qa (Yu Z Z) Z (Qc (Qt Z (fun hc1=>?_) (fun hc1=>?_))))))))))))
 ·refine Qe (Qh [true] Z Z (Qa (Qf Z) Z (Qc (Qv (Qm Z Z E ?_)))))
  cases x;cases y;simp_all
 ·refine Qo (Qe (Qe (Qh [true,true,true,true,true] Z Z (Qa (Qb Gu Z) Z (Qa (Qk Yt Z (h1.one 1 Z)) Z (Qa (Qb Gu Z) Z (Qa (Qk Yt Z (h2.one 1 Z)) Z (Qa (Yu Z Z) Z (Qc (Qt Z (fun hc2=>?_) (fun hc2=>?_)))))))))))
  ·refine Qe (Qh [true] Z Z (Qa (Qf Z) Z (Qc (Qv (Qm Z Z E ?_)))))
   cases x;cases y;simp_all
  ·refine Qo (Qe (Qe (Qh [true,true,true,true,true] Z Z (Qa (Qb Gt Z) Z (Qa (Qk Yt Z (h1.one 2 Z)) Z (Qa (Qb Gt Z) Z (Qa (Qk Yt Z (h2.one 2 Z)) Z (Qa (Yu Z Z) Z (Qc (Qt Z (fun hc3=>?_) (fun hc3=>?_)))))))))))
   ·refine Qe (Qh [true] Z Z (Qa (Qf Z) Z (Qc (Qv (Qm Z Z E ?_)))))
    cases x;cases y;simp_all
   ·refine Qo (Qe (Qe (Qh [true,true,true,true,true] Z Z (Qa (Qb Gs Z) Z (Qa (Qk Yt Z (h1.one 3 Z)) Z (Qa (Qb Gs Z) Z (Qa (Qk Yt Z (h2.one 3 Z)) Z (Qa (Yu Z Z) Z (Qc (Qt Z (fun hc4=>?_) (fun hc4=>?_)))))))))))
    ·refine Qe (Qh [true] Z Z (Qa (Qf Z) Z (Qc (Qv (Qm Z Z E ?_)))))
     cases x;cases y;simp_all
    ·refine Qo (Qe (Qh [true] Z Z (Qa (Qf Z) Z (Qc (Qv (Qm Z Z E ?_))))))
     cases x;cases y;simp_all

set_option maxRecDepth 20000 in
theorem c_szCellS (vxs : Value) (xs : List Cell) (n : Int) (w : World) (hxs : RdS w vxs xs) (h0 : 0 ≤ n ∧ n ≤ 1048576) : Ct Tryz.prog 95 [vxs,.int .i64 n] w (fun v _=>v = .int .i64 (Uk xs.length n)):=by
 refine Ym Tryz.func95 Z Tryz.ntmps95 Z ?_
 refine Q8 [(0,vxs),(1,.int .i64 n)] ⟨Z,Z,trivial⟩ ?_
 have E : Ext w w:=Ext.refl w
 refine Qe (Qh [true] Z Z (Qa (Qf Z) Z (Qc (Qe (Qh [true,true,true,true,true] Z Z (Qa (Qd Z) Z (Qa (Qd Z) Z (Qa (Yc Tryz.underlying104 Z (hxs.ext E).len) Z (Qa (K6 Z Z Z) Z (Qa (Qf Z) Z (Qc (Qe (Qe (Qh [true,true] Z Z (Qa (Qd Z) Z (Qa (Yi Z Z) Z (Qc (Qt Z (fun hc1=>?_) (fun hc1=>?_)))))))))))))))))))
 ·refine Qe (Qh [true] Z Z (Qa (Qf Z) Z (Qc (Qv (Qm Z Z E ?_)))))
  exact Bj h0.2 h0.1 hxs.1 hc1
 ·refine Qo (Qe (Qh [true,true] Z Z (Qa (Qd Z) Z (Qa (Qf Z) Z (Qc (Qv (Qm Z Z E ?_)))))))
  exact Cv h0.2 h0.1 hxs.1 hc1

set_option maxRecDepth 20000 in
theorem c_eqCellS (vxs : Value) (xs : List Cell) (vys : Value) (ys : List Cell) (w : World) (hxs : RdS w vxs xs) (hys : RdS w vys ys) : Ct Tryz.prog 122 [vxs,vys] w (fun v _=>v = .bool (decide (xs = ys))):=by
 refine Ym Tryz.func122 Z Tryz.ntmps122 Z ?_
 refine Q8 [(0,vxs),(1,vys)] ⟨Z,Z,trivial⟩ ?_
 have E : Ext w w:=Ext.refl w
 refine Qe (Qh [true] Z Z (Qa (Qf Z) Z (Qc (Qe (Qe (Qh [true,true,true,true,true] Z Z (Qa (Qd Z) Z (Qa (Yc Tryz.underlying75 Z (hxs.ext E).len) Z (Qa (Qd Z) Z (Qa (Yc Tryz.underlying75 Z (hys.ext E).len) Z (Qa (Yu Z Z) Z (Qc (Qt Z (fun hc1=>?_) (fun hc1=>?_))))))))))))))
 ·have hc1n : ¬ xs.length = ys.length:=by first | (have h:=of_decide_eq_true hc1;omega) | (have h:=hc1;simp at h;omega)
  refine Qe (Qh [true] Z Z (Qa (Qf Z) Z (Qc (Qv (Qm Z Z E ?_)))))
  simp [Hl hc1n]
 ·have hc1n : xs.length = ys.length:=by first | (have h:=of_decide_eq_false hc1;omega) | (have h:=hc1;simp at h;omega)
  refine Qo (Qe (Qe (Qh [true] Z Z (Qa (Qf Z) Z (Qc (Q0 (Yp (fun (k : Nat)=>[(0,vxs),(1,vys),(4,.bool false),(5,.int .i64 ((k : Nat) : Int))]) (fun (k : Nat) w'=>Ext w w' ∧ w.heap.size ≤ w'.heap.size ∧ k ≤ xs.length ∧ xs.take k = ys.take k) (fun (k : Nat)=>xs.length - k) 0 ⟨Z,Z,Z,Z,trivial⟩ ⟨E,Nat.le_refl _,Nat.zero_le _,Z⟩ ?_)))))))
  clear E
  rintro k w1 ⟨E,z1,hk,hp⟩
  refine Qe (Qe (Qh [true,true,true,true] Z Z (Qa (Qd Z) Z (Qa (Qd Z) Z (Qa (Yc Tryz.underlying75 Z (hxs.ext E).len) Z (Qa (Yi Z Z) Z (Qc (Qt Z (fun hc2=>?_) (fun hc2=>?_)))))))))
  ·have hc2n : k < xs.length:=by first | (have h:=of_decide_eq_true hc2;omega) | (have h:=hc2;simp at h;omega)
   refine Qo (Qe (Q0 (Qe (Xx Xs [(0,true),(1,true),(2,true),(3,true),(4,true),(5,true),(6,true),(7,true),(8,false),(9,true)] (by decide +kernel) Z (fun w2 e1=>?_)))))
   replace E:=E.trans e1
   have z2:=e1.size
   refine Qa (Qd Z) Z (Qa (Qd Z) Z ?_)
   have hi1 : k < xs.length:=(by first | assumption | omega | (simp only [List.length_set];first | assumption | omega) | (simp only [List.getElem_set_self,List.length_set];first | assumption | omega) | (simp only [Yn,Yh,List.length_set];first | assumption | omega))
   refine Qa (Qz (i:=k) H2 Z Z (hxs.ext E) hi1) Z (Qa (Qy Tq Z ((hxs.ext E).get hi1) Z) Z (Qa (Qd Z) Z (Qa (Qd Z) Z ?_)))
   have hi2 : k < ys.length:=(by first | assumption | omega | (simp only [List.length_set];first | assumption | omega) | (simp only [List.getElem_set_self,List.length_set];first | assumption | omega) | (simp only [Yn,Yh,List.length_set];first | assumption | omega))
   refine Qa (Qz (i:=k) H2 Z Z (hys.ext E) hi2) Z (Qa (Qy Tq Z ((hys.ext E).get hi2) Z) Z (Qw Tryz.call139 Z (c_eqCell (xs[k]'hi1) (ys[k]'hi2) _ ) Z (fun _ w3 e2 hv=>?_)))
   subst hv
   replace E:=E.trans e2
   have z3:=e2.size
   refine Qa (Yy Z) Z (Qc (Qt Z (fun hc3=>?_) (fun hc3=>?_)))
   ·refine Qe (Qh [true] Z Z (Qa (Qf Z) Z (Qc (Qv (Q2 (Yv (Q2 (Qm Z Z E ?_))))))))
    exact Hm (by omega) (by omega) (by simpa using hc3)
   ·refine Qo (Q6 (Y0 (Qh [true,true,true] Z Z (Qa (Qd Z) Z (Qa (Ye Z Z (Y3 hc2n hxs.1)) Z (Qa (Qf Z) Z (Qc (Q6 (Yk (k + 1) (by omega) ⟨Z,Z,Z,Z,trivial⟩ ⟨E,(by omega),(by omega),Vi hp (by assumption) (by omega) (by simpa using hc3)⟩)))))))))
  ·have hc2n : ¬ k < xs.length:=by first | (have h:=of_decide_eq_false hc2;omega) | (have h:=hc2;simp at h;omega)
   refine Yq (Q5 (Q3 ?_))
   refine Qe (Qh [true] Z Z (Qa (Qf Z) Z (Qc (Qv (Qm Z Z E ?_)))))
   exact Gc hp hc1n (by omega)

set_option maxRecDepth 20000 in
theorem c_isNaN (a : Int) (w : World)  : Ct Tryz.prog 153 [.int .i64 a] w (fun v _=>v = .bool false):=by
 refine Ym Tryz.func153 Z Tryz.ntmps153 Z ?_
 refine Q8 [(0,.int .i64 a)] ⟨Z,trivial⟩ ?_
 have E : Ext w w:=Ext.refl w
 refine Qe (Qh [true] Z Z (Qa (Qf Z) Z (Qc (Qe (Qh [true,true,true,true] Z Z (Qa (Qd Z) Z (Qa (Qd Z) Z (Qa (Yu Z Z) Z (Qa (Qf Z) Z (Qc (Qv (Qm Z Z E ?_))))))))))))
 simp

set_option maxRecDepth 20000 in
theorem c_cmpCompare (a : Int) (b : Int) (w : World)  : Ct Tryz.prog 152 [.int .i64 a,.int .i64 b] w (fun v _=>v = .int .i64 (Xr a b)):=by
 refine Ym Tryz.func152 Z Tryz.ntmps152 Z ?_
 refine Q8 [(0,.int .i64 a),(1,.int .i64 b)] ⟨Z,Z,trivial⟩ ?_
 have E : Ext w w:=Ext.refl w
 refine Qe (Qh [true] Z Z (Qa (Qf Z) Z (Qc (Qe (Qh [true,false,true] Z Z (Qa (Qd Z) Z (Qw Tryz.call153 Z (c_isNaN a _ ) Z (fun _ w1 e1 hv=>?_))))))))
 subst hv
 replace E:=E.trans e1
 have z1:=e1.size
 refine Qa (Qf Z) Z (Qc (Qe (Qh [true,false,true] Z Z (Qa (Qd Z) Z (Qw Tryz.call153 Z (c_isNaN b _ ) Z (fun _ w2 e2 hv=>?_))))))
 subst hv
 replace E:=E.trans e2
 have z2:=e2.size
 refine Qa (Qf Z) Z (Qc (Qe (Qe (Qh [true] Z Z (Qa (Qd Z) Z (Qc (S_condF Z (Qo (Qe (Qe (Qh [true] Z Z (Qa (Qd Z) Z (Qc (S_condF Z (Qo (Qe (Qe (Qh [true,true,true] Z Z (Qa (Qd Z) Z (Qa (Qd Z) Z (Qa (Yi Z Z) Z (Qc (Qt Z (fun hc1=>?_) (fun hc1=>?_))))))))))))))))))))))))
 ·refine Qe (Qh [true] Z Z (Qa (Qf Z) Z (Qc (Qv (Qm Z Z E (congrArg (Value.int .i64) ?_))))))
  simp at *
  unfold Xr;(repeat' split) <;> first | rfl | omega
 ·refine Qo (Qe (Qe (Qh [true,true,true] Z Z (Qa (Qd Z) Z (Qa (Qd Z) Z (Qa (G8 Z Z) Z (Qc (Qt Z (fun hc2=>?_) (fun hc2=>?_)))))))))
  ·refine Qe (Qh [true] Z Z (Qa (Qf Z) Z (Qc (Qv (Qm Z Z E (congrArg (Value.int .i64) ?_))))))
   simp at *
   unfold Xr;(repeat' split) <;> first | rfl | omega
  ·refine Qo (Qe (Qh [true] Z Z (Qa (Qf Z) Z (Qc (Qv (Qm Z Z E (congrArg (Value.int .i64) ?_)))))))
   simp at *
   unfold Xr;(repeat' split) <;> first | rfl | omega

set_option maxRecDepth 20000 in
theorem c_slicesCompare (vxs : Value) (xs : List Int) (vys : Value) (ys : List Int) (w : World) (hxs : RdS w vxs xs) (hys : RdS w vys ys) : Ct Tryz.prog 151 [vxs,vys] w (fun v _=>v = .int .i64 (Vp xs ys)):=by
 refine Ym Tryz.func151 Z Tryz.ntmps151 Z ?_
 refine Q8 [(0,vxs),(1,vys)] ⟨Z,Z,trivial⟩ ?_
 have E : Ext w w:=Ext.refl w
 refine Qe (Qh [true] Z Z (Qa (Qf Z) Z (Qc (Qe (Qe (Qh [true,true,true] Z Z (Qa (Qd Z) Z (Qa (Yc Tryz.underlying76 Z (hxs.ext E).len) Z (Qa (Qd Z) Z (Qc (Q0 (Yp (fun (k : Nat)=>[(0,vxs),(1,vys),(4,.int .i64 0),(9,vxs),(10,.int .i64 ((xs.length : Nat) : Int)),(11,.int .i64 ((k : Nat) : Int))]) (fun (k : Nat) w'=>Ext w w' ∧ w.heap.size ≤ w'.heap.size ∧ k ≤ xs.length ∧ k ≤ ys.length ∧ Vp (xs.drop k) (ys.drop k) = Vp xs ys) (fun (k : Nat)=>xs.length - k) 0 ⟨Z,Z,Z,Z,Z,Z,trivial⟩ ⟨E,Nat.le_refl _,Nat.zero_le _,Nat.zero_le _,Z⟩ ?_))))))))))))
 clear E
 rintro k w1 ⟨E,z1,hk,hky,hI⟩
 refine Qe (Qh [true] Z Z (Qa (Yi Z Z) Z (Qc (Qe (Qt Z (fun hc1=>?_) (fun hc1=>?_))))))
 ·have hc1n : k < xs.length:=by first | (have h:=of_decide_eq_true hc1;omega) | (have h:=hc1;simp at h;omega)
  refine Qo (Qe (Q0 (Qe (Qh [true,true,true,true,true] Z Z (Qa (Qd Z) Z ?_)))))
  have hi1 : k < xs.length:=(by first | assumption | omega | (simp only [List.length_set];first | assumption | omega) | (simp only [List.getElem_set_self,List.length_set];first | assumption | omega) | (simp only [Yn,Yh,List.length_set];first | assumption | omega))
  refine Qa (Qz (i:=k) Ux Z Z (hxs.ext E) hi1) Z (Qa (Qk Yt Z (((hxs.ext E).get hi1).one 0 Z)) Z (Qa (Qf Z) Z (Qa (Qf Z) Z (Qc (Qe (Qe (Qh [true,true,true,true] Z Z (Qa (Qd Z) Z (Qa (Qd Z) Z (Qa (Yc Tryz.underlying76 Z (hys.ext E).len) Z (Qa (Tt Z Z) Z (Qc (Qt Z (fun hc2=>?_) (fun hc2=>?_))))))))))))))
  ·have hc2n : k ≥ ys.length:=by first | (have h:=of_decide_eq_true hc2;omega) | (have h:=hc2;simp at h;omega)
   refine Qe (Qh [true] Z Z (Qa (Qf Z) Z (Qc (Qv (Q2 (Yv (Q2 (Qm Z Z E ?_))))))))
   exact cmpL_1 hI (by omega) (by omega)
  ·have hc2n : ¬ k ≥ ys.length:=by first | (have h:=of_decide_eq_false hc2;omega) | (have h:=hc2;simp at h;omega)
   refine Qo (Qe (Qh [true,true,true,true,true] Z Z (Qa (Qd Z) Z (Qa (Qd Z) Z ?_))))
   have hi2 : k < ys.length:=(by first | assumption | omega | (simp only [List.length_set];first | assumption | omega) | (simp only [List.getElem_set_self,List.length_set];first | assumption | omega) | (simp only [Yn,Yh,List.length_set];first | assumption | omega))
   refine Qa (Qz (i:=k) Ux Z Z (hys.ext E) hi2) Z (Qa (Qk Yt Z (((hys.ext E).get hi2).one 0 Z)) Z (Qa (Qf Z) Z (Qc (Qe (Qh [true,true,false,true] Z Z (Qa (Qd Z) Z (Qa (Qd Z) Z (Qw Tryz.call152 Z (c_cmpCompare (xs[k]'hi1) (ys[k]'hi2) _ ) Z (fun _ w2 e1 hv=>?_)))))))))
   subst hv
   replace E:=E.trans e1
   have z2:=e1.size
   refine Qa (Qf Z) Z (Qc (Qe (Qh [true,true] Z Z (Qa (Qd Z) Z (Qa (Yu Z Z) Z (Qc (Qt Z (fun hc3=>?_) (fun hc3=>?_))))))))
   ·refine Qe (Qh [true,true] Z Z (Qa (Qd Z) Z (Qa (Qf Z) Z (Qc (Qv (Q2 (Yv (Q2 (Qm Z Z E ?_)))))))))
    exact cmpL_2 hI (by omega) (by omega) (by simpa using hc3)
   ·refine Qo (Q6 (Y0 (Qh [true,true] Z Z (Qa (Ye Z Z (Y3 hc1n hxs.1)) Z (Qa (Qd Z) Z (Qc (Q6 (Yk (k + 1) (by omega) ⟨Z,Z,Z,Z,Z,Z,trivial⟩ ⟨E,(by omega),(by omega),(by omega),cmpL_step hI (by omega) (by omega) (by simpa using hc3)⟩))))))))
 ·have hc1n : ¬ k < xs.length:=by first | (have h:=of_decide_eq_false hc1;omega) | (have h:=hc1;simp at h;omega)
  refine Yq (Q5 (Q3 ?_))
  refine Qe (Qe (Qh [true,true,true,true,true] Z Z (Qa (Qd Z) Z (Qa (Yc Tryz.underlying76 Z (hxs.ext E).len) Z (Qa (Qd Z) Z (Qa (Yc Tryz.underlying76 Z (hys.ext E).len) Z (Qa (Yi Z Z) Z (Qc (Qt Z (fun hc4=>?_) (fun hc4=>?_))))))))))
  ·have hc4n : xs.length < ys.length:=by first | (have h:=of_decide_eq_true hc4;omega) | (have h:=hc4;simp at h;omega)
   refine Qe (Qh [true] Z Z (Qa (Qf Z) Z (Qc (Qv (Qm Z Z E ?_)))))
   exact cmpL_3 hI (by omega) (by omega)
  ·have hc4n : ¬ xs.length < ys.length:=by first | (have h:=of_decide_eq_false hc4;omega) | (have h:=hc4;simp at h;omega)
   refine Qo (Qe (Qh [true] Z Z (Qa (Qf Z) Z (Qc (Qv (Qm Z Z E ?_))))))
   exact cmpL_4 hI (by omega) (by omega)

set_option maxRecDepth 20000 in
theorem c_orderOf (vxs : Value) (xs : List Int) (vys : Value) (ys : List Int) (w : World) (hxs : RdS w vxs xs) (hys : RdS w vys ys) : Ct Tryz.prog 149 [vxs,vys] w (fun v _=>v = .int .i64 (Vp xs ys)):=by
 refine Ym Tryz.func149 Z Tryz.ntmps149 Z ?_
 refine Q8 [(0,vxs),(1,vys)] ⟨Z,Z,trivial⟩ ?_
 have E : Ext w w:=Ext.refl w
 refine Qe (Qh [true] Z Z (Qa (Qf Z) Z (Qc (Qe (Qh [true,true,false,true] Z Z (Qa (Qd Z) Z (Qa (Qd Z) Z (Qw Tryz.call151 Z (c_slicesCompare vxs xs vys ys _ (hxs.ext E) (hys.ext E)) Z (fun _ w1 e1 hv=>?_)))))))))
 subst hv
 replace E:=E.trans e1
 have z1:=e1.size
 refine Qa (Qf Z) Z (Qc (Qv (Qm Z Z E ?_)))
 rfl

set_option maxRecDepth 20000 in
theorem c_CellOrder (x : Cell) (y : Cell) (w : World)  : Ct Tryz.prog 144 [.agg (Enc.enc x).toArray,.agg (Enc.enc y).toArray] w (fun v _=>v = .int .i64 (Hh x y)):=by
 refine Ym Tryz.func144 Z Tryz.ntmps144 Z ?_
 refine Q8 [(0,.agg (Enc.enc x).toArray),(1,.agg (Enc.enc y).toArray)] ⟨Z,Z,trivial⟩ ?_
 have E : Ext w w:=Ext.refl w
 refine Qe (Qh [false,false,true] Z Z (Y1 Z Z (fun b1 w1 e1 s1 h1=>?_)))
 have g_b1 : w.heap.size ≤ b1:=by have:=E.size;omega
 have y_b1:=h1.lt
 replace E:=E.trans e1
 have z1:=e1.size
 refine Y1 Z Z (fun b2 w2 e2 s2 h2=>?_)
 have g_b2 : w.heap.size ≤ b2:=by have:=E.size;omega
 have y_b2:=h2.lt
 replace E:=E.trans e2;replace h1:=h1.ext e2
 have z2:=e2.size
 refine Qa (Qf Z) Z (Qc (Qe (Qh [true,true,true,true,true,true,true,true,false,true,true,true,true,true,true,true,true,false,false,true] Z Z (Qa (Qb Gu Z) Z (Qa (Qk Yt Z (h1.one 1 Z)) Z (Qa (Qb Gv Z) Z (Qa (Qk Yt Z (h1.one 0 Z)) Z (Qa (Qb Gt Z) Z (Qa (Qk Yt Z (h1.one 2 Z)) Z (Qa (Qb Gs Z) Z (Qa (Qk Yt Z (h1.one 3 Z)) Z (Y7 (vs:=[.int .i64 x.epoch,.int .i64 x.op,.int .i64 x.key,.int .i64 x.val]) (css:=[[.int .i64 x.epoch],[.int .i64 x.op],[.int .i64 x.key],[.int .i64 x.val]]) Ux Z Z ⟨⟨Z,Z⟩,⟨Z,Z⟩,⟨Z,Z⟩,⟨Z,Z⟩,trivial⟩ Z Z (fun b3 w3 e3 s3 h3=>?_)))))))))))))
 replace h3 : Blk w3 b3 [.int .i64 x.epoch,.int .i64 x.op,.int .i64 x.key,.int .i64 x.val]:=h3
 have g_b3 : w.heap.size ≤ b3:=by have:=E.size;omega
 have y_b3:=h3.lt
 replace E:=E.trans e3;replace h1:=h1.ext e3;replace h2:=h2.ext e3
 have z3:=e3.size
 refine Qa (Qb Gu Z) Z (Qa (Qk Yt Z (h2.one 1 Z)) Z (Qa (Qb Gv Z) Z (Qa (Qk Yt Z (h2.one 0 Z)) Z (Qa (Qb Gt Z) Z (Qa (Qk Yt Z (h2.one 2 Z)) Z (Qa (Qb Gs Z) Z (Qa (Qk Yt Z (h2.one 3 Z)) Z (Y7 (vs:=[.int .i64 y.epoch,.int .i64 y.op,.int .i64 y.key,.int .i64 y.val]) (css:=[[.int .i64 y.epoch],[.int .i64 y.op],[.int .i64 y.key],[.int .i64 y.val]]) Ux Z Z ⟨⟨Z,Z⟩,⟨Z,Z⟩,⟨Z,Z⟩,⟨Z,Z⟩,trivial⟩ Z Z (fun b4 w4 e4 s4 h4=>?_)))))))))
 replace h4 : Blk w4 b4 [.int .i64 y.epoch,.int .i64 y.op,.int .i64 y.key,.int .i64 y.val]:=h4
 have g_b4 : w.heap.size ≤ b4:=by have:=E.size;omega
 have y_b4:=h4.lt
 replace E:=E.trans e4;replace h1:=h1.ext e4;replace h2:=h2.ext e4;replace h3:=h3.ext e4
 have z4:=e4.size
 refine Qw Tryz.call149 Z (c_orderOf (.slice (some ⟨b3,0,none⟩) 4 4) [x.epoch,x.op,x.key,x.val] (.slice (some ⟨b4,0,none⟩) 4 4) [y.epoch,y.op,y.key,y.val] _ (Blk.rd (α:=Int) (xs:=[x.epoch,x.op,x.key,x.val]) (by decide) h3 Z (by simp [maxLen])) (Blk.rd (α:=Int) (xs:=[y.epoch,y.op,y.key,y.val]) (by decide) h4 Z (by simp [maxLen]))) Z (fun _ w5 e5 hv=>?_)
 subst hv
 replace E:=E.trans e5;replace h1:=h1.ext e5;replace h2:=h2.ext e5;replace h3:=h3.ext e5;replace h4:=h4.ext e5
 have z5:=e5.size
 refine Qa (Qf Z) Z (Qc (Qv (Qm Z Z E ?_)))
 rfl

set_option maxRecDepth 20000 in
theorem s_CellOrder (x : Cell) (y : Cell) (w : World)  : Ct Tryz.prog 142 [.agg (Enc.enc x).toArray,.agg (Enc.enc y).toArray] w (fun v _=>v = .int .i64 (Hh x y)):=by
 refine Ym Tryz.func142 Z Tryz.ntmps142 Z ?_
 refine Q8 [(0,.agg (Enc.enc x).toArray),(1,.agg (Enc.enc y).toArray)] ⟨Z,Z,trivial⟩ ?_
 have E : Ext w w:=Ext.refl w
 refine Qe (Qh [false,false,true] Z Z (Y1 Z Z (fun b1 w1 e1 s1 h1=>?_)))
 have g_b1 : w.heap.size ≤ b1:=by have:=E.size;omega
 have y_b1:=h1.lt
 replace E:=E.trans e1
 have z1:=e1.size
 refine Y1 Z Z (fun b2 w2 e2 s2 h2=>?_)
 have g_b2 : w.heap.size ≤ b2:=by have:=E.size;omega
 have y_b2:=h2.lt
 replace E:=E.trans e2;replace h1:=h1.ext e2
 have z2:=e2.size
 refine Qa (Qf Z) Z (Qc (Qe (Xx Xs [(0,true),(1,true),(2,true),(3,true),(5,true),(6,true),(7,true),(8,true),(10,true),(11,true),(12,true),(13,true),(15,true),(16,true),(17,true),(18,true),(4,false),(9,false),(14,false),(19,false),(20,false),(21,true)] (by decide +kernel) Z (fun w3 e3=>?_))))
 replace E:=E.trans e3;replace h1:=h1.ext e3;replace h2:=h2.ext e3
 have z3:=e3.size
 refine Qa (Qb Gu Z) Z (Qa (Qk Yt Z (h1.one 1 Z)) Z (Qa (Qb Gu Z) Z (Qa (Qk Yt Z (h2.one 1 Z)) Z (Qa (Qb Gv Z) Z (Qa (Qk Yt Z (h1.one 0 Z)) Z (Qa (Qb Gv Z) Z (Qa (Qk Yt Z (h2.one 0 Z)) Z (Qa (Qb Gt Z) Z (Qa (Qk Yt Z (h1.one 2 Z)) Z (Qa (Qb Gt Z) Z (Qa (Qk Yt Z (h2.one 2 Z)) Z (Qa (Qb Gs Z) Z (Qa (Qk Yt Z (h1.one 3 Z)) Z (Qa (Qb Gs Z) Z (Qa (Qk Yt Z (h2.one 3 Z)) Z (Qw Tryz.call148 Z (c_l02Order x.epoch y.epoch _ ) Z (fun _ w4 e4 hv=>?_)))))))))))))))))
 subst hv
 replace E:=E.trans e4;replace h1:=h1.ext e4;replace h2:=h2.ext e4
 have z4:=e4.size
 refine Qw Tryz.call148 Z (c_l02Order x.op y.op _ ) Z (fun _ w5 e5 hv=>?_)
 subst hv
 replace E:=E.trans e5;replace h1:=h1.ext e5;replace h2:=h2.ext e5
 have z5:=e5.size
 refine Qw Tryz.call148 Z (c_l02Order x.key y.key _ ) Z (fun _ w6 e6 hv=>?_)
 subst hv
 replace E:=E.trans e6;replace h1:=h1.ext e6;replace h2:=h2.ext e6
 have z6:=e6.size
 refine Qw Tryz.call148 Z (c_l02Order x.val y.val _ ) Z (fun _ w7 e7 hv=>?_)
 subst hv
 replace E:=E.trans e7;replace h1:=h1.ext e7;replace h2:=h2.ext e7
 have z7:=e7.size
 refine Y7 (vs:=[.int .i64 (Xr x.epoch y.epoch),.int .i64 (Xr x.op y.op),.int .i64 (Xr x.key y.key),.int .i64 (Xr x.val y.val)]) (css:=[[.int .i64 (Xr x.epoch y.epoch)],[.int .i64 (Xr x.op y.op)],[.int .i64 (Xr x.key y.key)],[.int .i64 (Xr x.val y.val)]]) Ux Z Z ⟨⟨Z,Z⟩,⟨Z,Z⟩,⟨Z,Z⟩,⟨Z,Z⟩,trivial⟩ Z Z (fun b3 w8 e8 s3 h3=>?_)
 replace h3 : Blk w8 b3 [.int .i64 (Xr x.epoch y.epoch),.int .i64 (Xr x.op y.op),.int .i64 (Xr x.key y.key),.int .i64 (Xr x.val y.val)]:=h3
 have g_b3 : w.heap.size ≤ b3:=by have:=E.size;omega
 have y_b3:=h3.lt
 replace E:=E.trans e8;replace h1:=h1.ext e8;replace h2:=h2.ext e8
 have z8:=e8.size
 refine Qa (Qf Z) Z (Qc (Qe (Qe (Qh [true] Z Z (Qa (Qf Z) Z (Qc (Q0 (Yp (fun (k : Nat)=>[(4,.int .i64 0),(5,.slice (some ⟨b3,0,none⟩) 4 4),(6,.int .i64 ((k : Nat) : Int))]) (fun (k : Nat) w'=>Ext w w' ∧ w8.heap.size ≤ w'.heap.size ∧ Blk w' b1 (Enc.enc x) ∧ Blk w' b2 (Enc.enc y) ∧ Blk w' b3 [.int .i64 (Xr x.epoch y.epoch),.int .i64 (Xr x.op y.op),.int .i64 (Xr x.key y.key),.int .i64 (Xr x.val y.val)] ∧ k ≤ 4 ∧ Kk (List.drop k [Xr x.epoch y.epoch,Xr x.op y.op,Xr x.key y.key,Xr x.val y.val]) = Kk [Xr x.epoch y.epoch,Xr x.op y.op,Xr x.key y.key,Xr x.val y.val]) (fun (k : Nat)=>4 - k) 0 ⟨Z,Z,Z,trivial⟩ ⟨E,Nat.le_refl _,h1,h2,h3,Nat.zero_le _,Z⟩ ?_))))))))
 clear E h1 h2 h3
 rintro k w9 ⟨E,z9,h1,h2,h3,hk,hI⟩
 refine Qe (Qe (Qh [true,true] Z Z (Qa (Qd Z) Z (Qa (Yi Z Z) Z (Qc (Qt Z (fun hc1=>?_) (fun hc1=>?_)))))))
 ·have hc1n : k < 4:=by first | (have h:=of_decide_eq_true hc1;omega) | (have h:=hc1;simp at h;omega)
  refine Qo (Qe (Q0 (Qe (Qh [true,true,true,true,true] Z Z (Qa (Qd Z) Z (Qa (Qd Z) Z ?_))))))
  have hi1 : k < [Xr x.epoch y.epoch,Xr x.op y.op,Xr x.key y.key,Xr x.val y.val].length:=(by first | assumption | omega | (simp only [List.length_set];first | assumption | omega) | (simp only [List.getElem_set_self,List.length_set];first | assumption | omega) | (simp only [Yn,Yh,List.length_set];first | assumption | omega))
  refine Qa (Qz (i:=k) Ux Z Z (Blk.rd (α:=Int) (xs:=[Xr x.epoch y.epoch,Xr x.op y.op,Xr x.key y.key,Xr x.val y.val]) (by decide) h3 Z (by simp [maxLen])) hi1) Z (Qa (Qk Yt Z (((Blk.rd (α:=Int) (xs:=[Xr x.epoch y.epoch,Xr x.op y.op,Xr x.key y.key,Xr x.val y.val]) (by decide) h3 Z (by simp [maxLen])).get hi1).one 0 Z)) Z (Qa (Yu Z Z) Z (Qc (Qt Z (fun hc2=>?_) (fun hc2=>?_)))))
  ·refine Qe (Qh [true,true,true,true,true] Z Z (Qa (Qd Z) Z (Qa (Qd Z) Z (Qa (Qz (i:=k) Ux Z Z (Blk.rd (α:=Int) (xs:=[Xr x.epoch y.epoch,Xr x.op y.op,Xr x.key y.key,Xr x.val y.val]) (by decide) h3 Z (by simp [maxLen])) hi1) Z (Qa (Qk Yt Z (((Blk.rd (α:=Int) (xs:=[Xr x.epoch y.epoch,Xr x.op y.op,Xr x.key y.key,Xr x.val y.val]) (by decide) h3 Z (by simp [maxLen])).get hi1).one 0 Z)) Z (Qa (Qf Z) Z (Qc (Qv (Q2 (Yv (Q2 (Qm Z Z E ?_))))))))))))
   exact cellOrd_a (firstNZ_yes hI (by simpa using hc1n) (by simpa using hc2))
  ·refine Qo (Q6 (Y0 (Qh [true,true,true] Z Z (Qa (Qd Z) Z (Qa (Ye Z Z (Y3 hc1n (by first | assumption | (unfold maxLen;omega)))) Z (Qa (Qf Z) Z (Qc (Q6 (Yk (k + 1) (by omega) ⟨Z,Z,Z,trivial⟩ ⟨E,(by omega),h1,h2,h3,(by omega),firstNZ_step hI (by simpa using hc1n) (by simpa using hc2)⟩)))))))))
 ·have hc1n : ¬ k < 4:=by first | (have h:=of_decide_eq_false hc1;omega) | (have h:=hc1;simp at h;omega)
  refine Yq (Q5 (Q3 ?_))
  refine Qe (Qh [true] Z Z (Qa (Qf Z) Z (Qc (Qv (Qm Z Z E ?_)))))
  exact cellOrd_b (firstNZ_no hI (by simp;omega))

set_option maxRecDepth 20000 in
theorem c_toCellS (vxs : Value) (xs : List Cell) (w : World) (hxs : RdS w vxs xs) (hb : xs.length ≤ 1048576) : Ct Tryz.prog 109 [vxs] w (fun v w'=>Own w' w.heap.size w'.heap.size 4 v (List.flatMap (Enc.enc (α:=Cell)) xs)):=by
 refine Ym Tryz.func109 Z Tryz.ntmps109 Z ?_
 refine Q8 [(0,vxs)] ⟨Z,trivial⟩ ?_
 have E : Ext w w:=Ext.refl w
 refine Qe (Qh [true] Z Z (Qa (Qf Z) Z (Qc (Qe (Qh [true,true,false,true] Z Z (Qa (Qd Z) Z (Qa (Yc Tryz.underlying104 Z (hxs.ext E).len) Z (Hp (m:=xs.length) H2 Z Z (by omega) (by decide) Z (fun b1 w1 e1 s1 h1=>?_)))))))))
 have g_b1 : w.heap.size ≤ b1:=by have:=E.size;omega
 have y_b1:=h1.lt
 replace E:=E.trans e1
 have z1:=e1.size
 refine Qa (Qf Z) Z (Qc (Qe (Qe (Qh [true] Z Z (Qa (Qf Z) Z (Qc (Q0 (Yp (fun (k : Nat)=>[(0,vxs),(2,.slice none 0 0),(3,.slice (some ⟨b1,0,none⟩) xs.length xs.length),(4,.int .i64 ((k : Nat) : Int))]) (fun (k : Nat) w'=>Ext w w' ∧ w1.heap.size ≤ w'.heap.size ∧ k ≤ xs.length ∧ Blk w' b1 (mk xs [.int .i64 0,.int .i64 0,.int .i64 0,.int .i64 0] k xs.length)) (fun (k : Nat)=>xs.length - k) 0 ⟨Z,Z,Z,Z,trivial⟩ ⟨E,Nat.le_refl _,Nat.zero_le _,(H4 xs [.int .i64 0,.int .i64 0,.int .i64 0,.int .i64 0] xs.length) ▸ h1⟩ ?_))))))))
 clear E h1
 rintro k w2 ⟨E,z2,hk,h1⟩
 refine Qe (Qe (Qh [true,true,true,true] Z Z (Qa (Qd Z) Z (Qa (Qd Z) Z (Qa (Yc Tryz.underlying104 Z (hxs.ext E).len) Z (Qa (Yi Z Z) Z (Qc (Qt Z (fun hc1=>?_) (fun hc1=>?_)))))))))
 ·have hc1n : k < xs.length:=by first | (have h:=of_decide_eq_true hc1;omega) | (have h:=hc1;simp at h;omega)
  refine Qo (Qe (Q0 (Qh [true,true,true,true,true,true,false,true,false] Z Z (Qa (Qd Z) Z (Qa (Qd Z) Z (Qa (Qd Z) Z (Qa (Qd Z) Z ?_)))))))
  have hi1 : k < xs.length:=(by first | assumption | omega | (simp only [List.length_set];first | assumption | omega) | (simp only [List.getElem_set_self,List.length_set];first | assumption | omega) | (simp only [Yn,Yh,List.length_set];first | assumption | omega))
  refine Qa (Qz (i:=k) sl104 Z Z (hxs.ext E) hi1) Z (Qa (Qy st180 Z ((hxs.ext E).get hi1) Z) Z (Qw Tryz.call132 Z (c_toCell (xs[k]'hi1) _ ) Z (fun _ w3 e2 hv=>?_)))
  subst hv
  replace E:=E.trans e2;replace h1:=h1.ext e2
  have z3:=e2.size
  refine Qa (Vj H2 Z Z (by first | assumption | omega | (simp only [List.length_set];first | assumption | omega) | (simp only [List.getElem_set_self,List.length_set];first | assumption | omega) | (simp only [Yn,Yh,List.length_set];first | assumption | omega))) Z (Q4 (cs':=mk xs [.int .i64 0,.int .i64 0,.int .i64 0,.int .i64 0] (k + 1) xs.length) Tq Z Z Z Z h1 (H6 xs [.int .i64 0,.int .i64 0,.int .i64 0,.int .i64 0] Z hc1n hc1n (by rfl)) (H5 xs [.int .i64 0,.int .i64 0,.int .i64 0,.int .i64 0] Z hc1n hc1n) (fun w4 m1 h1'=>?_))
  replace h1:=h1'
  replace E:=E.step m1 (fun g hg=>by cases hg;omega)
  have z4:=m1.size
  refine Qc (Q6 (Y0 (Qh [true,true,true] Z Z (Qa (Qd Z) Z (Qa (Ye Z Z (Y3 hc1n hxs.1)) Z (Qa (Qf Z) Z (Qc (Q6 (Yk (k + 1) (by omega) ⟨Z,Z,Z,Z,trivial⟩ ⟨E,(by omega),(by omega),h1⟩)))))))))
 ·have hc1n : ¬ k < xs.length:=by first | (have h:=of_decide_eq_false hc1;omega) | (have h:=hc1;simp at h;omega)
  refine Yq (Q5 (Q3 ?_))
  refine Qe (Qh [true,true] Z Z (Qa (Qd Z) Z (Qa (Qf Z) Z (Qc (Qv (Qm Z Z E ?_))))))
  obtain rfl : k = xs.length:=by omega
  rw [C1] at h1
  exact Own.ofBlk h1 (by omega) (by have:=h1.lt;omega) (Yz xs) hxs.1

set_option maxRecDepth 20000 in
theorem s_CellsOk (vxs : Value) (xs : List Cell) (w : World) (hxs : RdS w vxs xs) : Ct Tryz.prog 130 [vxs] w (fun v _=>v = .bool ((Tv xs).all Kg)):=by
 refine Ym Tryz.func130 Z Tryz.ntmps130 Z ?_
 refine Q8 [(0,vxs)] ⟨Z,trivial⟩ ?_
 have E : Ext w w:=Ext.refl w
 refine Qe (Qh [true] Z Z (Qa (Qf Z) Z (Qc (Qe (Qe (Qh [true] Z Z (Qa (Qf Z) Z (Qc (Q0 (Yp (fun (j : Nat)=>[(0,vxs),(2,.bool false),(3,.int .i64 ((j + 1 : Nat) : Int))]) (fun (j : Nat) w'=>Ext w w' ∧ w.heap.size ≤ w'.heap.size ∧ ((Tv xs).take j).all Kg = true) (fun (j : Nat)=>xs.length - j) 0 ⟨Z,Z,Z,trivial⟩ ⟨E,Nat.le_refl _,Z⟩ ?_))))))))))
 clear E
 rintro j w1 ⟨E,z1,hI⟩
 have hlm:=hxs.1
 unfold maxLen at hlm
 refine Qe (Qe (Qh [true,true,true,true] Z Z (Qa (Qd Z) Z (Qa (Qd Z) Z (Qa (Yc Tryz.underlying75 Z (hxs.ext E).len) Z (Qa (Yi Z Z) Z (Qc (Qt Z (fun hc1=>?_) (fun hc1=>?_)))))))))
 ·have hc1n : j + 1 < xs.length:=by first | (have h:=of_decide_eq_true hc1;omega) | (have h:=hc1;simp at h;omega)
  refine Qo (Qe (Q0 (Qe (Xx Xs [(0,true),(1,true),(2,true),(3,true),(4,true),(5,true),(6,true),(7,true),(8,true),(9,false),(10,true)] (by decide +kernel) Z (fun w2 e1=>?_)))))
  replace E:=E.trans e1
  have z2:=e1.size
  refine Qa (Qd Z) Z (Qa (Qd Z) Z (Qa (K6 Z Z (sub_one (m:=j) (by unfold maxLen;omega))) Z ?_))
  have hi1 : j < xs.length:=(by first | assumption | omega | (simp only [List.length_set];first | assumption | omega) | (simp only [List.getElem_set_self,List.length_set];first | assumption | omega) | (simp only [Yn,Yh,List.length_set];first | assumption | omega))
  refine Qa (Qz (i:=j) H2 Z Z (hxs.ext E) hi1) Z (Qa (Qy Tq Z ((hxs.ext E).get hi1) Z) Z (Qa (Qd Z) Z (Qa (Qd Z) Z ?_)))
  have hi2 : j + 1 < xs.length:=(by first | assumption | omega | (simp only [List.length_set];first | assumption | omega) | (simp only [List.getElem_set_self,List.length_set];first | assumption | omega) | (simp only [Yn,Yh,List.length_set];first | assumption | omega))
  refine Qa (Qz (i:=j + 1) H2 Z Z (hxs.ext E) hi2) Z (Qa (Qy Tq Z ((hxs.ext E).get hi2) Z) Z (Qw Tryz.call142 Z (s_CellOrder (xs[j]'hi1) (xs[j + 1]'hi2) _ ) Z (fun _ w3 e2 hv=>?_)))
  subst hv
  replace E:=E.trans e2
  have z3:=e2.size
  refine Qa (Tt Z Z) Z (Qc (Qt Z (fun hc2=>?_) (fun hc2=>?_)))
  ·refine Qe (Qh [true] Z Z (Qa (Qf Z) Z (Qc (Qv (Q2 (Yv (Q2 (Qm Z Z E ?_))))))))
   exact adj_no hc1n (by simpa [Kg] using hc2)
  ·refine Qo (Q6 (Y0 (Qh [true,true,true] Z Z (Qa (Qd Z) Z (Qa (Ye Z Z (Y3 hc1n hxs.1)) Z (Qa (Qf Z) Z (Qc (Q6 (Yk (j + 1) (by omega) ⟨Z,Z,Z,trivial⟩ ⟨E,(by omega),adj_step hI (by assumption) (by simpa [Kg] using hc2)⟩)))))))))
 ·have hc1n : ¬ j + 1 < xs.length:=by first | (have h:=of_decide_eq_false hc1;omega) | (have h:=hc1;simp at h;omega)
  refine Yq (Q5 (Q3 ?_))
  refine Qe (Qh [true] Z Z (Qa (Qf Z) Z (Qc (Qv (Qm Z Z E ?_)))))
  exact adj_yes hI (by omega)

set_option maxRecDepth 20000 in
theorem c_CellsOk (vxs : Value) (xs : List Cell) (w : World) (hxs : RdS w vxs xs) : Ct Tryz.prog 135 [vxs] w (fun v _=>v = .bool ((Tv xs).all Kg)):=by
 refine Ym Tryz.func135 Z Tryz.ntmps135 Z ?_
 refine Q8 [(0,vxs)] ⟨Z,trivial⟩ ?_
 have E : Ext w w:=Ext.refl w
 refine Qe (Qh [true] Z Z (Qa (Qf Z) Z (Qc (Qe (Qe (Qh [true] Z Z (Qa (Qf Z) Z (Qc (Q0 (Yp (fun (j : Nat)=>[(0,vxs),(2,.bool false),(3,.int .i64 ((j + 1 : Nat) : Int))]) (fun (j : Nat) w'=>Ext w w' ∧ w.heap.size ≤ w'.heap.size ∧ ((Tv xs).take j).all Kg = true) (fun (j : Nat)=>xs.length - j) 0 ⟨Z,Z,Z,trivial⟩ ⟨E,Nat.le_refl _,Z⟩ ?_))))))))))
 clear E
 rintro j w1 ⟨E,z1,hI⟩
 have hlm:=hxs.1
 unfold maxLen at hlm
 refine Qe (Qe (Qh [true,true,true,true] Z Z (Qa (Qd Z) Z (Qa (Qd Z) Z (Qa (Yc Tryz.underlying75 Z (hxs.ext E).len) Z (Qa (Yi Z Z) Z (Qc (Qt Z (fun hc1=>?_) (fun hc1=>?_)))))))))
 ·have hc1n : j + 1 < xs.length:=by first | (have h:=of_decide_eq_true hc1;omega) | (have h:=hc1;simp at h;omega)
  refine Qo (Qe (Q0 (Qe (Xx Xs [(0,true),(1,true),(2,true),(3,true),(4,true),(5,true),(6,true),(7,true),(8,true),(9,false),(10,true)] (by decide +kernel) Z (fun w2 e1=>?_)))))
  replace E:=E.trans e1
  have z2:=e1.size
  refine Qa (Qd Z) Z (Qa (Qd Z) Z (Qa (K6 Z Z (sub_one (m:=j) (by unfold maxLen;omega))) Z ?_))
  have hi1 : j < xs.length:=(by first | assumption | omega | (simp only [List.length_set];first | assumption | omega) | (simp only [List.getElem_set_self,List.length_set];first | assumption | omega) | (simp only [Yn,Yh,List.length_set];first | assumption | omega))
  refine Qa (Qz (i:=j) H2 Z Z (hxs.ext E) hi1) Z (Qa (Qy Tq Z ((hxs.ext E).get hi1) Z) Z (Qa (Qd Z) Z (Qa (Qd Z) Z ?_)))
  have hi2 : j + 1 < xs.length:=(by first | assumption | omega | (simp only [List.length_set];first | assumption | omega) | (simp only [List.getElem_set_self,List.length_set];first | assumption | omega) | (simp only [Yn,Yh,List.length_set];first | assumption | omega))
  refine Qa (Qz (i:=j + 1) H2 Z Z (hxs.ext E) hi2) Z (Qa (Qy Tq Z ((hxs.ext E).get hi2) Z) Z (Qw Tryz.call144 Z (c_CellOrder (xs[j]'hi1) (xs[j + 1]'hi2) _ ) Z (fun _ w3 e2 hv=>?_)))
  subst hv
  replace E:=E.trans e2
  have z3:=e2.size
  refine Qa (Tt Z Z) Z (Qc (Qt Z (fun hc2=>?_) (fun hc2=>?_)))
  ·refine Qe (Qh [true] Z Z (Qa (Qf Z) Z (Qc (Qv (Q2 (Yv (Q2 (Qm Z Z E ?_))))))))
   exact adj_no hc1n (by simpa [Kg] using hc2)
  ·refine Qo (Q6 (Y0 (Qh [true,true,true] Z Z (Qa (Qd Z) Z (Qa (Ye Z Z (Y3 hc1n hxs.1)) Z (Qa (Qf Z) Z (Qc (Q6 (Yk (j + 1) (by omega) ⟨Z,Z,Z,trivial⟩ ⟨E,(by omega),adj_step hI (by assumption) (by simpa [Kg] using hc2)⟩)))))))))
 ·have hc1n : ¬ j + 1 < xs.length:=by first | (have h:=of_decide_eq_false hc1;omega) | (have h:=hc1;simp at h;omega)
  refine Yq (Q5 (Q3 ?_))
  refine Qe (Qh [true] Z Z (Qa (Qf Z) Z (Qc (Qv (Qm Z Z E ?_)))))
  exact adj_yes hI (by omega)

set_option maxRecDepth 20000 in
theorem markCellS (vxs : Value) (lo hi : Nat) (xs : List Cell) (k : Nat) (w : World) (hxs : Own w lo hi 4 vxs (List.flatMap (Enc.enc (α:=Cell)) xs)) (hb : k + xs.length * 4 ≤ 1099511627776) : CtR Tryz.prog 79 [vxs,.int .i64 ((k : Nat) : Int)] w lo hi (fun v w'=>v = .int .i64 ((k + 4 * xs.length : Nat) : Int) ∧ Own w' lo hi 4 vxs (List.flatMap (Enc.enc (α:=Cell)) (Vv 4 H7 k xs.length))):=by
 refine V0 Tryz.func79 Z Tryz.ntmps79 Z ?_
 refine Q8 [(0,vxs),(1,.int .i64 ((k : Nat) : Int))] ⟨Z,Z,trivial⟩ ?_
 have E : ModR w w lo hi:=ModR.refl w lo hi
 refine Qe (Qh [true] Z Z (Qa (Qf Z) Z (Qc (Qe (Qe (Qh [true] Z Z (Qa (Qf Z) Z (Qc (Q0 (Yp (fun (xq : Nat × Nat × List Cell)=>let ⟨i,q,bs⟩:=xq;[(0,vxs),(1,.int .i64 ((q : Nat) : Int)),(4,.int .i64 0),(5,.int .i64 ((i : Nat) : Int))]) (fun (xq : Nat × Nat × List Cell) w'=>let ⟨i,q,bs⟩:=xq;ModR w w' lo hi ∧ w.heap.size ≤ w'.heap.size ∧ i + bs.length = xs.length ∧ q = k + 4 * i ∧ Own w' lo hi 4 vxs (List.flatMap (Enc.enc (α:=Cell)) (Vv 4 H7 k i ++ bs))) (fun (xq : Nat × Nat × List Cell)=>let ⟨i,q,bs⟩:=xq;xs.length - i) (0,k,xs) ⟨Z,Z,Z,Z,trivial⟩ ⟨E,Nat.le_refl _,(by simp),(by simp),(by simpa [Vv] using hxs)⟩ ?_))))))))))
 clear E hxs
 rintro ⟨i,q,bs⟩ w1 ⟨E,z1,hi,hq,hxs⟩
 refine Q8 [(0,vxs),(1,.int .i64 ((q : Nat) : Int)),(4,.int .i64 0),(5,.int .i64 ((i : Nat) : Int))] ⟨Z,Z,Z,Z,trivial⟩ ?_
 refine Qe (Qe (Qh [true,true,true,true] Z Z (Qa (Qd Z) Z (Qa (Qd Z) Z (Qa (Yc Tryz.underlying75 Z (Own.lenE (by decide) hxs (by simp only [List.length_append,Qi,List.length_cons];omega))) Z (Qa (Yi Z Z) Z (Qc (Qt Z (fun hc1=>?_) (fun hc1=>?_)))))))))
 ·rcases bs with _ | ⟨x,bs⟩
  ·exact absurd hi (by have h:=hc1;simp at h ⊢;omega)
  simp only [List.length_cons] at hi
  have hc1n : i < xs.length:=by first | (have h:=of_decide_eq_true hc1;omega) | (have h:=hc1;simp at h;omega)
  refine Qo (Qe (Q0 (Qe (Qh [true,true,true,true,true,false] Z Z (Qa (Qd Z) Z (Qa (Qd Z) Z (Qa (Qd Z) Z (Qa (Qz H2 Z Z (Own.rd (by decide) hxs) (by simp only [List.length_append,Qi,List.length_cons];omega)) Z (Qa (Qs Gv Z) Z (Xc (α:=Cell) (i:=i) (f:=0) (⟨((q : Nat) : Int),x.epoch,x.key,x.val⟩ : Cell) Yt Z Z Z Z hxs (Qi _ _ _ _) (by decide) Z (fun w2 m1 hxs'=>?_)))))))))))
  have hq:=hxs.blk
  replace hxs:=hxs'
  replace E:=E.mod m1 (fun g hg=>by have:=hq g hg;omega)
  have z2:=m1.size
  clear hq
  refine Qc (Qe (Qh [true,true,true] Z Z (Qa (Qd Z) Z (Qa (Ye Z Z (Yg (by unfold maxLen;omega))) Z (Qa (Qf Z) Z (Qc (Qe (Qh [true,true,true,true,true,false] Z Z (Qa (Qd Z) Z (Qa (Qd Z) Z (Qa (Qd Z) Z (Qa (Qz H2 Z Z (Own.rd (by decide) hxs) (by simp only [List.length_append,Qi,List.length_cons];omega)) Z (Qa (Qs Gu Z) Z (Xc (α:=Cell) (i:=i) (f:=1) (⟨((q : Nat) : Int),((q + 1 : Nat) : Int),x.key,x.val⟩ : Cell) Yt Z Z Z Z hxs (Qi _ _ _ _) (by decide) Z (fun w3 m2 hxs'=>?_)))))))))))))))
  have hq:=hxs.blk
  replace hxs:=hxs'
  replace E:=E.mod m2 (fun g hg=>by have:=hq g hg;omega)
  have z3:=m2.size
  clear hq
  refine Qc (Qe (Qh [true,true,true] Z Z (Qa (Qd Z) Z (Qa (Ye Z Z (Yg (by unfold maxLen;omega))) Z (Qa (Qf Z) Z (Qc (Qe (Qh [true,true,true,true,true,false] Z Z (Qa (Qd Z) Z (Qa (Qd Z) Z (Qa (Qd Z) Z (Qa (Qz H2 Z Z (Own.rd (by decide) hxs) (by simp only [List.length_append,Qi,List.length_cons];omega)) Z (Qa (Qs Gt Z) Z (Xc (α:=Cell) (i:=i) (f:=2) (⟨((q : Nat) : Int),((q + 1 : Nat) : Int),((q + 1 + 1 : Nat) : Int),x.val⟩ : Cell) Yt Z Z Z Z hxs (Qi _ _ _ _) (by decide) Z (fun w4 m3 hxs'=>?_)))))))))))))))
  have hq:=hxs.blk
  replace hxs:=hxs'
  replace E:=E.mod m3 (fun g hg=>by have:=hq g hg;omega)
  have z4:=m3.size
  clear hq
  refine Qc (Qe (Qh [true,true,true] Z Z (Qa (Qd Z) Z (Qa (Ye Z Z (Yg (by unfold maxLen;omega))) Z (Qa (Qf Z) Z (Qc (Qe (Qh [true,true,true,true,true,false] Z Z (Qa (Qd Z) Z (Qa (Qd Z) Z (Qa (Qd Z) Z (Qa (Qz H2 Z Z (Own.rd (by decide) hxs) (by simp only [List.length_append,Qi,List.length_cons];omega)) Z (Qa (Qs Gs Z) Z (Xc (α:=Cell) (i:=i) (f:=3) (⟨((q : Nat) : Int),((q + 1 : Nat) : Int),((q + 1 + 1 : Nat) : Int),((q + 1 + 1 + 1 : Nat) : Int)⟩ : Cell) Yt Z Z Z Z hxs (Qi _ _ _ _) (by decide) Z (fun w5 m4 hxs'=>?_)))))))))))))))
  have hq:=hxs.blk
  replace hxs:=hxs'
  replace E:=E.mod m4 (fun g hg=>by have:=hq g hg;omega)
  have z5:=m4.size
  clear hq
  refine Qc (Qh [true,true,true] Z Z (Qa (Qd Z) Z (Qa (Ye Z Z (Yg (by unfold maxLen;omega))) Z (Qa (Qf Z) Z (Qc (Q6 (Y0 (Qh [true,true,true] Z Z (Qa (Qd Z) Z (Qa (Ye Z Z (Yg (by unfold maxLen;omega))) Z (Qa (Qf Z) Z (Qc (Q6 (Yk (i + 1,q + 1 + 1 + 1 + 1,bs) (by simp;omega) ⟨rfl,rfl,rfl,rfl,trivial⟩ ⟨E,(by omega),(by omega),(by omega),(by subst hq;rw [← G3];exact hxs)⟩))))))))))))))
 ·have hc1n : ¬ i < xs.length:=by first | (have h:=of_decide_eq_false hc1;omega) | (have h:=hc1;simp at h;omega)
  refine Yq (Q5 (Q3 ?_))
  refine Qe (Qh [true,true] Z Z (Qa (Qd Z) Z (Qa (Qf Z) Z (Qc (Qv (Qm Z Z E ?_))))))
  exact ⟨by subst hq;rw [show i = xs.length from by omega],by obtain rfl : bs = []:=List.eq_nil_of_length_eq_zero (by omega);rw [show xs.length = i from by simp at hi;omega];simpa using hxs⟩

set_option maxRecDepth 20000 in
theorem heldCellS (vxs : Value) (xs : List Cell) (k : Nat) (w : World) (hxs : RdS w vxs xs) (hm : xs = Vv 4 H7 k xs.length) (hb : k + xs.length * 4 ≤ 1099511627776) : Ct Tryz.prog 85 [vxs,.int .i64 ((k : Nat) : Int)] w (fun v _=>v = .int .i64 ((k + 4 * xs.length : Nat) : Int)):=by
 refine Ym Tryz.func85 Z Tryz.ntmps85 Z ?_
 refine Q8 [(0,vxs),(1,.int .i64 ((k : Nat) : Int))] ⟨Z,Z,trivial⟩ ?_
 have E : Ext w w:=Ext.refl w
 refine Qe (Qh [true] Z Z (Qa (Qf Z) Z (Qc (Qe (Qe (Qh [true] Z Z (Qa (Qf Z) Z (Qc (Q0 (Yp (fun (xq : Nat × Nat)=>let ⟨i,q⟩:=xq;[(0,vxs),(1,.int .i64 ((q : Nat) : Int)),(4,.int .i64 0),(5,.int .i64 ((i : Nat) : Int))]) (fun (xq : Nat × Nat) w'=>let ⟨i,q⟩:=xq;Ext w w' ∧ w.heap.size ≤ w'.heap.size ∧ i ≤ xs.length ∧ q = k + 4 * i) (fun (xq : Nat × Nat)=>let ⟨i,q⟩:=xq;xs.length - i) (0,k) ⟨Z,Z,Z,Z,trivial⟩ ⟨E,Nat.le_refl _,Nat.zero_le _,(by simp)⟩ ?_))))))))))
 clear E
 rintro ⟨i,q⟩ w1 ⟨E,z1,hi,hq⟩
 refine Q8 [(0,vxs),(1,.int .i64 ((q : Nat) : Int)),(4,.int .i64 0),(5,.int .i64 ((i : Nat) : Int))] ⟨Z,Z,Z,Z,trivial⟩ ?_
 refine Qe (Qe (Qh [true,true,true,true] Z Z (Qa (Qd Z) Z (Qa (Qd Z) Z (Qa (Yc Tryz.underlying75 Z (hxs.ext E).len) Z (Qa (Yi Z Z) Z (Qc (Qt Z (fun hc1=>?_) (fun hc1=>?_)))))))))
 ·have hc1n : i < xs.length:=by first | (have h:=of_decide_eq_true hc1;omega) | (have h:=hc1;simp at h;omega)
  refine Qo (Qe (Q0 (Qe (Qe (Qh [true,true,true,true,true,true,true] Z Z (Qa (Qd Z) Z (Qa (Qd Z) Z ?_)))))))
  have hi1 : i < xs.length:=(by first | assumption | omega | (simp only [List.length_set];first | assumption | omega) | (simp only [List.getElem_set_self,List.length_set];first | assumption | omega) | (simp only [Yn,Yh,List.length_set];first | assumption | omega))
  refine Qa (Qz (i:=i) H2 Z Z (hxs.ext E) hi1) Z (Qa (Qs Gv Z) Z (Qa (Qk Yt Z (((hxs.ext E).get hi1).one 0 Z)) Z (Qa (Qd Z) Z (Qa (Yu Z Z) Z (Qc (Ys rfl (by subst hq;rw [Uc hm (by omega)];simp [H7]) (Qo (Qe (Qh [true,true,true] Z Z (Qa (Qd Z) Z (Qa (Ye Z Z (Yg (by unfold maxLen;omega))) Z (Qa (Qf Z) Z (Qc (Qe (Qe (Qh [true,true,true,true,true,true,true] Z Z (Qa (Qd Z) Z (Qa (Qd Z) Z (Qa (Qz (i:=i) H2 Z Z (hxs.ext E) hi1) Z (Qa (Qs Gu Z) Z (Qa (Qk Yt Z (((hxs.ext E).get hi1).one 1 Z)) Z (Qa (Qd Z) Z (Qa (Yu Z Z) Z (Qc (Ys rfl (by subst hq;rw [Uc hm (by omega)];simp [H7]) (Qo (Qe (Qh [true,true,true] Z Z (Qa (Qd Z) Z (Qa (Ye Z Z (Yg (by unfold maxLen;omega))) Z (Qa (Qf Z) Z (Qc (Qe (Qe (Qh [true,true,true,true,true,true,true] Z Z (Qa (Qd Z) Z (Qa (Qd Z) Z (Qa (Qz (i:=i) H2 Z Z (hxs.ext E) hi1) Z (Qa (Qs Gt Z) Z (Qa (Qk Yt Z (((hxs.ext E).get hi1).one 2 Z)) Z (Qa (Qd Z) Z (Qa (Yu Z Z) Z (Qc (Ys rfl (by subst hq;rw [Uc hm (by omega)];simp [H7]) (Qo (Qe (Qh [true,true,true] Z Z (Qa (Qd Z) Z (Qa (Ye Z Z (Yg (by unfold maxLen;omega))) Z (Qa (Qf Z) Z (Qc (Qe (Qe (Qh [true,true,true,true,true,true,true] Z Z (Qa (Qd Z) Z (Qa (Qd Z) Z (Qa (Qz (i:=i) H2 Z Z (hxs.ext E) hi1) Z (Qa (Qs Gs Z) Z (Qa (Qk Yt Z (((hxs.ext E).get hi1).one 3 Z)) Z (Qa (Qd Z) Z (Qa (Yu Z Z) Z (Qc (Ys rfl (by subst hq;rw [Uc hm (by omega)];simp [H7]) (Qo (Qh [true,true,true] Z Z (Qa (Qd Z) Z (Qa (Ye Z Z (Yg (by unfold maxLen;omega))) Z (Qa (Qf Z) Z (Qc (Q6 (Y0 (Qh [true,true,true] Z Z (Qa (Qd Z) Z (Qa (Ye Z Z (Yg (by unfold maxLen;omega))) Z (Qa (Qf Z) Z (Qc (Q6 (Yk (i + 1,q + 1 + 1 + 1 + 1) (by simp;omega) ⟨Z,Z,Z,Z,trivial⟩ ⟨E,(by omega),(by omega),(by omega)⟩))))))))))))))))))))))))))))))))))))))))))))))))))))))))))))))))))))))))))))))
 ·have hc1n : ¬ i < xs.length:=by first | (have h:=of_decide_eq_false hc1;omega) | (have h:=hc1;simp at h;omega)
  refine Yq (Q5 (Q3 ?_))
  refine Qe (Qh [true,true] Z Z (Qa (Qd Z) Z (Qa (Qf Z) Z (Qc (Qv (Qm Z Z E ?_))))))
  subst hq;rw [show i = xs.length from by omega]

set_option maxRecDepth 20000 in
theorem c_szIntS (vxs : Value) (xs : List Int) (n : Int) (w : World) (hxs : RdS w vxs xs) (h0 : 0 ≤ n ∧ n ≤ 1048576) : Ct Tryz.prog 96 [vxs,.int .i64 n] w (fun v _=>v = .int .i64 (Uk xs.length n)):=by
 refine Ym Tryz.func96 Z Tryz.ntmps96 Z ?_
 refine Q8 [(0,vxs),(1,.int .i64 n)] ⟨Z,Z,trivial⟩ ?_
 have E : Ext w w:=Ext.refl w
 refine Qe (Qh [true] Z Z (Qa (Qf Z) Z (Qc (Qe (Qh [true,true,true,true,true] Z Z (Qa (Qd Z) Z (Qa (Qd Z) Z (Qa (Yc Tryz.underlying76 Z (hxs.ext E).len) Z (Qa (K6 Z Z Z) Z (Qa (Qf Z) Z (Qc (Qe (Qe (Qh [true,true] Z Z (Qa (Qd Z) Z (Qa (Yi Z Z) Z (Qc (Qt Z (fun hc1=>?_) (fun hc1=>?_)))))))))))))))))))
 ·refine Qe (Qh [true] Z Z (Qa (Qf Z) Z (Qc (Qv (Qm Z Z E ?_)))))
  exact Bj h0.2 h0.1 hxs.1 hc1
 ·refine Qo (Qe (Qh [true,true] Z Z (Qa (Qd Z) Z (Qa (Qf Z) Z (Qc (Qv (Qm Z Z E ?_)))))))
  exact Cv h0.2 h0.1 hxs.1 hc1

set_option maxRecDepth 20000 in
theorem c_toIntS (vxs : Value) (xs : List Int) (w : World) (hxs : RdS w vxs xs) (hb : xs.length ≤ 1048576) : Ct Tryz.prog 110 [vxs] w (fun v w'=>Own w' w.heap.size w'.heap.size 1 v (List.flatMap (Enc.enc (α:=Int)) xs)):=by
 refine Ym Tryz.func110 Z Tryz.ntmps110 Z ?_
 refine Q8 [(0,vxs)] ⟨Z,trivial⟩ ?_
 have E : Ext w w:=Ext.refl w
 refine Qe (Qh [true] Z Z (Qa (Qf Z) Z (Qc (Qe (Qh [true,true,false,true] Z Z (Qa (Qd Z) Z (Qa (Yc Tryz.underlying76 Z (hxs.ext E).len) Z (Hp (m:=xs.length) Ux Z Z (by omega) (by decide) Z (fun b1 w1 e1 s1 h1=>?_)))))))))
 have g_b1 : w.heap.size ≤ b1:=by have:=E.size;omega
 have y_b1:=h1.lt
 replace E:=E.trans e1
 have z1:=e1.size
 refine Qa (Qf Z) Z (Qc (Qe (Qe (Qh [true] Z Z (Qa (Qf Z) Z (Qc (Q0 (Yp (fun (k : Nat)=>[(0,vxs),(2,.slice none 0 0),(3,.slice (some ⟨b1,0,none⟩) xs.length xs.length),(4,.int .i64 ((k : Nat) : Int))]) (fun (k : Nat) w'=>Ext w w' ∧ w1.heap.size ≤ w'.heap.size ∧ k ≤ xs.length ∧ Blk w' b1 (mk xs [.int .i64 0] k xs.length)) (fun (k : Nat)=>xs.length - k) 0 ⟨Z,Z,Z,Z,trivial⟩ ⟨E,Nat.le_refl _,Nat.zero_le _,(H4 xs [.int .i64 0] xs.length) ▸ h1⟩ ?_))))))))
 clear E h1
 rintro k w2 ⟨E,z2,hk,h1⟩
 refine Qe (Qe (Qh [true,true,true,true] Z Z (Qa (Qd Z) Z (Qa (Qd Z) Z (Qa (Yc Tryz.underlying76 Z (hxs.ext E).len) Z (Qa (Yi Z Z) Z (Qc (Qt Z (fun hc1=>?_) (fun hc1=>?_)))))))))
 ·have hc1n : k < xs.length:=by first | (have h:=of_decide_eq_true hc1;omega) | (have h:=hc1;simp at h;omega)
  refine Qo (Qe (Q0 (Qh [true,true,true,true,true,true,true,false] Z Z (Qa (Qd Z) Z (Qa (Qd Z) Z (Qa (Qd Z) Z (Qa (Qd Z) Z ?_)))))))
  have hi1 : k < xs.length:=(by first | assumption | omega | (simp only [List.length_set];first | assumption | omega) | (simp only [List.getElem_set_self,List.length_set];first | assumption | omega) | (simp only [Yn,Yh,List.length_set];first | assumption | omega))
  refine Qa (Qz (i:=k) Ux Z Z (hxs.ext E) hi1) Z (Qa (Qk Yt Z (((hxs.ext E).get hi1).one 0 Z)) Z (Qa (Vj Ux Z Z (by first | assumption | omega | (simp only [List.length_set];first | assumption | omega) | (simp only [List.getElem_set_self,List.length_set];first | assumption | omega) | (simp only [Yn,Yh,List.length_set];first | assumption | omega))) Z (Yj (cs':=mk xs [.int .i64 0] (k + 1) xs.length) Yt Z Z Z h1 (H6 xs [.int .i64 0] Z hc1n hc1n (by rfl)) (H5 xs [.int .i64 0] Z hc1n hc1n) (fun w3 m1 h1'=>?_))))
  replace h1:=h1'
  replace E:=E.step m1 (fun g hg=>by cases hg;omega)
  have z3:=m1.size
  refine Qc (Q6 (Y0 (Qh [true,true,true] Z Z (Qa (Qd Z) Z (Qa (Ye Z Z (Y3 hc1n hxs.1)) Z (Qa (Qf Z) Z (Qc (Q6 (Yk (k + 1) (by omega) ⟨Z,Z,Z,Z,trivial⟩ ⟨E,(by omega),(by omega),h1⟩)))))))))
 ·have hc1n : ¬ k < xs.length:=by first | (have h:=of_decide_eq_false hc1;omega) | (have h:=hc1;simp at h;omega)
  refine Yq (Q5 (Q3 ?_))
  refine Qe (Qh [true,true] Z Z (Qa (Qd Z) Z (Qa (Qf Z) Z (Qc (Qv (Qm Z Z E ?_))))))
  obtain rfl : k = xs.length:=by omega
  rw [C1] at h1
  exact Own.ofBlk h1 (by omega) (by have:=h1.lt;omega) (Yz xs) hxs.1

set_option maxRecDepth 20000 in
theorem c_eqIntS (vxs : Value) (xs : List Int) (vys : Value) (ys : List Int) (w : World) (hxs : RdS w vxs xs) (hys : RdS w vys ys) : Ct Tryz.prog 123 [vxs,vys] w (fun v _=>v = .bool (decide (xs = ys))):=by
 refine Ym Tryz.func123 Z Tryz.ntmps123 Z ?_
 refine Q8 [(0,vxs),(1,vys)] ⟨Z,Z,trivial⟩ ?_
 have E : Ext w w:=Ext.refl w
 refine Qe (Qh [true] Z Z (Qa (Qf Z) Z (Qc (Qe (Qe (Qh [true,true,true,true,true] Z Z (Qa (Qd Z) Z (Qa (Yc Tryz.underlying76 Z (hxs.ext E).len) Z (Qa (Qd Z) Z (Qa (Yc Tryz.underlying76 Z (hys.ext E).len) Z (Qa (Yu Z Z) Z (Qc (Qt Z (fun hc1=>?_) (fun hc1=>?_))))))))))))))
 ·have hc1n : ¬ xs.length = ys.length:=by first | (have h:=of_decide_eq_true hc1;omega) | (have h:=hc1;simp at h;omega)
  refine Qe (Qh [true] Z Z (Qa (Qf Z) Z (Qc (Qv (Qm Z Z E ?_)))))
  simp [Hl hc1n]
 ·have hc1n : xs.length = ys.length:=by first | (have h:=of_decide_eq_false hc1;omega) | (have h:=hc1;simp at h;omega)
  refine Qo (Qe (Qe (Qh [true] Z Z (Qa (Qf Z) Z (Qc (Q0 (Yp (fun (k : Nat)=>[(0,vxs),(1,vys),(4,.bool false),(5,.int .i64 ((k : Nat) : Int))]) (fun (k : Nat) w'=>Ext w w' ∧ w.heap.size ≤ w'.heap.size ∧ k ≤ xs.length ∧ xs.take k = ys.take k) (fun (k : Nat)=>xs.length - k) 0 ⟨Z,Z,Z,Z,trivial⟩ ⟨E,Nat.le_refl _,Nat.zero_le _,Z⟩ ?_)))))))
  clear E
  rintro k w1 ⟨E,z1,hk,hp⟩
  refine Qe (Qe (Qh [true,true,true,true] Z Z (Qa (Qd Z) Z (Qa (Qd Z) Z (Qa (Yc Tryz.underlying76 Z (hxs.ext E).len) Z (Qa (Yi Z Z) Z (Qc (Qt Z (fun hc2=>?_) (fun hc2=>?_)))))))))
  ·have hc2n : k < xs.length:=by first | (have h:=of_decide_eq_true hc2;omega) | (have h:=hc2;simp at h;omega)
   refine Qo (Qe (Q0 (Qe (Xx Xs [(0,true),(1,true),(2,true),(3,true),(4,true),(5,true),(6,true),(7,true),(8,true)] (by decide +kernel) Z (fun w2 e1=>?_)))))
   replace E:=E.trans e1
   have z2:=e1.size
   refine Qa (Qd Z) Z (Qa (Qd Z) Z ?_)
   have hi1 : k < xs.length:=(by first | assumption | omega | (simp only [List.length_set];first | assumption | omega) | (simp only [List.getElem_set_self,List.length_set];first | assumption | omega) | (simp only [Yn,Yh,List.length_set];first | assumption | omega))
   refine Qa (Qz (i:=k) Ux Z Z (hxs.ext E) hi1) Z (Qa (Qk Yt Z (((hxs.ext E).get hi1).one 0 Z)) Z (Qa (Qd Z) Z (Qa (Qd Z) Z ?_)))
   have hi2 : k < ys.length:=(by first | assumption | omega | (simp only [List.length_set];first | assumption | omega) | (simp only [List.getElem_set_self,List.length_set];first | assumption | omega) | (simp only [Yn,Yh,List.length_set];first | assumption | omega))
   refine Qa (Qz (i:=k) Ux Z Z (hys.ext E) hi2) Z (Qa (Qk Yt Z (((hys.ext E).get hi2).one 0 Z)) Z (Qa (Yu Z Z) Z (Qc (Qt Z (fun hc3=>?_) (fun hc3=>?_)))))
   ·refine Qe (Qh [true] Z Z (Qa (Qf Z) Z (Qc (Qv (Q2 (Yv (Q2 (Qm Z Z E ?_))))))))
    exact Hm (by omega) (by omega) (by simpa using hc3)
   ·refine Qo (Q6 (Y0 (Qh [true,true,true] Z Z (Qa (Qd Z) Z (Qa (Ye Z Z (Y3 hc2n hxs.1)) Z (Qa (Qf Z) Z (Qc (Q6 (Yk (k + 1) (by omega) ⟨Z,Z,Z,Z,trivial⟩ ⟨E,(by omega),(by omega),Vi hp (by assumption) (by omega) (by simpa using hc3)⟩)))))))))
  ·have hc2n : ¬ k < xs.length:=by first | (have h:=of_decide_eq_false hc2;omega) | (have h:=hc2;simp at h;omega)
   refine Yq (Q5 (Q3 ?_))
   refine Qe (Qh [true] Z Z (Qa (Qf Z) Z (Qc (Qv (Qm Z Z E ?_)))))
   exact Gc hp hc1n (by omega)

set_option maxRecDepth 20000 in
theorem c_szNode (cx : List Value) (x : Node) (n : Int) (w : World) (hx : Dat.R w 0 w.heap.size cx x) (h0 : 0 ≤ n ∧ n ≤ 1048576) : Ct Tryz.prog 93 [.agg cx.toArray,.int .i64 n] w (fun v _=>v = .int .i64 (Uk (Xy x) n)):=by
 refine Ym Tryz.func93 Z Tryz.ntmps93 Z ?_
 obtain ⟨o1,rfl,hd1⟩:=Node.op hx
 refine Q8 [(0,.agg [.int .i64 x.kind,.int .i64 x.a,.int .i64 x.b,o1].toArray),(1,.int .i64 n)] ⟨Z,Z,trivial⟩ ?_
 have E : Ext w w:=Ext.refl w
 refine Qe (Qh [false,true] Z Z (Y1 Z Z (fun b1 w1 e1 s1 h1=>?_)))
 have g_b1 : w.heap.size ≤ b1:=by have:=E.size;omega
 have y_b1:=h1.lt
 replace E:=E.trans e1
 have z1:=e1.size
 refine Qa (Qf Z) Z (Qc (Qe (Qh [true,true,true,false,true] Z Z (Qa (Qb fl143_3 Z) Z (Qa (Qk K0 Z (h1.one 3 Z)) Z (Qa (Qd Z) Z (Qw Tryz.call96 Z (c_szIntS o1 x.outs n _ (hd1.rd.ext E) (by first | omega | (simp only [Qi];omega) | (rw [Qi];done) | (simp only [Qi];done))) Z (fun _ w2 e2 hv=>?_))))))))
 subst hv
 replace E:=E.trans e2;replace h1:=h1.ext e2
 have z2:=e2.size
 refine Qa (Qf Z) Z (Qc (Qe (Qe (Qh [true,true] Z Z (Qa (Qd Z) Z (Qa (Yi Z Z) Z (Qc (Qt Z (fun hc1=>?_) (fun hc1=>?_)))))))))
 ·have q1:=Uj hc1 (by omega)
  refine Qe (Qh [true] Z Z (Qa (Qf Z) Z (Qc (Qv (Qm Z Z E ?_)))))
  first | exact Kd (by unfold Xy;omega) | exact Ks (by unfold Xy;omega) (by unfold Xy;omega)
 ·have q2:=Ui hc1 (by omega)
  refine Qo (Qe (Qh [true,true] Z Z (Qa (Qd Z) Z (Qa (Qf Z) Z (Qc (Qv (Qm Z Z E ?_)))))))
  first | exact Kd (by unfold Xy;omega) | exact Ks (by unfold Xy;omega) (by unfold Xy;omega)

set_option maxRecDepth 20000 in
theorem c_toNode (cx : List Value) (x : Node) (w : World) (hx : Dat.R w 0 w.heap.size cx x) (hb : Xy x ≤ 1048576) : Ct Tryz.prog 107 [.agg cx.toArray] w (fun v w'=>∃ cs,v = .agg cs.toArray ∧ Own1.O w' w.heap.size w'.heap.size cs x):=by
 unfold Xy at hb
 refine Ym Tryz.func107 Z Tryz.ntmps107 Z ?_
 obtain ⟨o1,rfl,hd1⟩:=Node.op hx
 refine Q8 [(0,.agg [.int .i64 x.kind,.int .i64 x.a,.int .i64 x.b,o1].toArray)] ⟨Z,trivial⟩ ?_
 have E : Ext w w:=Ext.refl w
 refine Qe (Qh [false,false] Z Z (Y1 Z Z (fun b1 w1 e1 s1 h1=>?_)))
 have g_b1 : w.heap.size ≤ b1:=by have:=E.size;omega
 have y_b1:=h1.lt
 replace E:=E.trans e1
 have z1:=e1.size
 refine Yo Uf Z (fun b2 w2 e2 s2 h2=>?_)
 have g_b2 : w.heap.size ≤ b2:=by have:=E.size;omega
 have y_b2:=h2.lt
 replace E:=E.trans e2;replace h1:=h1.ext e2
 have z2:=e2.size
 refine Qc (Qe (Qh [false] Z Z (Yo Uf Z (fun b3 w3 e3 s3 h3=>?_))))
 have g_b3 : w.heap.size ≤ b3:=by have:=E.size;omega
 have y_b3:=h3.lt
 replace E:=E.trans e3;replace h1:=h1.ext e3;replace h2:=h2.ext e3
 have z3:=e3.size
 refine Qc (Qe (Qh [true,true,true,false] Z Z (Qa (Qb fl143_0 Z) Z (Qa (Qk Yt Z (h1.one 0 Z)) Z (Qa (Qb Kj Z) Z (Yj (cs':=[.int .i64 x.kind,.int .i64 0,.int .i64 0,.slice none 0 0]) Yt Z Z Z h3 (Nat.le_of_ble_eq_true Z) Z (fun w4 m1 h3'=>?_)))))))
 replace h3:=h3'
 replace E:=E.step m1 (fun g hg=>by cases hg;omega);replace h1:=h1.mod m1 (fun g hg=>by cases hg;omega);replace h2:=h2.mod m1 (fun g hg=>by cases hg;omega)
 have z4:=m1.size
 refine Qc (Qe (Qh [true,true,true,false] Z Z (Qa (Qb fl143_1 Z) Z (Qa (Qk Yt Z (h1.one 1 Z)) Z (Qa (Qb Kx Z) Z (Yj (cs':=[.int .i64 x.kind,.int .i64 x.a,.int .i64 0,.slice none 0 0]) Yt Z Z Z h3 (Nat.le_of_ble_eq_true Z) Z (fun w5 m2 h3'=>?_)))))))
 replace h3:=h3'
 replace E:=E.step m2 (fun g hg=>by cases hg;omega);replace h1:=h1.mod m2 (fun g hg=>by cases hg;omega);replace h2:=h2.mod m2 (fun g hg=>by cases hg;omega)
 have z5:=m2.size
 refine Qc (Qe (Qh [true,true,true,false] Z Z (Qa (Qb fl143_2 Z) Z (Qa (Qk Yt Z (h1.one 2 Z)) Z (Qa (Qb Ut Z) Z (Yj (cs':=[.int .i64 x.kind,.int .i64 x.a,.int .i64 x.b,.slice none 0 0]) Yt Z Z Z h3 (Nat.le_of_ble_eq_true Z) Z (fun w6 m3 h3'=>?_)))))))
 replace h3:=h3'
 replace E:=E.step m3 (fun g hg=>by cases hg;omega);replace h1:=h1.mod m3 (fun g hg=>by cases hg;omega);replace h2:=h2.mod m3 (fun g hg=>by cases hg;omega)
 have z6:=m3.size
 refine Qc (Qe (Qh [true,true,false,true,false] Z Z (Qa (Qb fl143_3 Z) Z (Qa (Qk K0 Z (h1.one 3 Z)) Z (Qw Tryz.call110 Z (c_toIntS o1 x.outs _ (hd1.rd.ext E) (by first | omega | (simp only [Qi];omega) | (rw [Qi];done) | (simp only [Qi];done))) Z (fun v1 w7 e4 ho1=>?_))))))
 have g_ho1 : w.heap.size ≤ w6.heap.size:=E.size
 replace E:=E.trans e4;replace h1:=h1.ext e4;replace h2:=h2.ext e4;replace h3:=h3.ext e4
 have z7:=e4.size
 refine Qa (Qb Xu Z) Z (Yj (cs':=[.int .i64 x.kind,.int .i64 x.a,.int .i64 x.b,v1]) K0 Z Z ho1.one h3 (Nat.le_of_ble_eq_true Z) Z (fun w8 m4 h3'=>?_))
 replace h3:=h3'
 replace E:=E.step m4 (fun g hg=>by cases hg;omega);replace h1:=h1.mod m4 (fun g hg=>by cases hg;omega);replace h2:=h2.mod m4 (fun g hg=>by cases hg;omega);replace ho1:=ho1.mod m4 (fun g hg=>by cases hg;omega)
 have z8:=m4.size
 refine Qc (Qe (Qh [true,false] Z Z (Qa (Qy Uf Z h3.at Z) Z (Q4 (cs':=[.int .i64 x.kind,.int .i64 x.a,.int .i64 x.b,v1]) Uf Z Z Z (Qj Z (Qj Z (Qj Z (Qj ho1.one Z)))) h2 (Nat.le_of_ble_eq_true Z) Z (fun w9 m5 h2'=>?_)))))
 replace h2:=h2'
 replace E:=E.step m5 (fun g hg=>by cases hg;omega);replace h1:=h1.mod m5 (fun g hg=>by cases hg;omega);replace h3:=h3.mod m5 (fun g hg=>by cases hg;omega);replace ho1:=ho1.mod m5 (fun g hg=>by cases hg;omega)
 have z9:=m5.size
 refine Qc (Qv (X3 Z Z (Yd Uf h2.at Z) E ?_))
 exact ⟨_,Z,Node.mkO x ⟨trivial,trivial⟩ (Own.widen ho1 (by omega) (by omega))⟩

set_option maxRecDepth 20000 in
theorem c_eqNode (cx : List Value) (x : Node) (cy : List Value) (y : Node) (w : World) (hx : Dat.R w 0 w.heap.size cx x) (hy : Dat.R w 0 w.heap.size cy y) : Ct Tryz.prog 120 [.agg cx.toArray,.agg cy.toArray] w (fun v _=>v = .bool (decide (x = y))):=by
 refine Ym Tryz.func120 Z Tryz.ntmps120 Z ?_
 obtain ⟨o1,rfl,hd1⟩:=Node.op hx
 obtain ⟨o2,rfl,hd2⟩:=Node.op hy
 refine Q8 [(0,.agg [.int .i64 x.kind,.int .i64 x.a,.int .i64 x.b,o1].toArray),(1,.agg [.int .i64 y.kind,.int .i64 y.a,.int .i64 y.b,o2].toArray)] ⟨Z,Z,trivial⟩ ?_
 have E : Ext w w:=Ext.refl w
 refine Qe (Qh [false,false,true] Z Z (Y1 Z Z (fun b1 w1 e1 s1 h1=>?_)))
 have g_b1 : w.heap.size ≤ b1:=by have:=E.size;omega
 have y_b1:=h1.lt
 replace E:=E.trans e1
 have z1:=e1.size
 refine Y1 Z Z (fun b2 w2 e2 s2 h2=>?_)
 have g_b2 : w.heap.size ≤ b2:=by have:=E.size;omega
 have y_b2:=h2.lt
 replace E:=E.trans e2;replace h1:=h1.ext e2
 have z2:=e2.size
 refine Qa (Qf Z) Z (Qc (Qe (Qe (Qh [true,true,true,true,true] Z Z (Qa (Qb Kj Z) Z (Qa (Qk Yt Z (h1.one 0 Z)) Z (Qa (Qb Kj Z) Z (Qa (Qk Yt Z (h2.one 0 Z)) Z (Qa (Yu Z Z) Z (Qc (Qt Z (fun hc1=>?_) (fun hc1=>?_))))))))))))
 ·refine Qe (Qh [true] Z Z (Qa (Qf Z) Z (Qc (Qv (Qm Z Z E ?_)))))
  cases x;cases y;simp_all
 ·refine Qo (Qe (Qe (Qh [true,true,true,true,true] Z Z (Qa (Qb Kx Z) Z (Qa (Qk Yt Z (h1.one 1 Z)) Z (Qa (Qb Kx Z) Z (Qa (Qk Yt Z (h2.one 1 Z)) Z (Qa (Yu Z Z) Z (Qc (Qt Z (fun hc2=>?_) (fun hc2=>?_)))))))))))
  ·refine Qe (Qh [true] Z Z (Qa (Qf Z) Z (Qc (Qv (Qm Z Z E ?_)))))
   cases x;cases y;simp_all
  ·refine Qo (Qe (Qe (Qh [true,true,true,true,true] Z Z (Qa (Qb Ut Z) Z (Qa (Qk Yt Z (h1.one 2 Z)) Z (Qa (Qb Ut Z) Z (Qa (Qk Yt Z (h2.one 2 Z)) Z (Qa (Yu Z Z) Z (Qc (Qt Z (fun hc3=>?_) (fun hc3=>?_)))))))))))
   ·refine Qe (Qh [true] Z Z (Qa (Qf Z) Z (Qc (Qv (Qm Z Z E ?_)))))
    cases x;cases y;simp_all
   ·refine Qo (Qe (Qe (Qh [true,true,true,true,false,true] Z Z (Qa (Qb Xu Z) Z (Qa (Qk K0 Z (h1.one 3 Z)) Z (Qa (Qb Xu Z) Z (Qa (Qk K0 Z (h2.one 3 Z)) Z (Qw Tryz.call123 Z (c_eqIntS o1 x.outs o2 y.outs _ (hd1.rd.ext E) (hd2.rd.ext E)) Z (fun _ w3 e3 hv=>?_)))))))))
    subst hv
    replace E:=E.trans e3;replace h1:=h1.ext e3;replace h2:=h2.ext e3
    have z3:=e3.size
    refine Qa (Yy Z) Z (Qc (Qt Z (fun hc4=>?_) (fun hc4=>?_)))
    ·refine Qe (Qh [true] Z Z (Qa (Qf Z) Z (Qc (Qv (Qm Z Z E ?_)))))
     cases x;cases y;simp_all
    ·refine Qo (Qe (Qh [true] Z Z (Qa (Qf Z) Z (Qc (Qv (Qm Z Z E ?_))))))
     cases x;cases y;simp_all

set_option maxRecDepth 20000 in
theorem c_szNodeS (vxs : Value) (xs : List Node) (n : Int) (w : World) (hxs : RdD w 0 w.heap.size vxs xs) (h0 : 0 ≤ n ∧ n ≤ 1048576) : Ct Tryz.prog 53 [vxs,.int .i64 n] w (fun v _=>v = .int .i64 (Uk (X0 Xy xs) n)):=by
 have hlm:=hxs.1.1
 unfold maxLen at hlm
 refine Ym Tryz.func53 Z Tryz.ntmps53 Z ?_
 refine Q8 [(0,vxs),(1,.int .i64 n)] ⟨Z,Z,trivial⟩ ?_
 have E : Ext w w:=Ext.refl w
 refine Qe (Qh [true] Z Z (Qa (Qf Z) Z (Qc (Qe (Qh [true,true,true,true,true] Z Z (Qa (Qd Z) Z (Qa (Qd Z) Z (Qa (Yc Tryz.underlying22 Z (hxs.ext E).len) Z (Qa (K6 Z Z (Ki (by omega) (by omega))) Z (Qa (Qf Z) Z (Qc (Qe (Qe (Qh [true,true] Z Z (Qa (Qd Z) Z (Qa (Yi Z Z) Z (Qc (Qt Z (fun hc1=>?_) (fun hc1=>?_)))))))))))))))))))
 ·refine Qe (Qh [true] Z Z (Qa (Qf Z) Z (Qc (Qv (Qm Z Z E ?_)))))
  exact Kd (by have:=of_decide_eq_true hc1;unfold X0;omega)
 ·refine Qo (Qe (Qe (Qh [true] Z Z (Qa (Qf Z) Z (Qc (Q0 (Yp (fun (xq : Nat × Int)=>let ⟨k,l⟩:=xq;[(0,vxs),(1,.int .i64 l),(4,.int .i64 0),(5,.int .i64 ((k : Nat) : Int))]) (fun (xq : Nat × Int) w'=>let ⟨k,l⟩:=xq;Ext w w' ∧ w.heap.size ≤ w'.heap.size ∧ k ≤ xs.length ∧ 0 ≤ l ∧ l ≤ 1048576 ∧ l = n - ((xs.length : Nat) : Int) - ((((xs.take k).map Xy).sum : Nat) : Int)) (fun (xq : Nat × Int)=>let ⟨k,l⟩:=xq;xs.length - k) (0,n - ((xs.length : Nat) : Int)) ⟨Z,Z,Z,Z,trivial⟩ ⟨E,Nat.le_refl _,Nat.zero_le _,(by have:=of_decide_eq_false hc1;simp;omega)⟩ ?_)))))))
  clear E
  rintro ⟨k,l⟩ w1 ⟨E,z1,hk,hl⟩
  refine Q8 [(0,vxs),(1,.int .i64 l),(4,.int .i64 0),(5,.int .i64 ((k : Nat) : Int))] ⟨Z,Z,Z,Z,trivial⟩ ?_
  refine Qe (Qe (Qh [true,true,true,true] Z Z (Qa (Qd Z) Z (Qa (Qd Z) Z (Qa (Yc Tryz.underlying22 Z (hxs.ext E).len) Z (Qa (Yi Z Z) Z (Qc (Qt Z (fun hc2=>?_) (fun hc2=>?_)))))))))
  ·have hc2n : k < xs.length:=by first | (have h:=of_decide_eq_true hc2;omega) | (have h:=hc2;simp at h;omega)
   refine Qo (Qe (Q0 (Qe (Qh [true,true,true,true,true,false,true] Z Z (Qa (Qd Z) Z (Qa (Qd Z) Z ?_))))))
   have hi1 : k < xs.length:=(by first | assumption | omega | (simp only [List.length_set];first | assumption | omega) | (simp only [List.getElem_set_self,List.length_set];first | assumption | omega) | (simp only [Yn,Yh,List.length_set];first | assumption | omega))
   obtain ⟨_,hr1,ha1⟩:=RdD.get hxs hi1
   obtain ⟨o1,rfl,hd1⟩:=Node.op hr1
   replace ha1 : At w (Y6 vxs) (Y8 vxs + k * 4) [.int .i64 ((xs[k]'hi1).kind),.int .i64 ((xs[k]'hi1).a),.int .i64 ((xs[k]'hi1).b),o1]:=ha1
   refine Qa (Qz (i:=k) sl22 Z Z (hxs.ext E).1 hi1) Z (Qa (Qy st143 Z (ha1.ext E) Z) Z (Qa (Qd Z) Z (Qw Tryz.call93 Z (c_szNode [.int .i64 ((xs[k]'hi1).kind),.int .i64 ((xs[k]'hi1).a),.int .i64 ((xs[k]'hi1).b),o1] (xs[k]'hi1) l _ (Node.mkR (xs[k]'hi1) (RdD.any (hd1.ext E))) (by first | omega | (simp only [Qi];omega) | (rw [Qi];done) | (simp only [Qi];done))) Z (fun _ w2 e1 hv=>?_))))
   subst hv
   replace E:=E.trans e1
   have z2:=e1.size
   refine Qa (Qf Z) Z (Qc (Qe (Qh [true,true] Z Z (Qa (Qd Z) Z (Qa (Yi Z Z) Z (Qc (Qt Z (fun hc3=>?_) (fun hc3=>?_))))))))
   ·have q1:=Uj hc3 (by omega)
    refine Qe (Qh [true] Z Z (Qa (Qf Z) Z (Qc (Qv (Q2 (Yv (Q2 (Qm Z Z E ?_))))))))
    exact Kd (by have:=V3 (f:=Xy) (show k < xs.length by omega);unfold X0;omega)
   ·have q2:=Ui hc3 (by omega)
    refine Qo (Q6 (Y0 (Qh [true,true,true] Z Z (Qa (Qd Z) Z (Qa (Ye Z Z (Y3 hc2n (hxs.ext E).1.1)) Z (Qa (Qf Z) Z (Qc (Q6 (Yk (k + 1,Uk (Xy (xs[k]'hi1)) l) (by simp;omega) ⟨Z,Z,Z,Z,trivial⟩ ⟨E,(by omega),(by omega),(by have:=Bk (f:=Xy) (show k < xs.length by omega);omega)⟩)))))))))
  ·have hc2n : ¬ k < xs.length:=by first | (have h:=of_decide_eq_false hc2;omega) | (have h:=hc2;simp at h;omega)
   refine Yq (Q5 (Q3 ?_))
   refine Qe (Qh [true,true] Z Z (Qa (Qd Z) Z (Qa (Qf Z) Z (Qc (Qv (Qm Z Z E ?_))))))
   have:=sum_all (f:=Xy) (show xs.length ≤ k by omega);exact Ks (by unfold X0;omega) (by unfold X0;omega)

set_option maxRecDepth 20000 in
theorem c_toNodeS (vxs : Value) (xs : List Node) (w : World) (hxs : RdD w 0 w.heap.size vxs xs) (hb : X0 Xy xs ≤ 1048576) : Ct Tryz.prog 61 [vxs] w (fun v w'=>OwS (α:=Node) w' w.heap.size w'.heap.size v xs):=by
 unfold X0 at hb
 refine Ym Tryz.func61 Z Tryz.ntmps61 Z ?_
 refine Q8 [(0,vxs)] ⟨Z,trivial⟩ ?_
 have E : Ext w w:=Ext.refl w
 refine Qe (Qh [true] Z Z (Qa (Qf Z) Z (Qc (Qe (Qh [true,true,false,true] Z Z (Qa (Qd Z) Z (Qa (Yc Tryz.underlying22 Z (hxs.ext E).len) Z (Hp (m:=xs.length) G0 Z Z (by omega) (by decide) Z (fun b1 w1 e1 s1 h1=>?_)))))))))
 have g_b1 : w.heap.size ≤ b1:=by have:=E.size;omega
 have y_b1:=h1.lt
 replace E:=E.trans e1
 have z1:=e1.size
 refine Qa (Qf Z) Z (Qc (Qe (Qe (Qh [true] Z Z (Qa (Qf Z) Z (Qc (Q0 (Yp (fun (xq : Nat × List (List Value))=>let ⟨k,css⟩:=xq;[(0,vxs),(2,.slice none 0 0),(3,.slice (some ⟨b1,0,none⟩) xs.length xs.length),(4,.int .i64 ((k : Nat) : Int))]) (fun (xq : Nat × List (List Value)) w'=>let ⟨k,css⟩:=xq;Ext w w' ∧ w1.heap.size ≤ w'.heap.size ∧ k ≤ xs.length ∧ css.length = k ∧ Blk w' b1 (Df css [.int .i64 0,.int .i64 0,.int .i64 0,.slice none 0 0] (xs.length - k)) ∧ AllO w' w1.heap.size w'.heap.size css (xs.take k)) (fun (xq : Nat × List (List Value))=>let ⟨k,css⟩:=xq;xs.length - k) (0,[]) ⟨Z,Z,Z,Z,trivial⟩ ⟨E,Nat.le_refl _,Nat.zero_le _,Z,(by simpa [Df] using h1),(by simp [AllO,All2])⟩ ?_))))))))
 clear E h1
 rintro ⟨k,css⟩ w2 ⟨E,z2,hk,hlk,h1,hA⟩
 refine Q8 [(0,vxs),(2,.slice none 0 0),(3,.slice (some ⟨b1,0,none⟩) xs.length xs.length),(4,.int .i64 ((k : Nat) : Int))] ⟨Z,Z,Z,Z,trivial⟩ ?_
 refine Qe (Qe (Qh [true,true,true,true] Z Z (Qa (Qd Z) Z (Qa (Qd Z) Z (Qa (Yc Tryz.underlying22 Z (hxs.ext E).len) Z (Qa (Yi Z Z) Z (Qc (Qt Z (fun hc1=>?_) (fun hc1=>?_)))))))))
 ·have hc1n : k < xs.length:=by first | (have h:=of_decide_eq_true hc1;omega) | (have h:=hc1;simp at h;omega)
  refine Qo (Qe (Q0 (Qh [true,true,true,true,true,true,false,true,false] Z Z (Qa (Qd Z) Z (Qa (Qd Z) Z (Qa (Qd Z) Z (Qa (Qd Z) Z ?_)))))))
  have hi1 : k < xs.length:=(by first | assumption | omega | (simp only [List.length_set];first | assumption | omega) | (simp only [List.getElem_set_self,List.length_set];first | assumption | omega) | (simp only [Yn,Yh,List.length_set];first | assumption | omega))
  obtain ⟨_,hr1,ha1⟩:=RdD.get hxs hi1
  obtain ⟨o1,rfl,hd1⟩:=Node.op hr1
  replace ha1 : At w (Y6 vxs) (Y8 vxs + k * 4) [.int .i64 ((xs[k]'hi1).kind),.int .i64 ((xs[k]'hi1).a),.int .i64 ((xs[k]'hi1).b),o1]:=ha1
  refine Qa (Qz (i:=k) sl22 Z Z (hxs.ext E).1 hi1) Z (Qa (Qy st143 Z (ha1.ext E) Z) Z (Qw Tryz.call107 Z (c_toNode [.int .i64 ((xs[k]'hi1).kind),.int .i64 ((xs[k]'hi1).a),.int .i64 ((xs[k]'hi1).b),o1] (xs[k]'hi1) _ (Node.mkR (xs[k]'hi1) (RdD.any (hd1.ext E))) (by have:=V3 (f:=Xy) (show k < xs.length by omega);omega)) Z (fun _ w3 e2 ho1=>?_)))
  obtain ⟨_,rfl,ho1⟩:=ho1
  have g_ho1 : w.heap.size ≤ w2.heap.size:=E.size
  replace E:=E.trans e2;replace h1:=h1.ext e2;replace hA:=hA.ext e2
  have z3:=e2.size
  obtain ⟨o2,rfl,sp1,hw1⟩:=Node.opO ho1
  refine Qa (Vj G0 Z Z (by first | assumption | omega | (simp only [List.length_set];first | assumption | omega) | (simp only [List.getElem_set_self,List.length_set];first | assumption | omega) | (simp only [Yn,Yh,List.length_set];first | assumption | omega))) Z (Q4 (cs':=Df (css ++ [[.int .i64 ((xs[k]'hi1).kind),.int .i64 ((xs[k]'hi1).a),.int .i64 ((xs[k]'hi1).b),o2]]) [.int .i64 0,.int .i64 0,.int .i64 0,.slice none 0 0] (xs.length - (k + 1))) Uf Z Z Z (Qj Z (Qj Z (Qj Z (Qj hw1.one Z)))) h1 (Ad hA.d hlk Z hc1n (by rfl)) (Bu hA.d hlk Z hc1n Z) (fun w4 m1 h1'=>?_))
  replace h1:=h1'
  replace E:=E.step m1 (fun g hg=>by cases hg;omega);replace hA:=hA.mod m1 (fun g hg=>by cases hg;omega);replace hw1:=hw1.mod m1 (fun g hg=>by cases hg;omega)
  have z4:=m1.size
  refine Qc (Q6 (Y0 (Qh [true,true,true] Z Z (Qa (Qd Z) Z (Qa (Ye Z Z (Y3 hc1n (hxs.ext E).1.1)) Z (Qa (Qf Z) Z (Qc (Q6 (Yk (k + 1,css ++ [[.int .i64 ((xs[k]'hi1).kind),.int .i64 ((xs[k]'hi1).a),.int .i64 ((xs[k]'hi1).b),o2]]) (by simp;omega) ⟨Z,Z,Z,Z,trivial⟩ ⟨E,(by omega),(by omega),(by simp [hlk]),h1,(AllO.widen (AllO.step hA hc1n (Node.mkO (xs[k]'hi1) sp1 (Own.widen hw1 (by omega) (by omega))) (Nat.le_refl _) (Nat.le_refl _) (by omega) (by omega)) (Nat.le_refl _) (by omega))⟩)))))))))
 ·have hc1n : ¬ k < xs.length:=by first | (have h:=of_decide_eq_false hc1;omega) | (have h:=hc1;simp at h;omega)
  refine Yq (Q5 (Q3 ?_))
  refine Qe (Qh [true,true] Z Z (Qa (Qd Z) Z (Qa (Qf Z) Z (Qc (Qv (Qm Z Z E ?_))))))
  obtain rfl : k = xs.length:=by omega
  rw [Nat.sub_self,mkc_all] at h1
  rw [List.take_length] at hA
  exact OwS.ofBlk h1 hA (by have:=E.size;omega) (by omega) (by have:=E.size;omega) (by omega) (by omega) Z (by unfold maxLen;omega)

set_option maxRecDepth 20000 in
theorem c_eqNodeS (vxs : Value) (xs : List Node) (vys : Value) (ys : List Node) (w : World) (hxs : RdD w 0 w.heap.size vxs xs) (hys : RdD w 0 w.heap.size vys ys) : Ct Tryz.prog 72 [vxs,vys] w (fun v _=>v = .bool (decide (xs = ys))):=by
 refine Ym Tryz.func72 Z Tryz.ntmps72 Z ?_
 refine Q8 [(0,vxs),(1,vys)] ⟨Z,Z,trivial⟩ ?_
 have E : Ext w w:=Ext.refl w
 refine Qe (Qh [true] Z Z (Qa (Qf Z) Z (Qc (Qe (Qe (Qh [true,true,true,true,true] Z Z (Qa (Qd Z) Z (Qa (Yc Tryz.underlying32 Z (hxs.ext E).len) Z (Qa (Qd Z) Z (Qa (Yc Tryz.underlying32 Z (hys.ext E).len) Z (Qa (Yu Z Z) Z (Qc (Qt Z (fun hc1=>?_) (fun hc1=>?_))))))))))))))
 ·have hc1n : ¬ xs.length = ys.length:=by first | (have h:=of_decide_eq_true hc1;omega) | (have h:=hc1;simp at h;omega)
  refine Qe (Qh [true] Z Z (Qa (Qf Z) Z (Qc (Qv (Qm Z Z E ?_)))))
  simp [Hl hc1n]
 ·have hc1n : xs.length = ys.length:=by first | (have h:=of_decide_eq_false hc1;omega) | (have h:=hc1;simp at h;omega)
  refine Qo (Qe (Qe (Qh [true] Z Z (Qa (Qf Z) Z (Qc (Q0 (Yp (fun (k : Nat)=>[(0,vxs),(1,vys),(4,.bool false),(5,.int .i64 ((k : Nat) : Int))]) (fun (k : Nat) w'=>Ext w w' ∧ w.heap.size ≤ w'.heap.size ∧ k ≤ xs.length ∧ xs.take k = ys.take k) (fun (k : Nat)=>xs.length - k) 0 ⟨Z,Z,Z,Z,trivial⟩ ⟨E,Nat.le_refl _,Nat.zero_le _,Z⟩ ?_)))))))
  clear E
  rintro k w1 ⟨E,z1,hk,hp⟩
  refine Qe (Qe (Qh [true,true,true,true] Z Z (Qa (Qd Z) Z (Qa (Qd Z) Z (Qa (Yc Tryz.underlying32 Z (hxs.ext E).len) Z (Qa (Yi Z Z) Z (Qc (Qt Z (fun hc2=>?_) (fun hc2=>?_)))))))))
  ·have hc2n : k < xs.length:=by first | (have h:=of_decide_eq_true hc2;omega) | (have h:=hc2;simp at h;omega)
   refine Qo (Qe (Q0 (Qe (Xx Xs [(0,true),(1,true),(2,true),(3,true),(4,true),(5,true),(6,true),(7,true),(8,false),(9,true)] (by decide +kernel) Z (fun w2 e1=>?_)))))
   replace E:=E.trans e1
   have z2:=e1.size
   refine Qa (Qd Z) Z (Qa (Qd Z) Z ?_)
   have hi1 : k < xs.length:=(by first | assumption | omega | (simp only [List.length_set];first | assumption | omega) | (simp only [List.getElem_set_self,List.length_set];first | assumption | omega) | (simp only [Yn,Yh,List.length_set];first | assumption | omega))
   obtain ⟨_,hr1,ha1⟩:=RdD.get hxs hi1
   obtain ⟨o1,rfl,hd1⟩:=Node.op hr1
   replace ha1 : At w (Y6 vxs) (Y8 vxs + k * 4) [.int .i64 ((xs[k]'hi1).kind),.int .i64 ((xs[k]'hi1).a),.int .i64 ((xs[k]'hi1).b),o1]:=ha1
   refine Qa (Qz (i:=k) G0 Z Z (hxs.ext E).1 hi1) Z (Qa (Qy Uf Z (ha1.ext E) Z) Z (Qa (Qd Z) Z (Qa (Qd Z) Z ?_)))
   have hi2 : k < ys.length:=(by first | assumption | omega | (simp only [List.length_set];first | assumption | omega) | (simp only [List.getElem_set_self,List.length_set];first | assumption | omega) | (simp only [Yn,Yh,List.length_set];first | assumption | omega))
   obtain ⟨_,hr2,ha2⟩:=RdD.get hys hi2
   obtain ⟨o2,rfl,hd2⟩:=Node.op hr2
   replace ha2 : At w (Y6 vys) (Y8 vys + k * 4) [.int .i64 ((ys[k]'hi2).kind),.int .i64 ((ys[k]'hi2).a),.int .i64 ((ys[k]'hi2).b),o2]:=ha2
   refine Qa (Qz (i:=k) G0 Z Z (hys.ext E).1 hi2) Z (Qa (Qy Uf Z (ha2.ext E) Z) Z (Qw Tryz.call120 Z (c_eqNode [.int .i64 ((xs[k]'hi1).kind),.int .i64 ((xs[k]'hi1).a),.int .i64 ((xs[k]'hi1).b),o1] (xs[k]'hi1) [.int .i64 ((ys[k]'hi2).kind),.int .i64 ((ys[k]'hi2).a),.int .i64 ((ys[k]'hi2).b),o2] (ys[k]'hi2) _ (Node.mkR (xs[k]'hi1) (RdD.any (hd1.ext E))) (Node.mkR (ys[k]'hi2) (RdD.any (hd2.ext E)))) Z (fun _ w3 e2 hv=>?_)))
   subst hv
   replace E:=E.trans e2
   have z3:=e2.size
   refine Qa (Yy Z) Z (Qc (Qt Z (fun hc3=>?_) (fun hc3=>?_)))
   ·refine Qe (Qh [true] Z Z (Qa (Qf Z) Z (Qc (Qv (Q2 (Yv (Q2 (Qm Z Z E ?_))))))))
    exact Hm (by omega) (by omega) (by simpa using hc3)
   ·refine Qo (Q6 (Y0 (Qh [true,true,true] Z Z (Qa (Qd Z) Z (Qa (Ye Z Z (Y3 hc2n (hxs.ext E).1.1)) Z (Qa (Qf Z) Z (Qc (Q6 (Yk (k + 1) (by omega) ⟨Z,Z,Z,Z,trivial⟩ ⟨E,(by omega),(by omega),Vi hp (by assumption) (by omega) (by simpa using hc3)⟩)))))))))
  ·have hc2n : ¬ k < xs.length:=by first | (have h:=of_decide_eq_false hc2;omega) | (have h:=hc2;simp at h;omega)
   refine Yq (Q5 (Q3 ?_))
   refine Qe (Qh [true] Z Z (Qa (Qf Z) Z (Qc (Qv (Qm Z Z E ?_)))))
   exact Gc hp hc1n (by omega)

set_option maxRecDepth 20000 in
theorem c_szGraph (cx : List Value) (x : Graph) (n : Int) (w : World) (hx : Dat.R w 0 w.heap.size cx x) (h0 : 0 ≤ n ∧ n ≤ 1048576) : Ct Tryz.prog 14 [.agg cx.toArray,.int .i64 n] w (fun v _=>v = .int .i64 (Uk (Xe x) n)):=by
 refine Ym Tryz.func14 Z Tryz.ntmps14 Z ?_
 obtain ⟨o1,rfl,hd1⟩:=Graph.op hx
 refine Q8 [(0,.agg [o1,.int .i64 x.workers,.int .i64 x.cap].toArray),(1,.int .i64 n)] ⟨Z,Z,trivial⟩ ?_
 have E : Ext w w:=Ext.refl w
 refine Qe (Qh [false,true] Z Z (Y1 Z Z (fun b1 w1 e1 s1 h1=>?_)))
 have g_b1 : w.heap.size ≤ b1:=by have:=E.size;omega
 have y_b1:=h1.lt
 replace E:=E.trans e1
 have z1:=e1.size
 refine Qa (Qf Z) Z (Qc (Qe (Qh [true,true,true,false,true] Z Z (Qa (Qb fl24_0 Z) Z (Qa (Qk sc22 Z (h1.one 0 Z)) Z (Qa (Qd Z) Z (Qw Tryz.call53 Z (c_szNodeS o1 x.nodes n _ (RdD.any (hd1.ext E)) (by first | omega | (simp only [Qi];omega) | (rw [Qi];done) | (simp only [Qi];done))) Z (fun _ w2 e2 hv=>?_))))))))
 subst hv
 replace E:=E.trans e2;replace h1:=h1.ext e2
 have z2:=e2.size
 refine Qa (Qf Z) Z (Qc (Qe (Qe (Qh [true,true] Z Z (Qa (Qd Z) Z (Qa (Yi Z Z) Z (Qc (Qt Z (fun hc1=>?_) (fun hc1=>?_)))))))))
 ·have q1:=Uj hc1 (by omega)
  refine Qe (Qh [true] Z Z (Qa (Qf Z) Z (Qc (Qv (Qm Z Z E ?_)))))
  first | exact Kd (by unfold Xe;omega) | exact Ks (by unfold Xe;omega) (by unfold Xe;omega)
 ·have q2:=Ui hc1 (by omega)
  refine Qo (Qe (Qh [true,true] Z Z (Qa (Qd Z) Z (Qa (Qf Z) Z (Qc (Qv (Qm Z Z E ?_)))))))
  first | exact Kd (by unfold Xe;omega) | exact Ks (by unfold Xe;omega) (by unfold Xe;omega)

set_option maxRecDepth 20000 in
theorem c_eqGraph (cx : List Value) (x : Graph) (cy : List Value) (y : Graph) (w : World) (hx : Dat.R w 0 w.heap.size cx x) (hy : Dat.R w 0 w.heap.size cy y) : Ct Tryz.prog 30 [.agg cx.toArray,.agg cy.toArray] w (fun v _=>v = .bool (decide (x = y))):=by
 refine Ym Tryz.func30 Z Tryz.ntmps30 Z ?_
 obtain ⟨o1,rfl,hd1⟩:=Graph.op hx
 obtain ⟨o2,rfl,hd2⟩:=Graph.op hy
 refine Q8 [(0,.agg [o1,.int .i64 x.workers,.int .i64 x.cap].toArray),(1,.agg [o2,.int .i64 y.workers,.int .i64 y.cap].toArray)] ⟨Z,Z,trivial⟩ ?_
 have E : Ext w w:=Ext.refl w
 refine Qe (Qh [false,false,true] Z Z (Y1 Z Z (fun b1 w1 e1 s1 h1=>?_)))
 have g_b1 : w.heap.size ≤ b1:=by have:=E.size;omega
 have y_b1:=h1.lt
 replace E:=E.trans e1
 have z1:=e1.size
 refine Y1 Z Z (fun b2 w2 e2 s2 h2=>?_)
 have g_b2 : w.heap.size ≤ b2:=by have:=E.size;omega
 have y_b2:=h2.lt
 replace E:=E.trans e2;replace h1:=h1.ext e2
 have z2:=e2.size
 refine Qa (Qf Z) Z (Qc (Qe (Qe (Qh [true,true,true,true,false,true] Z Z (Qa (Qb Kw Z) Z (Qa (Qk Gn Z (h1.one 0 Z)) Z (Qa (Qb Kw Z) Z (Qa (Qk Gn Z (h2.one 0 Z)) Z (Qw Tryz.call72 Z (c_eqNodeS o1 x.nodes o2 y.nodes _ (RdD.any (hd1.ext E)) (RdD.any (hd2.ext E))) Z (fun _ w3 e3 hv=>?_))))))))))
 subst hv
 replace E:=E.trans e3;replace h1:=h1.ext e3;replace h2:=h2.ext e3
 have z3:=e3.size
 refine Qa (Yy Z) Z (Qc (Qt Z (fun hc1=>?_) (fun hc1=>?_)))
 ·refine Qe (Qh [true] Z Z (Qa (Qf Z) Z (Qc (Qv (Qm Z Z E ?_)))))
  cases x;cases y;simp_all
 ·refine Qo (Qe (Qe (Qh [true,true,true,true,true] Z Z (Qa (Qb Vf Z) Z (Qa (Qk Yt Z (h1.one 1 Z)) Z (Qa (Qb Vf Z) Z (Qa (Qk Yt Z (h2.one 1 Z)) Z (Qa (Yu Z Z) Z (Qc (Qt Z (fun hc2=>?_) (fun hc2=>?_)))))))))))
  ·refine Qe (Qh [true] Z Z (Qa (Qf Z) Z (Qc (Qv (Qm Z Z E ?_)))))
   cases x;cases y;simp_all
  ·refine Qo (Qe (Qe (Qh [true,true,true,true,true] Z Z (Qa (Qb T8 Z) Z (Qa (Qk Yt Z (h1.one 2 Z)) Z (Qa (Qb T8 Z) Z (Qa (Qk Yt Z (h2.one 2 Z)) Z (Qa (Yu Z Z) Z (Qc (Qt Z (fun hc3=>?_) (fun hc3=>?_)))))))))))
   ·refine Qe (Qh [true] Z Z (Qa (Qf Z) Z (Qc (Qv (Qm Z Z E ?_)))))
    cases x;cases y;simp_all
   ·refine Qo (Qe (Qh [true] Z Z (Qa (Qf Z) Z (Qc (Qv (Qm Z Z E ?_))))))
    cases x;cases y;simp_all

set_option maxRecDepth 20000 in
theorem c_toGraph (cx : List Value) (x : Graph) (w : World) (hx : Dat.R w 0 w.heap.size cx x) (hb : Xe x ≤ 1048576) : Ct Tryz.prog 21 [.agg cx.toArray] w (fun v w'=>∃ o,v = .agg [o,.int .i64 x.workers,.int .i64 x.cap].toArray ∧ OwS w' w.heap.size w'.heap.size o x.nodes):=by
 unfold Xe at hb
 refine Ym Tryz.func21 Z Tryz.ntmps21 Z ?_
 obtain ⟨o1,rfl,hd1⟩:=Graph.op hx
 refine Q8 [(0,.agg [o1,.int .i64 x.workers,.int .i64 x.cap].toArray)] ⟨Z,trivial⟩ ?_
 have E : Ext w w:=Ext.refl w
 refine Qe (Qh [false,false] Z Z (Y1 Z Z (fun b1 w1 e1 s1 h1=>?_)))
 have g_b1 : w.heap.size ≤ b1:=by have:=E.size;omega
 have y_b1:=h1.lt
 replace E:=E.trans e1
 have z1:=e1.size
 refine Yo Uq Z (fun b2 w2 e2 s2 h2=>?_)
 have g_b2 : w.heap.size ≤ b2:=by have:=E.size;omega
 have y_b2:=h2.lt
 replace E:=E.trans e2;replace h1:=h1.ext e2
 have z2:=e2.size
 refine Qc (Qe (Qh [false] Z Z (Yo Uq Z (fun b3 w3 e3 s3 h3=>?_))))
 have g_b3 : w.heap.size ≤ b3:=by have:=E.size;omega
 have y_b3:=h3.lt
 replace E:=E.trans e3;replace h1:=h1.ext e3;replace h2:=h2.ext e3
 have z3:=e3.size
 refine Qc (Qe (Qh [true,true,false,true,false] Z Z (Qa (Qb fl24_0 Z) Z (Qa (Qk sc22 Z (h1.one 0 Z)) Z (Qw Tryz.call61 Z (c_toNodeS o1 x.nodes _ (RdD.any (hd1.ext E)) (by first | omega | (simp only [Qi];omega) | (rw [Qi];done) | (simp only [Qi];done))) Z (fun v1 w4 e4 ho1=>?_))))))
 have g_ho1 : w.heap.size ≤ w3.heap.size:=E.size
 replace E:=E.trans e4;replace h1:=h1.ext e4;replace h2:=h2.ext e4;replace h3:=h3.ext e4
 have z4:=e4.size
 refine Qa (Qb Kw Z) Z (Yj (cs':=[v1,.int .i64 0,.int .i64 0]) Gn Z Z (RdD.one (OwS.rd ho1)) h3 (Nat.le_of_ble_eq_true Z) Z (fun w5 m1 h3'=>?_))
 replace h3:=h3'
 replace E:=E.step m1 (fun g hg=>by cases hg;omega);replace h1:=h1.mod m1 (fun g hg=>by cases hg;omega);replace h2:=h2.mod m1 (fun g hg=>by cases hg;omega);replace ho1:=ho1.mod m1 (fun g hg=>by cases hg;omega)
 have z5:=m1.size
 refine Qc (Qe (Qh [true,true,true,false] Z Z (Qa (Qb fl24_1 Z) Z (Qa (Qk Yt Z (h1.one 1 Z)) Z (Qa (Qb Vf Z) Z (Yj (cs':=[v1,.int .i64 x.workers,.int .i64 0]) Yt Z Z Z h3 (Nat.le_of_ble_eq_true Z) Z (fun w6 m2 h3'=>?_)))))))
 replace h3:=h3'
 replace E:=E.step m2 (fun g hg=>by cases hg;omega);replace h1:=h1.mod m2 (fun g hg=>by cases hg;omega);replace h2:=h2.mod m2 (fun g hg=>by cases hg;omega);replace ho1:=ho1.mod m2 (fun g hg=>by cases hg;omega)
 have z6:=m2.size
 refine Qc (Qe (Qh [true,true,true,false] Z Z (Qa (Qb fl24_2 Z) Z (Qa (Qk Yt Z (h1.one 2 Z)) Z (Qa (Qb T8 Z) Z (Yj (cs':=[v1,.int .i64 x.workers,.int .i64 x.cap]) Yt Z Z Z h3 (Nat.le_of_ble_eq_true Z) Z (fun w7 m3 h3'=>?_)))))))
 replace h3:=h3'
 replace E:=E.step m3 (fun g hg=>by cases hg;omega);replace h1:=h1.mod m3 (fun g hg=>by cases hg;omega);replace h2:=h2.mod m3 (fun g hg=>by cases hg;omega);replace ho1:=ho1.mod m3 (fun g hg=>by cases hg;omega)
 have z7:=m3.size
 refine Qc (Qe (Qh [true,false] Z Z (Qa (Qy Uq Z h3.at Z) Z (Q4 (cs':=[v1,.int .i64 x.workers,.int .i64 x.cap]) Uq Z Z Z (Qj (RdD.one (OwS.rd ho1)) (Qj Z (Qj Z Z))) h2 (Nat.le_of_ble_eq_true Z) Z (fun w8 m4 h2'=>?_)))))
 replace h2:=h2'
 replace E:=E.step m4 (fun g hg=>by cases hg;omega);replace h1:=h1.mod m4 (fun g hg=>by cases hg;omega);replace h3:=h3.mod m4 (fun g hg=>by cases hg;omega);replace ho1:=ho1.mod m4 (fun g hg=>by cases hg;omega)
 have z8:=m4.size
 refine Qc (Qv (X3 Z Z (Yd Uq h2.at Z) E ?_))
 exact ⟨_,Z,OwS.widen ho1 (by have:=E.size;omega) (by omega)⟩

set_option maxRecDepth 20000 in
theorem s_l01In (x : Int) (lo : Int) (hi : Int) (w : World)  : Ct Tryz.prog 106 [.int .i64 x,.int .i64 lo,.int .i64 hi] w (fun v _=>v = .bool (Yr x lo hi)):=by
 refine Ym Tryz.func106 Z Tryz.ntmps106 Z ?_
 refine Q8 [(0,.int .i64 x),(1,.int .i64 lo),(2,.int .i64 hi)] ⟨Z,Z,Z,trivial⟩ ?_
 have E : Ext w w:=Ext.refl w
 refine Qe (Qh [true] Z Z (Qa (Qf Z) Z (Qc (Qe (Qh [true,true,true,true,true,true,true,true,true] Z Z (Qa (Qd Z) Z (Qa (Qd Z) Z (Qa (Tt Z Z) Z (Qa (Qd Z) Z (Xf 4 [(0,.int .i64 x),(1,.int .i64 lo),(2,.int .i64 hi),(6,.bool false),(14,.bool ((decide (lo ≤ x)) && (decide (x ≤ hi))))] (fun w'=>w = w') ?_ ?_))))))))))
 ·refine Y4 (gd:=10) Z Z (fun hg1=>?_) (fun hg1=>?_)
  ·refine Qn Z Z (Qd Z) Z (Qn Z Z (Qd Z) Z (Qn Z Z (Dv Z Z) Z (Qa (Qx Z Z) Z (Qr ⟨Z,Z,Z,Z,congrArg (fun b=>some (Value.bool b)) (show (decide (x ≤ hi)) = ((decide (lo ≤ x)) && (decide (x ≤ hi))) by first | (rw [hg1] <;> rfl) | (simp [hg1];done) | (simp only [Qq] <;> simp)),trivial⟩ Z))))
  ·refine Qg Z Z Z Z (Qg Z Z Z Z (Qg Z Z Z Z (Qa (Q1 Z Z) Z (Qr ⟨Z,Z,Z,Z,congrArg (fun b=>some (Value.bool b)) (show false = ((decide (lo ≤ x)) && (decide (x ≤ hi))) by first | (rw [hg1] <;> rfl) | (simp [hg1];done) | (simp only [Qq] <;> simp)),trivial⟩ Z))))
 rintro _ rfl
 refine Qa (Qf Z) Z (Qc (Qv (Qm Z Z E ?_)))
 rfl

set_option maxRecDepth 20000 in
theorem c_within (x : Int) (lo : Int) (hi : Int) (w : World)  : Ct Tryz.prog 71 [.int .i64 x,.int .i64 lo,.int .i64 hi] w (fun v _=>v = .bool (Yr x lo hi)):=by
 refine Ym Tryz.func71 Z Tryz.ntmps71 Z ?_
 refine Q8 [(0,.int .i64 x),(1,.int .i64 lo),(2,.int .i64 hi)] ⟨Z,Z,Z,trivial⟩ ?_
 have E : Ext w w:=Ext.refl w
 refine Qe (Qh [true] Z Z (Qa (Qf Z) Z (Qc (Qe (Qh [true,true,true,true,true,true,true,true,true] Z Z (Qa (Qd Z) Z (Qa (Qd Z) Z (Qa (Tt Z Z) Z (Qa (Qd Z) Z (Xf 4 [(0,.int .i64 x),(1,.int .i64 lo),(2,.int .i64 hi),(6,.bool false),(14,.bool ((decide (lo ≤ x)) && (decide (x ≤ hi))))] (fun w'=>w = w') ?_ ?_))))))))))
 ·refine Y4 (gd:=10) Z Z (fun hg1=>?_) (fun hg1=>?_)
  ·refine Qn Z Z (Qd Z) Z (Qn Z Z (Qd Z) Z (Qn Z Z (Dv Z Z) Z (Qa (Qx Z Z) Z (Qr ⟨Z,Z,Z,Z,congrArg (fun b=>some (Value.bool b)) (show (decide (x ≤ hi)) = ((decide (lo ≤ x)) && (decide (x ≤ hi))) by first | (rw [hg1] <;> rfl) | (simp [hg1];done) | (simp only [Qq] <;> simp)),trivial⟩ Z))))
  ·refine Qg Z Z Z Z (Qg Z Z Z Z (Qg Z Z Z Z (Qa (Q1 Z Z) Z (Qr ⟨Z,Z,Z,Z,congrArg (fun b=>some (Value.bool b)) (show false = ((decide (lo ≤ x)) && (decide (x ≤ hi))) by first | (rw [hg1] <;> rfl) | (simp [hg1];done) | (simp only [Qq] <;> simp)),trivial⟩ Z))))
 rintro _ rfl
 refine Qa (Qf Z) Z (Qc (Qv (Qm Z Z E ?_)))
 rfl

set_option maxRecDepth 20000 in
theorem c_LinkPlace (cg : List Value) (g : Graph) (a : Int) (b : Int) (w : World) (hg : Dat.R w 0 w.heap.size cg g) : Ct Tryz.prog 50 [.agg cg.toArray,.int .i64 a,.int .i64 b] w (fun v _=>v = .int .i64 (Qu g a b)):=by
 refine Ym Tryz.func50 Z Tryz.ntmps50 Z ?_
 obtain ⟨o1,rfl,hd1⟩:=Graph.op hg
 refine Q8 [(0,.agg [o1,.int .i64 g.workers,.int .i64 g.cap].toArray),(1,.int .i64 a),(2,.int .i64 b)] ⟨Z,Z,Z,trivial⟩ ?_
 have E : Ext w w:=Ext.refl w
 refine Qe (Qh [false,true] Z Z (Y1 Z Z (fun b1 w1 e1 s1 h1=>?_)))
 have g_b1 : w.heap.size ≤ b1:=by have:=E.size;omega
 have y_b1:=h1.lt
 replace E:=E.trans e1
 have z1:=e1.size
 refine Qa (Qf Z) Z (Qc (Qe (Qe (Qh [true,true,true,true,true,true,true,true,true,true,true,true] Z Z (Qa (Qd Z) Z (Qa (Qd Z) Z (Qa (R_min Z Z) Z (Qa (Yi Z Z) Z (Qa (Qd Z) Z (Xf 7 [(0,.agg [o1,.int .i64 g.workers,.int .i64 g.cap].toArray),(1,.int .i64 a),(2,.int .i64 b),(3,.pointer (some ⟨b1,0,none⟩)),(6,.int .i64 0),(18,.bool ((decide ((if b < a then b else a) < 0)) || (decide (g.workers ≤ (if b > a then b else a)))))] (fun w'=>w1 = w') ?_ ?_))))))))))
 ·refine Y4 (gd:=11) Z Z (fun hg1=>?_) (fun hg1=>?_)
  ·refine Qg Z Z Z Z (Qg Z Z Z Z (Qg Z Z Z Z (Qg Z Z Z Z (Qg Z Z Z Z (Qg Z Z Z Z (Qa (Qx Z Z) Z (Qr ⟨Z,Z,Z,Z,Z,congrArg (fun b=>some (Value.bool b)) (show true = ((decide ((if b < a then b else a) < 0)) || (decide (g.workers ≤ (if b > a then b else a)))) by first | (rw [hg1] <;> rfl) | (simp [hg1];done) | (simp only [Qq] <;> simp)),trivial⟩ Z)))))))
  ·refine Qn Z Z (Qd Z) Z (Qn Z Z (Qd Z) Z (Qn Z Z (R_max Z Z) Z (Qn Z Z (Qb Vf Z) Z (Qn Z Z (Qk Yt Z (h1.one 1 Z)) Z (Qn Z Z (Tt Z Z) Z (Qa (Q1 Z Z) Z (Qr ⟨Z,Z,Z,Z,Z,congrArg (fun b=>some (Value.bool b)) (show (decide (g.workers ≤ (if b > a then b else a))) = ((decide ((if b < a then b else a) < 0)) || (decide (g.workers ≤ (if b > a then b else a)))) by first | (rw [hg1] <;> rfl) | (simp [hg1];done) | (simp only [Qq] <;> simp)),trivial⟩ Z)))))))
 rintro _ rfl
 refine Qc (Qt Z (fun hc1=>?_) (fun hc1=>?_))
 ·refine Qe (Qh [true] Z Z (Qa (Qf Z) Z (Qc (Qv (Qm Z Z E ?_)))))
  exact link_a hc1
 ·refine Qo (Qe (Qh [true,true,true,true,true,true,true] Z Z (Qa (Qd Z) Z (Qa (Qb Vf Z) Z (Qa (Qk Yt Z (h1.one 1 Z)) Z (Qa (R_mul Z Z Z) Z (Qa (Qd Z) Z (Qa (Ye Z Z Z) Z (Qa (Qf Z) Z (Qc (Qv (Qm Z Z E ?_))))))))))))
  exact link_b hc1

set_option maxRecDepth 20000 in
theorem s_LinkPlace (cg : List Value) (g : Graph) (a : Int) (b : Int) (w : World) (hg : Dat.R w 0 w.heap.size cg g) (hw : rg g.workers) : Ct Tryz.prog 58 [.agg cg.toArray,.int .i64 a,.int .i64 b] w (fun v _=>v = .int .i64 (Qu g a b)):=by
 refine Ym Tryz.func58 Z Tryz.ntmps58 Z ?_
 obtain ⟨o1,rfl,hd1⟩:=Graph.op hg
 refine Q8 [(0,.agg [o1,.int .i64 g.workers,.int .i64 g.cap].toArray),(1,.int .i64 a),(2,.int .i64 b)] ⟨Z,Z,Z,trivial⟩ ?_
 have E : Ext w w:=Ext.refl w
 refine Qe (Qh [false,true] Z Z (Y1 Z Z (fun b1 w1 e1 s1 h1=>?_)))
 have g_b1 : w.heap.size ≤ b1:=by have:=E.size;omega
 have y_b1:=h1.lt
 replace E:=E.trans e1
 have z1:=e1.size
 refine Qa (Qf Z) Z (Qc (Qe (Qe (Qh [true,true,true,true,false,true,true,true,true,true,true,false,true,true,true,true,true,true,true] Z Z (Qa (Qd Z) Z (Qa (Qb Vf Z) Z (Qa (Qk Yt Z (h1.one 1 Z)) Z (Qa (K6 Z Z Z) Z (Qw Tryz.call106 Z (s_l01In a 0 (IntKind.i64.wrap (g.workers - 1)) _ ) Z (fun _ w2 e2 hv=>?_))))))))))
 subst hv
 replace E:=E.trans e2;replace h1:=h1.ext e2
 have z2:=e2.size
 refine Qa (Yy Z) Z (Qa (Qd Z) Z (Xf 12 [(0,.agg [o1,.int .i64 g.workers,.int .i64 g.cap].toArray),(1,.int .i64 a),(2,.int .i64 b),(3,.pointer (some ⟨b1,0,none⟩)),(6,.int .i64 0),(25,.bool (((!(Yr a 0 (IntKind.i64.wrap (g.workers - 1)))) || (!(Yr b 0 (IntKind.i64.wrap (g.workers - 1))))) || (decide (g.workers < 1))))] (fun w'=>Ext w w' ∧ w2.heap.size ≤ w'.heap.size ∧ Blk w' b1 ([o1,.int .i64 g.workers,.int .i64 g.cap])) ?_ ?_))
 ·refine Y4 (gd:=13) Z Z (fun hg1=>?_) (fun hg1=>?_)
  ·refine Qg Z Z Z Z (Qg Z Z Z Z (Qg Z Z Z Z (Qg Z Z Z Z ?_)))
   refine Yx Z Z Z Z ?_
   refine Qg Z Z Z Z (Qa (Qx Z Z) Z (Qa (Qd Z) Z (Qg Z Z Z Z (Qg Z Z Z Z (Qg Z Z Z Z (Qa (Qx Z Z) Z (Qr ⟨Z,Z,Z,Z,Z,congrArg (fun b=>some (Value.bool b)) (show true = (((!(Yr a 0 (IntKind.i64.wrap (g.workers - 1)))) || (!(Yr b 0 (IntKind.i64.wrap (g.workers - 1))))) || (decide (g.workers < 1))) by first | (rw [hg1] <;> rfl) | (simp [hg1];done) | (simp only [Qq] <;> simp)),trivial⟩ ⟨E,(by omega),h1⟩)))))))
  ·refine Qn Z Z (Qd Z) Z (Qn Z Z (Qb Vf Z) Z (Qn Z Z (Qk Yt Z (h1.one 1 Z)) Z (Qn Z Z (K6 Z Z Z) Z ?_)))
   refine X2 Z Z ?_
   refine Qw Tryz.call106 Z (s_l01In b 0 (IntKind.i64.wrap (g.workers - 1)) _ ) Z (fun _ w4 e3 hv=>?_)
   subst hv
   replace E:=E.trans e3;replace h1:=h1.ext e3
   have z3:=e3.size
   refine Qn Z Z (Yy Z) Z (Qa (Q1 Z Z) Z (Qa (Qd Z) Z ?_))
   refine Y4 (gd:=21) Z Z (fun hg2=>?_) (fun hg2=>?_)
   ·refine Qg Z Z Z Z (Qg Z Z Z Z (Qg Z Z Z Z (Qa (Qx Z Z) Z (Qr ⟨Z,Z,Z,Z,Z,congrArg (fun b=>some (Value.bool b)) (show true = (((!(Yr a 0 (IntKind.i64.wrap (g.workers - 1)))) || (!(Yr b 0 (IntKind.i64.wrap (g.workers - 1))))) || (decide (g.workers < 1))) by first | (rw [hg1,hg2] <;> rfl) | (simp [hg1,hg2];done) | (simp only [Qq] <;> simp)),trivial⟩ ⟨E,(by omega),h1⟩))))
   ·refine Qn Z Z (Qb Vf Z) Z (Qn Z Z (Qk Yt Z (h1.one 1 Z)) Z (Qn Z Z (Yi Z Z) Z (Qa (Q1 Z Z) Z (Qr ⟨Z,Z,Z,Z,Z,congrArg (fun b=>some (Value.bool b)) (show (decide (g.workers < 1)) = (((!(Yr a 0 (IntKind.i64.wrap (g.workers - 1)))) || (!(Yr b 0 (IntKind.i64.wrap (g.workers - 1))))) || (decide (g.workers < 1))) by first | (rw [hg1,hg2] <;> rfl) | (simp [hg1,hg2];done) | (simp only [Qq] <;> simp)),trivial⟩ ⟨E,(by omega),h1⟩))))
 clear E h1
 rintro w3 ⟨E,z4,h1⟩
 refine Qc (Qt Z (fun hc1=>?_) (fun hc1=>?_))
 ·refine Qe (Qh [true] Z Z (Qa (Qf Z) Z (Qc (Qv (Qm Z Z E ?_)))))
  exact link_c hw hc1
 ·refine Qo (Qe (Qh [true,true,true,true,true,true,true] Z Z (Qa (Qd Z) Z (Qa (Qb Vf Z) Z (Qa (Qk Yt Z (h1.one 1 Z)) Z (Qa (R_mul Z Z Z) Z (Qa (Qd Z) Z (Qa (Ye Z Z Z) Z (Qa (Qf Z) Z (Qc (Qv (Qm Z Z E ?_))))))))))))
  exact link_d hw hc1

set_option maxHeartbeats 4000000 in
set_option maxRecDepth 20000 in
theorem c_NodeOk (cx : List Value) (x : Node) (w : World) (hx : Dat.R w 0 w.heap.size cx x) : Ct Tryz.prog 134 [.agg cx.toArray] w (fun v _=>v = .bool (Ke x)):=by
 refine Ym Tryz.func134 Z Tryz.ntmps134 Z ?_
 obtain ⟨o1,rfl,hd1⟩:=Node.op hx
 refine Q8 [(0,.agg [.int .i64 x.kind,.int .i64 x.a,.int .i64 x.b,o1].toArray)] ⟨Z,trivial⟩ ?_
 have E : Ext w w:=Ext.refl w
 refine Qe (Qh [false,true] Z Z (Y1 Z Z (fun b1 w1 e1 s1 h1=>?_)))
 have g_b1 : w.heap.size ≤ b1:=by have:=E.size;omega
 have y_b1:=h1.lt
 replace E:=E.trans e1
 have z1:=e1.size
 refine Qa (Qf Z) Z (Qc (Qe (Qe (Qh [true,true] Z Z (Qa (Qb Kj Z) Z (Qa (Qk Yt Z (h1.one 0 Z)) Z (Qc (S_cutG (fun (_ : Unit)=>[(1,.pointer (some ⟨b1,0,none⟩)),(2,.bool false)]) (fun (_ : Unit) w'=>Ext w w' ∧ w1.heap.size ≤ w'.heap.size ∧ Blk w' b1 ([.int .i64 x.kind,.int .i64 x.a,.int .i64 x.b,o1]) ∧ U1 x = true) ?_ ?_))))))))
 ·refine Q0 (Qe (Qh [true,true] Z Z (Qa (Xm Z Z) Z (Qa (Qf Z) Z (Qc (Qt Z (fun hc1=>?_) (fun hc1=>?_)))))))
  ·refine Qe (Qh [true,true,false,true,true,true,true,true,true] Z Z (Qa (Qb Kx Z) Z (Qa (Qk Yt Z (h1.one 1 Z)) Z (Qw Tryz.call71 Z (c_within x.a 0 999 _ ) Z (fun _ w2 e2 hv=>?_)))))
   subst hv
   replace E:=E.trans e2;replace h1:=h1.ext e2
   have z3:=e2.size
   refine Qa (Yy Z) Z (Qa (Qd Z) Z (Xf 4 [(0,.agg [.int .i64 x.kind,.int .i64 x.a,.int .i64 x.b,o1].toArray),(1,.pointer (some ⟨b1,0,none⟩)),(2,.bool false),(5,.pointer (some ⟨b1,0,none⟩)),(6,.int .i64 x.kind),(7,.bool (x.kind == 2)),(8,.bool (x.kind == 2)),(17,.bool ((!(Yr x.a 0 999)) || (x.b != 0)))] (fun w'=>w2 = w') ?_ ?_))
   ·refine Y4 (gd:=13) Z Z (fun hg1=>?_) (fun hg1=>?_)
    ·refine Qg Z Z Z Z (Qg Z Z Z Z (Qg Z Z Z Z (Qa (Qx Z Z) Z (Qr ⟨Z,Z,Z,Z,Z,Z,Z,congrArg (fun b=>some (Value.bool b)) (show true = ((!(Yr x.a 0 999)) || (x.b != 0)) by first | (rw [hg1] <;> rfl) | (simp [hg1];done) | (simp only [Qq] <;> simp)),trivial⟩ Z))))
    ·refine Qn Z Z (Qb Ut Z) Z (Qn Z Z (Qk Yt Z (h1.one 2 Z)) Z (Qn Z Z (Yu Z Z) Z (Qa (Q1 Z Z) Z (Qr ⟨Z,Z,Z,Z,Z,Z,Z,congrArg (fun b=>some (Value.bool b)) (show (x.b != 0) = ((!(Yr x.a 0 999)) || (x.b != 0)) by first | (rw [hg1] <;> rfl) | (simp [hg1];done) | (simp only [Qq] <;> simp)),trivial⟩ Z))))
   rintro _ rfl
   refine Qc (Qt Z (fun hc2=>?_) (fun hc2=>?_))
   ·refine Qe (Qh [true] Z Z (Qa (Qf Z) Z (Qc (Qv (Q2 (Va (Qm Z Z E ?_)))))))
    exact Hj (by rw [node_2 (by assumption)];exact kx (by assumption))
   ·refine Qo (Q6 (Y0 (Q6 (Gl () ⟨Z,Z,trivial⟩ ⟨E,(by omega),h1,(by rw [node_2 (by assumption)];exact ky (by assumption))⟩))))
  ·refine Qe (Qh [true,true] Z Z (Qa (Xm Z Z) Z (Qa (Qf Z) Z (Qc (Qt Z (fun hc3=>?_) (fun hc3=>?_))))))
   ·refine Qe (Qh [true,true,false,true,true,true,true,true,true,true,false,true,true] Z Z (Qa (Qb Kx Z) Z (Qa (Qk Yt Z (h1.one 1 Z)) Z (Qw Tryz.call71 Z (c_within x.a 1 10 _ ) Z (fun _ w4 e3 hv=>?_)))))
    subst hv
    replace E:=E.trans e3;replace h1:=h1.ext e3
    have z4:=e3.size
    refine Qa (Yy Z) Z (Qa (Qd Z) Z (Xf 8 [(0,.agg [.int .i64 x.kind,.int .i64 x.a,.int .i64 x.b,o1].toArray),(1,.pointer (some ⟨b1,0,none⟩)),(2,.bool false),(5,.pointer (some ⟨b1,0,none⟩)),(6,.int .i64 x.kind),(7,.bool (x.kind == 2)),(8,.bool (x.kind == 2)),(18,.bool (x.kind == 3)),(19,.bool (x.kind == 3)),(32,.bool ((!(Yr x.a 1 10)) || (!(Yr x.b 0 (IntKind.i64.wrap (x.a - 1))))))] (fun w'=>Ext w w' ∧ w4.heap.size ≤ w'.heap.size ∧ Blk w' b1 ([.int .i64 x.kind,.int .i64 x.a,.int .i64 x.b,o1])) ?_ ?_))
    ·refine Y4 (gd:=24) Z Z (fun hg2=>?_) (fun hg2=>?_)
     ·refine Qg Z Z Z Z (Qg Z Z Z Z (Qg Z Z Z Z (Qg Z Z Z Z (Qg Z Z Z Z ?_))))
      refine Yx Z Z Z Z ?_
      refine Qg Z Z Z Z (Qa (Qx Z Z) Z (Qr ⟨Z,Z,Z,Z,Z,Z,Z,Z,Z,congrArg (fun b=>some (Value.bool b)) (show true = ((!(Yr x.a 1 10)) || (!(Yr x.b 0 (IntKind.i64.wrap (x.a - 1))))) by first | (rw [hg2] <;> rfl) | (simp [hg2];done) | (simp only [Qq] <;> simp)),trivial⟩ ⟨E,(by omega),h1⟩))
     ·refine Qn Z Z (Qb Ut Z) Z (Qn Z Z (Qk Yt Z (h1.one 2 Z)) Z (Qn Z Z (Qb Kx Z) Z (Qn Z Z (Qk Yt Z (h1.one 1 Z)) Z (Qn Z Z (K6 Z Z Z) Z ?_))))
      refine X2 Z Z ?_
      refine Qw Tryz.call71 Z (c_within x.b 0 (IntKind.i64.wrap (x.a - 1)) _ ) Z (fun _ w6 e4 hv=>?_)
      subst hv
      replace E:=E.trans e4;replace h1:=h1.ext e4
      have z5:=e4.size
      refine Qn Z Z (Yy Z) Z (Qa (Q1 Z Z) Z (Qr ⟨Z,Z,Z,Z,Z,Z,Z,Z,Z,congrArg (fun b=>some (Value.bool b)) (show (!(Yr x.b 0 (IntKind.i64.wrap (x.a - 1)))) = ((!(Yr x.a 1 10)) || (!(Yr x.b 0 (IntKind.i64.wrap (x.a - 1))))) by first | (rw [hg2] <;> rfl) | (simp [hg2];done) | (simp only [Qq] <;> simp)),trivial⟩ ⟨E,(by omega),h1⟩))
    clear E h1
    rintro w5 ⟨E,z6,h1⟩
    refine Qc (Qt Z (fun hc4=>?_) (fun hc4=>?_))
    ·refine Qe (Qh [true] Z Z (Qa (Qf Z) Z (Qc (Qv (Q2 (Va (Qm Z Z E ?_)))))))
     exact Hj (by rw [node_3 (by assumption)];exact kx (by assumption))
    ·refine Qo (Q6 (Y0 (Q6 (Gl () ⟨Z,Z,trivial⟩ ⟨E,(by omega),h1,(by rw [node_3 (by assumption)];exact ky (by assumption))⟩))))
   ·refine Qe (Qh [true,true] Z Z (Qa (Xm Z Z) Z (Qa (Qf Z) Z (Qc (Qt Z (fun hc5=>?_) (fun hc5=>?_))))))
    ·refine Qe (Qh [true,true,false,true,true,true,true,true,true] Z Z (Qa (Qb Kx Z) Z (Qa (Qk Yt Z (h1.one 1 Z)) Z (Qw Tryz.call71 Z (c_within x.a 0 99 _ ) Z (fun _ w7 e5 hv=>?_)))))
     subst hv
     replace E:=E.trans e5;replace h1:=h1.ext e5
     have z7:=e5.size
     refine Qa (Yy Z) Z (Qa (Qd Z) Z (Xf 4 [(0,.agg [.int .i64 x.kind,.int .i64 x.a,.int .i64 x.b,o1].toArray),(1,.pointer (some ⟨b1,0,none⟩)),(2,.bool false),(5,.pointer (some ⟨b1,0,none⟩)),(6,.int .i64 x.kind),(7,.bool (x.kind == 2)),(8,.bool (x.kind == 2)),(18,.bool (x.kind == 3)),(19,.bool (x.kind == 3)),(33,.bool (x.kind == 4)),(34,.bool (x.kind == 4)),(43,.bool ((!(Yr x.a 0 99)) || (x.b != 0)))] (fun w'=>w7 = w') ?_ ?_))
     ·refine Y4 (gd:=39) Z Z (fun hg3=>?_) (fun hg3=>?_)
      ·refine Qg Z Z Z Z (Qg Z Z Z Z (Qg Z Z Z Z (Qa (Qx Z Z) Z (Qr ⟨Z,Z,Z,Z,Z,Z,Z,Z,Z,Z,Z,congrArg (fun b=>some (Value.bool b)) (show true = ((!(Yr x.a 0 99)) || (x.b != 0)) by first | (rw [hg3] <;> rfl) | (simp [hg3];done) | (simp only [Qq] <;> simp)),trivial⟩ Z))))
      ·refine Qn Z Z (Qb Ut Z) Z (Qn Z Z (Qk Yt Z (h1.one 2 Z)) Z (Qn Z Z (Yu Z Z) Z (Qa (Q1 Z Z) Z (Qr ⟨Z,Z,Z,Z,Z,Z,Z,Z,Z,Z,Z,congrArg (fun b=>some (Value.bool b)) (show (x.b != 0) = ((!(Yr x.a 0 99)) || (x.b != 0)) by first | (rw [hg3] <;> rfl) | (simp [hg3];done) | (simp only [Qq] <;> simp)),trivial⟩ Z))))
     rintro _ rfl
     refine Qc (Qt Z (fun hc6=>?_) (fun hc6=>?_))
     ·refine Qe (Qh [true] Z Z (Qa (Qf Z) Z (Qc (Qv (Q2 (Va (Qm Z Z E ?_)))))))
      exact Hj (by rw [node_4 (by assumption)];exact kx (by assumption))
     ·refine Qo (Q6 (Y0 (Q6 (Gl () ⟨Z,Z,trivial⟩ ⟨E,(by omega),h1,(by rw [node_4 (by assumption)];exact ky (by assumption))⟩))))
    ·refine Qe (Qe (Qh [true,true] Z Z (Qa (Xm Z Z) Z (Qa (Qf Z) Z (Qc (Qt Z (fun hc7=>?_) (fun hc7=>?_)))))))
     ·refine Qo (An Z hc7 (Qe (Qh [true,true,true,true,true,true,true,true] Z Z (Qa (Qb Kx Z) Z (Qa (Qk Yt Z (h1.one 1 Z)) Z (Qa (Yu Z Z) Z (Qa (Qd Z) Z (Xf 4 [(0,.agg [.int .i64 x.kind,.int .i64 x.a,.int .i64 x.b,o1].toArray),(1,.pointer (some ⟨b1,0,none⟩)),(2,.bool false),(5,.pointer (some ⟨b1,0,none⟩)),(6,.int .i64 x.kind),(7,.bool (x.kind == 2)),(8,.bool (x.kind == 2)),(18,.bool (x.kind == 3)),(19,.bool (x.kind == 3)),(33,.bool (x.kind == 4)),(34,.bool (x.kind == 4)),(44,.bool (x.kind == 1)),(45,.bool (x.kind == 1)),(57,.bool ((x.a != 0) || (x.b != 0)))] (fun w'=>w1 = w') ?_ ?_))))))))
      ·refine Y4 (gd:=53) Z Z (fun hg4=>?_) (fun hg4=>?_)
       ·refine Qg Z Z Z Z (Qg Z Z Z Z (Qg Z Z Z Z (Qa (Qx Z Z) Z (Qr ⟨Z,Z,Z,Z,Z,Z,Z,Z,Z,Z,Z,Z,Z,congrArg (fun b=>some (Value.bool b)) (show true = ((x.a != 0) || (x.b != 0)) by first | (rw [hg4] <;> rfl) | (simp [hg4];done) | (simp only [Qq] <;> simp)),trivial⟩ Z))))
       ·refine Qn Z Z (Qb Ut Z) Z (Qn Z Z (Qk Yt Z (h1.one 2 Z)) Z (Qn Z Z (Yu Z Z) Z (Qa (Q1 Z Z) Z (Qr ⟨Z,Z,Z,Z,Z,Z,Z,Z,Z,Z,Z,Z,Z,congrArg (fun b=>some (Value.bool b)) (show (x.b != 0) = ((x.a != 0) || (x.b != 0)) by first | (rw [hg4] <;> rfl) | (simp [hg4];done) | (simp only [Qq] <;> simp)),trivial⟩ Z))))
      rintro _ rfl
      refine Qc (Qt Z (fun hc8=>?_) (fun hc8=>?_))
      ·refine Qe (Qh [true] Z Z (Qa (Qf Z) Z (Qc (Qv (Q2 (Va (Qm Z Z E ?_)))))))
       exact Hj (by rw [Gj (by assumption) (by assumption) (by assumption)];exact kx0 (by assumption))
      ·refine Qo (Q6 (Y0 (Q6 (Gl () ⟨Z,Z,trivial⟩ ⟨E,(by omega),h1,(by rw [Gj (by assumption) (by assumption) (by assumption)];exact ky0 (by assumption) (Gd (by simp at *;omega)))⟩))))
     ·refine Qe (Qh [true,true] Z Z (Qa (Xm Z Z) Z (Qa (Qf Z) Z (Qc (Qt Z (fun hc9=>?_) (fun hc9=>?_))))))
      ·refine Qo (An Z hc9 (Qe (Qh [true,true,true,true,true,true,true,true] Z Z (Qa (Qb Kx Z) Z (Qa (Qk Yt Z (h1.one 1 Z)) Z (Qa (Yu Z Z) Z (Qa (Qd Z) Z (Xf 4 [(0,.agg [.int .i64 x.kind,.int .i64 x.a,.int .i64 x.b,o1].toArray),(1,.pointer (some ⟨b1,0,none⟩)),(2,.bool false),(5,.pointer (some ⟨b1,0,none⟩)),(6,.int .i64 x.kind),(7,.bool (x.kind == 2)),(8,.bool (x.kind == 2)),(18,.bool (x.kind == 3)),(19,.bool (x.kind == 3)),(33,.bool (x.kind == 4)),(34,.bool (x.kind == 4)),(44,.bool (x.kind == 5)),(45,.bool (x.kind == 1)),(46,.bool (x.kind == 5)),(57,.bool ((x.a != 0) || (x.b != 0)))] (fun w'=>w1 = w') ?_ ?_))))))))
       ·refine Y4 (gd:=53) Z Z (fun hg5=>?_) (fun hg5=>?_)
        ·refine Qg Z Z Z Z (Qg Z Z Z Z (Qg Z Z Z Z (Qa (Qx Z Z) Z (Qr ⟨Z,Z,Z,Z,Z,Z,Z,Z,Z,Z,Z,Z,Z,Z,congrArg (fun b=>some (Value.bool b)) (show true = ((x.a != 0) || (x.b != 0)) by first | (rw [hg5] <;> rfl) | (simp [hg5];done) | (simp only [Qq] <;> simp)),trivial⟩ Z))))
        ·refine Qn Z Z (Qb Ut Z) Z (Qn Z Z (Qk Yt Z (h1.one 2 Z)) Z (Qn Z Z (Yu Z Z) Z (Qa (Q1 Z Z) Z (Qr ⟨Z,Z,Z,Z,Z,Z,Z,Z,Z,Z,Z,Z,Z,Z,congrArg (fun b=>some (Value.bool b)) (show (x.b != 0) = ((x.a != 0) || (x.b != 0)) by first | (rw [hg5] <;> rfl) | (simp [hg5];done) | (simp only [Qq] <;> simp)),trivial⟩ Z))))
       rintro _ rfl
       refine Qc (Qt Z (fun hc10=>?_) (fun hc10=>?_))
       ·refine Qe (Qh [true] Z Z (Qa (Qf Z) Z (Qc (Qv (Q2 (Va (Qm Z Z E ?_)))))))
        exact Hj (by rw [Gj (by assumption) (by assumption) (by assumption)];exact kx0 (by assumption))
       ·refine Qo (Q6 (Y0 (Q6 (Gl () ⟨Z,Z,trivial⟩ ⟨E,(by omega),h1,(by rw [Gj (by assumption) (by assumption) (by assumption)];exact ky0 (by assumption) (Gd (by simp at *;omega)))⟩))))
      ·refine Qe (Qh [true,true] Z Z (Qa (Xm Z Z) Z (Qa (Qf Z) Z (Qc (Qt Z (fun hc11=>?_) (fun hc11=>?_))))))
       ·refine Qo (An Z hc11 (Qe (Qh [true,true,true,true,true,true,true,true] Z Z (Qa (Qb Kx Z) Z (Qa (Qk Yt Z (h1.one 1 Z)) Z (Qa (Yu Z Z) Z (Qa (Qd Z) Z (Xf 4 [(0,.agg [.int .i64 x.kind,.int .i64 x.a,.int .i64 x.b,o1].toArray),(1,.pointer (some ⟨b1,0,none⟩)),(2,.bool false),(5,.pointer (some ⟨b1,0,none⟩)),(6,.int .i64 x.kind),(7,.bool (x.kind == 2)),(8,.bool (x.kind == 2)),(18,.bool (x.kind == 3)),(19,.bool (x.kind == 3)),(33,.bool (x.kind == 4)),(34,.bool (x.kind == 4)),(44,.bool (x.kind == 6)),(45,.bool (x.kind == 1)),(46,.bool (x.kind == 5)),(47,.bool (x.kind == 6)),(57,.bool ((x.a != 0) || (x.b != 0)))] (fun w'=>w1 = w') ?_ ?_))))))))
        ·refine Y4 (gd:=53) Z Z (fun hg6=>?_) (fun hg6=>?_)
         ·refine Qg Z Z Z Z (Qg Z Z Z Z (Qg Z Z Z Z (Qa (Qx Z Z) Z (Qr ⟨Z,Z,Z,Z,Z,Z,Z,Z,Z,Z,Z,Z,Z,Z,Z,congrArg (fun b=>some (Value.bool b)) (show true = ((x.a != 0) || (x.b != 0)) by first | (rw [hg6] <;> rfl) | (simp [hg6];done) | (simp only [Qq] <;> simp)),trivial⟩ Z))))
         ·refine Qn Z Z (Qb Ut Z) Z (Qn Z Z (Qk Yt Z (h1.one 2 Z)) Z (Qn Z Z (Yu Z Z) Z (Qa (Q1 Z Z) Z (Qr ⟨Z,Z,Z,Z,Z,Z,Z,Z,Z,Z,Z,Z,Z,Z,Z,congrArg (fun b=>some (Value.bool b)) (show (x.b != 0) = ((x.a != 0) || (x.b != 0)) by first | (rw [hg6] <;> rfl) | (simp [hg6];done) | (simp only [Qq] <;> simp)),trivial⟩ Z))))
        rintro _ rfl
        refine Qc (Qt Z (fun hc12=>?_) (fun hc12=>?_))
        ·refine Qe (Qh [true] Z Z (Qa (Qf Z) Z (Qc (Qv (Q2 (Va (Qm Z Z E ?_)))))))
         exact Hj (by rw [Gj (by assumption) (by assumption) (by assumption)];exact kx0 (by assumption))
        ·refine Qo (Q6 (Y0 (Q6 (Gl () ⟨Z,Z,trivial⟩ ⟨E,(by omega),h1,(by rw [Gj (by assumption) (by assumption) (by assumption)];exact ky0 (by assumption) (Gd (by simp at *;omega)))⟩))))
       ·refine Qe (Qh [true,true] Z Z (Qa (Xm Z Z) Z (Qa (Qf Z) Z (Qc (Qt Z (fun hc13=>?_) (fun hc13=>?_))))))
        ·refine Qo (An Z hc13 (Qe (Qh [true,true,true,true,true,true,true,true] Z Z (Qa (Qb Kx Z) Z (Qa (Qk Yt Z (h1.one 1 Z)) Z (Qa (Yu Z Z) Z (Qa (Qd Z) Z (Xf 4 [(0,.agg [.int .i64 x.kind,.int .i64 x.a,.int .i64 x.b,o1].toArray),(1,.pointer (some ⟨b1,0,none⟩)),(2,.bool false),(5,.pointer (some ⟨b1,0,none⟩)),(6,.int .i64 x.kind),(7,.bool (x.kind == 2)),(8,.bool (x.kind == 2)),(18,.bool (x.kind == 3)),(19,.bool (x.kind == 3)),(33,.bool (x.kind == 4)),(34,.bool (x.kind == 4)),(44,.bool (x.kind == 7)),(45,.bool (x.kind == 1)),(46,.bool (x.kind == 5)),(47,.bool (x.kind == 6)),(48,.bool (x.kind == 7)),(57,.bool ((x.a != 0) || (x.b != 0)))] (fun w'=>w1 = w') ?_ ?_))))))))
         ·refine Y4 (gd:=53) Z Z (fun hg7=>?_) (fun hg7=>?_)
          ·refine Qg Z Z Z Z (Qg Z Z Z Z (Qg Z Z Z Z (Qa (Qx Z Z) Z (Qr ⟨Z,Z,Z,Z,Z,Z,Z,Z,Z,Z,Z,Z,Z,Z,Z,Z,congrArg (fun b=>some (Value.bool b)) (show true = ((x.a != 0) || (x.b != 0)) by first | (rw [hg7] <;> rfl) | (simp [hg7];done) | (simp only [Qq] <;> simp)),trivial⟩ Z))))
          ·refine Qn Z Z (Qb Ut Z) Z (Qn Z Z (Qk Yt Z (h1.one 2 Z)) Z (Qn Z Z (Yu Z Z) Z (Qa (Q1 Z Z) Z (Qr ⟨Z,Z,Z,Z,Z,Z,Z,Z,Z,Z,Z,Z,Z,Z,Z,Z,congrArg (fun b=>some (Value.bool b)) (show (x.b != 0) = ((x.a != 0) || (x.b != 0)) by first | (rw [hg7] <;> rfl) | (simp [hg7];done) | (simp only [Qq] <;> simp)),trivial⟩ Z))))
         rintro _ rfl
         refine Qc (Qt Z (fun hc14=>?_) (fun hc14=>?_))
         ·refine Qe (Qh [true] Z Z (Qa (Qf Z) Z (Qc (Qv (Q2 (Va (Qm Z Z E ?_)))))))
          exact Hj (by rw [Gj (by assumption) (by assumption) (by assumption)];exact kx0 (by assumption))
         ·refine Qo (Q6 (Y0 (Q6 (Gl () ⟨Z,Z,trivial⟩ ⟨E,(by omega),h1,(by rw [Gj (by assumption) (by assumption) (by assumption)];exact ky0 (by assumption) (Gd (by simp at *;omega)))⟩))))
        ·refine Qh [true,true] Z Z (Qa (Xm Z Z) Z (Qa (Qf Z) Z (Qc (Qt Z (fun hc15=>?_) (fun hc15=>?_)))))
         ·refine Qe (Qh [true,true,true,true,true,true,true,true] Z Z (Qa (Qb Kx Z) Z (Qa (Qk Yt Z (h1.one 1 Z)) Z (Qa (Yu Z Z) Z (Qa (Qd Z) Z (Xf 4 [(0,.agg [.int .i64 x.kind,.int .i64 x.a,.int .i64 x.b,o1].toArray),(1,.pointer (some ⟨b1,0,none⟩)),(2,.bool false),(5,.pointer (some ⟨b1,0,none⟩)),(6,.int .i64 x.kind),(7,.bool (x.kind == 2)),(8,.bool (x.kind == 2)),(18,.bool (x.kind == 3)),(19,.bool (x.kind == 3)),(33,.bool (x.kind == 4)),(34,.bool (x.kind == 4)),(44,.bool (x.kind == 8)),(45,.bool (x.kind == 1)),(46,.bool (x.kind == 5)),(47,.bool (x.kind == 6)),(48,.bool (x.kind == 7)),(49,.bool (x.kind == 8)),(57,.bool ((x.a != 0) || (x.b != 0)))] (fun w'=>w1 = w') ?_ ?_))))))
          ·refine Y4 (gd:=53) Z Z (fun hg8=>?_) (fun hg8=>?_)
           ·refine Qg Z Z Z Z (Qg Z Z Z Z (Qg Z Z Z Z (Qa (Qx Z Z) Z (Qr ⟨Z,Z,Z,Z,Z,Z,Z,Z,Z,Z,Z,Z,Z,Z,Z,Z,Z,congrArg (fun b=>some (Value.bool b)) (show true = ((x.a != 0) || (x.b != 0)) by first | (rw [hg8] <;> rfl) | (simp [hg8];done) | (simp only [Qq] <;> simp)),trivial⟩ Z))))
           ·refine Qn Z Z (Qb Ut Z) Z (Qn Z Z (Qk Yt Z (h1.one 2 Z)) Z (Qn Z Z (Yu Z Z) Z (Qa (Q1 Z Z) Z (Qr ⟨Z,Z,Z,Z,Z,Z,Z,Z,Z,Z,Z,Z,Z,Z,Z,Z,Z,congrArg (fun b=>some (Value.bool b)) (show (x.b != 0) = ((x.a != 0) || (x.b != 0)) by first | (rw [hg8] <;> rfl) | (simp [hg8];done) | (simp only [Qq] <;> simp)),trivial⟩ Z))))
          rintro _ rfl
          refine Qc (Qt Z (fun hc16=>?_) (fun hc16=>?_))
          ·refine Qe (Qh [true] Z Z (Qa (Qf Z) Z (Qc (Qv (Q2 (Va (Qm Z Z E ?_)))))))
           exact Hj (by rw [Gj (by assumption) (by assumption) (by assumption)];exact kx0 (by assumption))
          ·refine Qo (Q6 (Y0 (Q6 (Gl () ⟨Z,Z,trivial⟩ ⟨E,(by omega),h1,(by rw [Gj (by assumption) (by assumption) (by assumption)];exact ky0 (by assumption) (Gd (by simp at *;omega)))⟩))))
         ·refine Qe (Qh [true] Z Z (Qa (Qf Z) Z (Qc (Qv (Q2 (Va (Qm Z Z E ?_)))))))
          exact Hj (by rw [Gj (by assumption) (by assumption) (by assumption),win_not (by simp at *;omega)];rfl)
 ·clear E h1
  rintro _ w14 ⟨E,z2,h1,hkk⟩
  refine Qe (Qe (Xx Xs [(0,true),(1,true),(2,true),(3,true),(4,true),(5,true),(6,true),(7,true),(8,true),(9,true),(10,true),(11,true),(12,true),(13,true),(14,true),(15,true),(16,true),(17,true),(18,true),(19,true),(20,true),(21,true),(22,true),(23,true),(24,true),(25,true),(26,true),(27,true),(28,true),(29,true),(30,true),(31,true)] (by decide +kernel) Z (fun w15 e6=>?_)))
  replace E:=E.trans e6;replace h1:=h1.ext e6
  have z8:=e6.size
  refine Qa (Qb Xu Z) Z (Qa (Qk K0 Z (h1.one 3 Z)) Z (Qa (Yc Tryz.underlying76 Z (hd1.ext E).len) Z (Qa (G8 Z Z) Z (Qa (Qd Z) Z (Xf 27 [(1,.pointer (some ⟨b1,0,none⟩)),(2,.bool false),(89,.bool (((decide (2 < ((x.outs.length : Nat) : Int))) || ((x.kind == 8) && (decide (0 < ((x.outs.length : Nat) : Int))))) || ((((x.outs.length : Nat) : Int) == 2) && ((List.getD x.outs 0 default) == (List.getD x.outs 1 default)))))] (fun w'=>w15 = w') ?_ ?_)))))
  ·refine Y4 (gd:=62) Z Z (fun hg9=>?_) (fun hg9=>?_)
   ·have hg9n : x.outs.length > 2:=by first | (have h:=of_decide_eq_true hg9;omega) | (have h:=hg9;simp at h;omega)
    refine Qg Z Z Z Z (Qg Z Z Z Z (Qg Z Z Z Z (Qg Z Z Z Z (Ya Z Z Z (Ya Z Z Z (Ya Z Z Z (Ya Z Z Z (Qg Z Z Z Z (Qa (Qx Z Z) Z (Qa (Qd Z) Z (Qg Z Z Z Z (Qg Z Z Z Z (Qg Z Z Z Z (Qg Z Z Z Z (Qg Z Z Z Z (Ya Z Z Z (Ya Z Z Z (Ya Z Z Z (Ya Z Z Z (Ya Z Z Z (Ya Z Z Z (Ya Z Z Z (Ya Z Z Z (Ya Z Z Z (Qg Z Z Z Z (Qa (Qx Z Z) Z (Qr ⟨Z,Z,congrArg (fun b=>some (Value.bool b)) (show true = (((decide (2 < ((x.outs.length : Nat) : Int))) || ((x.kind == 8) && (decide (0 < ((x.outs.length : Nat) : Int))))) || ((((x.outs.length : Nat) : Int) == 2) && ((List.getD x.outs 0 default) == (List.getD x.outs 1 default)))) by first | (rw [hg9] <;> rfl) | (simp [hg9];done) | (simp only [Qq] <;> simp)),trivial⟩ Z)))))))))))))))))))))))))))
   ·have hg9n : ¬ x.outs.length > 2:=by first | (have h:=of_decide_eq_false hg9;omega) | (have h:=hg9;simp at h;omega)
    refine Qn Z Z (Qb Kj Z) Z (Qn Z Z (Qk Yt Z (h1.one 0 Z)) Z (Qn Z Z (Xm Z Z) Z (Qn Z Z (Qd Z) Z ?_)))
    refine Y4 (gd:=66) Z Z (fun hg10=>?_) (fun hg10=>?_)
    ·refine Qn Z Z (Qb Xu Z) Z (Qn Z Z (Qk K0 Z (h1.one 3 Z)) Z (Qn Z Z (Yc Tryz.underlying76 Z (hd1.ext E).len) Z (Qn Z Z (G8 Z Z) Z (Qn Z Z (Qx Z Z) Z (Qa (Q1 Z Z) Z (Qa (Qd Z) Z ?_))))))
     refine Y4 (gd:=73) Z Z (fun hg11=>?_) (fun hg11=>?_)
     ·have hg11n : x.outs.length > 0:=by first | (have h:=of_decide_eq_true hg11;omega) | (have h:=hg11;simp at h;omega)
      refine Qg Z Z Z Z (Qg Z Z Z Z (Qg Z Z Z Z (Qg Z Z Z Z (Qg Z Z Z Z (Ya Z Z Z (Ya Z Z Z (Ya Z Z Z (Ya Z Z Z (Ya Z Z Z (Ya Z Z Z (Ya Z Z Z (Ya Z Z Z (Ya Z Z Z (Qg Z Z Z Z (Qa (Qx Z Z) Z (Qr ⟨Z,Z,congrArg (fun b=>some (Value.bool b)) (show true = (((decide (2 < ((x.outs.length : Nat) : Int))) || ((x.kind == 8) && (decide (0 < ((x.outs.length : Nat) : Int))))) || ((((x.outs.length : Nat) : Int) == 2) && ((List.getD x.outs 0 default) == (List.getD x.outs 1 default)))) by first | (rw [hg9,hg10,hg11] <;> rfl) | (simp [hg9,hg10,hg11];done) | (simp only [Qq] <;> simp)),trivial⟩ Z))))))))))))))))
     ·have hg11n : ¬ x.outs.length > 0:=by first | (have h:=of_decide_eq_false hg11;omega) | (have h:=hg11;simp at h;omega)
      refine Qn Z Z (Qb Xu Z) Z (Qn Z Z (Qk K0 Z (h1.one 3 Z)) Z (Qn Z Z (Yc Tryz.underlying76 Z (hd1.ext E).len) Z (Qn Z Z (Xm Z Z) Z (Qn Z Z (Qd Z) Z ?_))))
      refine Y4 (gd:=78) Z Z (fun hg12=>?_) (fun hg12=>?_)
      ·have hg12n : x.outs.length = 2:=by first | (have h:=of_decide_eq_true hg12;omega) | (have h:=hg12;simp at h;omega)
       refine Qn Z Z (Qb Xu Z) Z (Qn Z Z (Qk K0 Z (h1.one 3 Z)) Z (Qn Z Z (Qz (i:=0) Ux Z Z (hd1.rd.ext E) (by first | assumption | omega | (simp only [List.length_set];first | assumption | omega) | (simp only [List.getElem_set_self,List.length_set];first | assumption | omega) | (simp only [Yn,Yh,List.length_set];first | assumption | omega))) Z (Qn Z Z (Qk Yt Z ((RdS.getD (hd1.rd.ext E) (i:=0) (by first | assumption | omega | (simp only [List.length_set];first | assumption | omega) | (simp only [List.getElem_set_self,List.length_set];first | assumption | omega) | (simp only [Yn,Yh,List.length_set];first | assumption | omega))).one 0 Z)) Z (Qn Z Z (Qb Xu Z) Z (Qn Z Z (Qk K0 Z (h1.one 3 Z)) Z (Qn Z Z (Qz (i:=1) Ux Z Z (hd1.rd.ext E) (by first | assumption | omega | (simp only [List.length_set];first | assumption | omega) | (simp only [List.getElem_set_self,List.length_set];first | assumption | omega) | (simp only [Yn,Yh,List.length_set];first | assumption | omega))) Z (Qn Z Z (Qk Yt Z ((RdS.getD (hd1.rd.ext E) (i:=1) (by first | assumption | omega | (simp only [List.length_set];first | assumption | omega) | (simp only [List.getElem_set_self,List.length_set];first | assumption | omega) | (simp only [Yn,Yh,List.length_set];first | assumption | omega))).one 0 Z)) Z (Qn Z Z (Xm Z Z) Z (Qn Z Z (Qx Z Z) Z (Qa (Q1 Z Z) Z (Qr ⟨Z,Z,congrArg (fun b=>some (Value.bool b)) (show ((List.getD x.outs 0 default) == (List.getD x.outs 1 default)) = (((decide (2 < ((x.outs.length : Nat) : Int))) || ((x.kind == 8) && (decide (0 < ((x.outs.length : Nat) : Int))))) || ((((x.outs.length : Nat) : Int) == 2) && ((List.getD x.outs 0 default) == (List.getD x.outs 1 default)))) by first | (rw [hg9,hg10,hg11,hg12] <;> rfl) | (simp [hg9,hg10,hg11,hg12];done) | (simp only [Qq] <;> simp)),trivial⟩ Z)))))))))))
      ·have hg12n : ¬ x.outs.length = 2:=by first | (have h:=of_decide_eq_false hg12;omega) | (have h:=hg12;simp at h;omega)
       refine Qg Z Z Z Z (Qg Z Z Z Z (Qg Z Z Z Z (Qg Z Z Z Z (Qg Z Z Z Z (Qg Z Z Z Z (Qg Z Z Z Z (Qg Z Z Z Z (Qg Z Z Z Z (Qn Z Z (Q1 Z Z) Z (Qa (Q1 Z Z) Z (Qr ⟨Z,Z,congrArg (fun b=>some (Value.bool b)) (show false = (((decide (2 < ((x.outs.length : Nat) : Int))) || ((x.kind == 8) && (decide (0 < ((x.outs.length : Nat) : Int))))) || ((((x.outs.length : Nat) : Int) == 2) && ((List.getD x.outs 0 default) == (List.getD x.outs 1 default)))) by first | (rw [hg9,hg10,hg11,hg12] <;> rfl) | (simp [hg9,hg10,hg11,hg12];done) | (simp only [Qq] <;> simp)),trivial⟩ Z)))))))))))
    ·refine Qg Z Z Z Z (Qg Z Z Z Z (Qg Z Z Z Z (Qg Z Z Z Z (Qn Z Z (Q1 Z Z) Z (Qa (Q1 Z Z) Z (Qa (Qd Z) Z (Qn Z Z (Qb Xu Z) Z (Qn Z Z (Qk K0 Z (h1.one 3 Z)) Z (Qn Z Z (Yc Tryz.underlying76 Z (hd1.ext E).len) Z (Qn Z Z (Xm Z Z) Z (Qn Z Z (Qd Z) Z ?_)))))))))))
     refine Y4 (gd:=78) Z Z (fun hg13=>?_) (fun hg13=>?_)
     ·have hg13n : x.outs.length = 2:=by first | (have h:=of_decide_eq_true hg13;omega) | (have h:=hg13;simp at h;omega)
      refine Qn Z Z (Qb Xu Z) Z (Qn Z Z (Qk K0 Z (h1.one 3 Z)) Z (Qn Z Z (Qz (i:=0) Ux Z Z (hd1.rd.ext E) (by first | assumption | omega | (simp only [List.length_set];first | assumption | omega) | (simp only [List.getElem_set_self,List.length_set];first | assumption | omega) | (simp only [Yn,Yh,List.length_set];first | assumption | omega))) Z (Qn Z Z (Qk Yt Z ((RdS.getD (hd1.rd.ext E) (i:=0) (by first | assumption | omega | (simp only [List.length_set];first | assumption | omega) | (simp only [List.getElem_set_self,List.length_set];first | assumption | omega) | (simp only [Yn,Yh,List.length_set];first | assumption | omega))).one 0 Z)) Z (Qn Z Z (Qb Xu Z) Z (Qn Z Z (Qk K0 Z (h1.one 3 Z)) Z (Qn Z Z (Qz (i:=1) Ux Z Z (hd1.rd.ext E) (by first | assumption | omega | (simp only [List.length_set];first | assumption | omega) | (simp only [List.getElem_set_self,List.length_set];first | assumption | omega) | (simp only [Yn,Yh,List.length_set];first | assumption | omega))) Z (Qn Z Z (Qk Yt Z ((RdS.getD (hd1.rd.ext E) (i:=1) (by first | assumption | omega | (simp only [List.length_set];first | assumption | omega) | (simp only [List.getElem_set_self,List.length_set];first | assumption | omega) | (simp only [Yn,Yh,List.length_set];first | assumption | omega))).one 0 Z)) Z (Qn Z Z (Xm Z Z) Z (Qn Z Z (Qx Z Z) Z (Qa (Q1 Z Z) Z (Qr ⟨Z,Z,congrArg (fun b=>some (Value.bool b)) (show ((List.getD x.outs 0 default) == (List.getD x.outs 1 default)) = (((decide (2 < ((x.outs.length : Nat) : Int))) || ((x.kind == 8) && (decide (0 < ((x.outs.length : Nat) : Int))))) || ((((x.outs.length : Nat) : Int) == 2) && ((List.getD x.outs 0 default) == (List.getD x.outs 1 default)))) by first | (rw [hg9,hg10,hg13] <;> rfl) | (simp [hg9,hg10,hg13];done) | (simp only [Qq] <;> simp)),trivial⟩ Z)))))))))))
     ·have hg13n : ¬ x.outs.length = 2:=by first | (have h:=of_decide_eq_false hg13;omega) | (have h:=hg13;simp at h;omega)
      refine Qg Z Z Z Z (Qg Z Z Z Z (Qg Z Z Z Z (Qg Z Z Z Z (Qg Z Z Z Z (Qg Z Z Z Z (Qg Z Z Z Z (Qg Z Z Z Z (Qg Z Z Z Z (Qn Z Z (Q1 Z Z) Z (Qa (Q1 Z Z) Z (Qr ⟨Z,Z,congrArg (fun b=>some (Value.bool b)) (show false = (((decide (2 < ((x.outs.length : Nat) : Int))) || ((x.kind == 8) && (decide (0 < ((x.outs.length : Nat) : Int))))) || ((((x.outs.length : Nat) : Int) == 2) && ((List.getD x.outs 0 default) == (List.getD x.outs 1 default)))) by first | (rw [hg9,hg10,hg13] <;> rfl) | (simp [hg9,hg10,hg13];done) | (simp only [Qq] <;> simp)),trivial⟩ Z)))))))))))
  rintro _ rfl
  refine Qc (Qt Z (fun hc17=>?_) (fun hc17=>?_))
  ·refine Qe (Qh [true] Z Z (Qa (Qf Z) Z (Qc (Qv (Qm Z Z E ?_)))))
   exact node_t (by assumption)
  ·refine Qo (Qe (Qe (Qh [true,true,true,true] Z Z (Qa (Qb Xu Z) Z (Qa (Qk K0 Z (h1.one 3 Z)) Z (Qa (Yc Tryz.underlying76 Z (hd1.ext E).len) Z (Qa (Qd Z) Z (Qc (Q0 (Yp (fun (k : Nat)=>[(2,.bool false),(91,o1),(92,.int .i64 ((x.outs.length : Nat) : Int)),(93,.int .i64 ((k : Nat) : Int))]) (fun (k : Nat) w'=>Ext w w' ∧ w15.heap.size ≤ w'.heap.size ∧ Blk w' b1 ([.int .i64 x.kind,.int .i64 x.a,.int .i64 x.b,o1]) ∧ k ≤ x.outs.length ∧ (x.outs.take k).all (Yr · 0 7) = true) (fun (k : Nat)=>x.outs.length - k) 0 ⟨Z,Z,Z,Z,trivial⟩ ⟨E,Nat.le_refl _,h1,Nat.zero_le _,Z⟩ ?_))))))))))
   clear E h1
   rintro k w17 ⟨E,z9,h1,hk,hI⟩
   refine Qe (Qh [true] Z Z (Qa (Yi Z Z) Z (Qc (Qe (Qt Z (fun hc18=>?_) (fun hc18=>?_))))))
   ·have hc18n : k < x.outs.length:=by first | (have h:=of_decide_eq_true hc18;omega) | (have h:=hc18;simp at h;omega)
    refine Qo (Qe (Q0 (Qe (Qh [true,true,true] Z Z ?_))))
    have hi1 : k < x.outs.length:=(by first | assumption | omega | (simp only [List.length_set];first | assumption | omega) | (simp only [List.getElem_set_self,List.length_set];first | assumption | omega) | (simp only [Yn,Yh,List.length_set];first | assumption | omega))
    refine Qa (Qz (i:=k) Ux Z Z (hd1.rd.ext E) hi1) Z (Qa (Qk Yt Z (((hd1.rd.ext E).get hi1).one 0 Z)) Z (Qa (Qf Z) Z (Qc (Qe (Qh [true,false,true] Z Z (Qa (Qd Z) Z (Qw Tryz.call71 Z (c_within (x.outs[k]'hi1) 0 7 _ ) Z (fun _ w18 e7 hv=>?_))))))))
    subst hv
    replace E:=E.trans e7;replace h1:=h1.ext e7
    have z10:=e7.size
    refine Qa (Yy Z) Z (Qc (Qt Z (fun hc19=>?_) (fun hc19=>?_)))
    ·refine Qe (Qh [true] Z Z (Qa (Qf Z) Z (Qc (Qv (Q2 (Yv (Q2 (Qm Z Z E ?_))))))))
     exact node_l (by assumption)
    ·refine Qo (Q6 (Y0 (Qh [true,true] Z Z (Qa (Ye Z Z (Y3 hc18n (hd1.ext E).1.1)) Z (Qa (Qd Z) Z (Qc (Q6 (Yk (k + 1) (by omega) ⟨Z,Z,Z,Z,trivial⟩ ⟨E,(by omega),h1,(by omega),Kh hI (by assumption) (by simpa using (show (!(Yr x.outs[k] 0 7)) = false by assumption))⟩))))))))
   ·have hc18n : ¬ k < x.outs.length:=by first | (have h:=of_decide_eq_false hc18;omega) | (have h:=hc18;simp at h;omega)
    refine Yq (Q5 (Q3 ?_))
    refine Qe (Qh [true] Z Z (Qa (Qf Z) Z (Qc (Qv (Qm Z Z E ?_)))))
    exact node_y hkk (by assumption) hI (by omega)

set_option maxHeartbeats 4000000 in
set_option maxRecDepth 20000 in
theorem s_NodeOk (cx : List Value) (x : Node) (w : World) (hx : Dat.R w 0 w.heap.size cx x) : Ct Tryz.prog 129 [.agg cx.toArray] w (fun v _=>v = .bool (Ke x)):=by
 refine Ym Tryz.func129 Z Tryz.ntmps129 Z ?_
 obtain ⟨o1,rfl,hd1⟩:=Node.op hx
 refine Q8 [(0,.agg [.int .i64 x.kind,.int .i64 x.a,.int .i64 x.b,o1].toArray)] ⟨Z,trivial⟩ ?_
 have E : Ext w w:=Ext.refl w
 refine Qe (Qh [false,true] Z Z (Y1 Z Z (fun b1 w1 e1 s1 h1=>?_)))
 have g_b1 : w.heap.size ≤ b1:=by have:=E.size;omega
 have y_b1:=h1.lt
 replace E:=E.trans e1
 have z1:=e1.size
 refine Qa (Qf Z) Z (Qc (Qe (Qh [true,true,true,true] Z Z (Qa (Qb Kx Z) Z (Qa (Qk Yt Z (h1.one 1 Z)) Z (Qa (Xm Z Z) Z (Qa (Qf Z) Z (Qc (Qe (Qh [true,true,true,true] Z Z (Qa (Qb Ut Z) Z (Qa (Qk Yt Z (h1.one 2 Z)) Z (Qa (Xm Z Z) Z (Qa (Qf Z) Z (Qc (Qe (Qe (Qh [true,true] Z Z (Qa (Qb Kj Z) Z (Qa (Qk Yt Z (h1.one 0 Z)) Z (Qc (S_cutG (fun (xq : Bool × Bool)=>let ⟨p0,q0⟩:=xq;[(1,.pointer (some ⟨b1,0,none⟩)),(2,.bool false),(3,.bool p0),(4,.bool q0)]) (fun (xq : Bool × Bool) w'=>let ⟨p0,q0⟩:=xq;Ext w w' ∧ w1.heap.size ≤ w'.heap.size ∧ Blk w' b1 ([.int .i64 x.kind,.int .i64 x.a,.int .i64 x.b,o1]) ∧ U1 x = (Yr x.kind 1 8 && p0 && q0)) ?_ ?_))))))))))))))))))))))
 ·refine Q0 (Qe (Qh [true,true] Z Z (Qa (Xm Z Z) Z (Qa (Qf Z) Z (Qc (Qt Z (fun hc1=>?_) (fun hc1=>?_)))))))
  ·refine Qh [true,true,false,true] Z Z (Qa (Qb Kx Z) Z (Qa (Qk Yt Z (h1.one 1 Z)) Z (Qw Tryz.call106 Z (s_l01In x.a 0 999 _ ) Z (fun _ w2 e2 hv=>?_))))
   subst hv
   replace E:=E.trans e2;replace h1:=h1.ext e2
   have z3:=e2.size
   refine Qa (Qf Z) Z (Qc (Q6 (Y0 (Q6 (Gl (Yr x.a 0 999,x.b == 0) ⟨Z,Z,Z,Z,trivial⟩ ⟨E,(by omega),h1,(by rw [node_2 (by assumption),Gd (n:=x.kind) (by have:=eq_of_beq (show (x.kind == 2) = true by assumption);omega),Bool.true_and])⟩)))))
  ·refine Qe (Qh [true,true] Z Z (Qa (Xm Z Z) Z (Qa (Qf Z) Z (Qc (Qt Z (fun hc2=>?_) (fun hc2=>?_))))))
   ·refine Qe (Qh [true,true,false,true] Z Z (Qa (Qb Kx Z) Z (Qa (Qk Yt Z (h1.one 1 Z)) Z (Qw Tryz.call106 Z (s_l01In x.a 1 10 _ ) Z (fun _ w3 e3 hv=>?_)))))
    subst hv
    replace E:=E.trans e3;replace h1:=h1.ext e3
    have z4:=e3.size
    refine Qa (Qf Z) Z (Qc (Qh [true,true,true,true,true,false,true] Z Z (Qa (Qb Ut Z) Z (Qa (Qk Yt Z (h1.one 2 Z)) Z (Qa (Qb Kx Z) Z (Qa (Qk Yt Z (h1.one 1 Z)) Z (Qa (K6 Z Z Z) Z (Qw Tryz.call106 Z (s_l01In x.b 0 (IntKind.i64.wrap (x.a - 1)) _ ) Z (fun _ w4 e4 hv=>?_)))))))))
    subst hv
    replace E:=E.trans e4;replace h1:=h1.ext e4
    have z5:=e4.size
    refine Qa (Qf Z) Z (Qc (Q6 (Y0 (Q6 (Gl (Yr x.a 1 10,Yr x.b 0 (IntKind.i64.wrap (x.a - 1))) ⟨Z,Z,Z,Z,trivial⟩ ⟨E,(by omega),h1,(by rw [node_3 (by assumption),Gd (n:=x.kind) (by have:=eq_of_beq (show (x.kind == 3) = true by assumption);omega),Bool.true_and])⟩)))))
   ·refine Qe (Qh [true,true] Z Z (Qa (Xm Z Z) Z (Qa (Qf Z) Z (Qc (Qt Z (fun hc3=>?_) (fun hc3=>?_))))))
    ·refine Qh [true,true,false,true] Z Z (Qa (Qb Kx Z) Z (Qa (Qk Yt Z (h1.one 1 Z)) Z (Qw Tryz.call106 Z (s_l01In x.a 0 99 _ ) Z (fun _ w5 e5 hv=>?_))))
     subst hv
     replace E:=E.trans e5;replace h1:=h1.ext e5
     have z6:=e5.size
     refine Qa (Qf Z) Z (Qc (Q6 (Y0 (Q6 (Gl (Yr x.a 0 99,x.b == 0) ⟨Z,Z,Z,Z,trivial⟩ ⟨E,(by omega),h1,(by rw [node_4 (by assumption),Gd (n:=x.kind) (by have:=eq_of_beq (show (x.kind == 4) = true by assumption);omega),Bool.true_and])⟩)))))
    ·refine Qo (Q6 (Y0 (Q6 (Gl (x.a == 0,x.b == 0) ⟨Z,Z,Z,Z,trivial⟩ ⟨E,(by omega),h1,(Gj (by assumption) (by assumption) (by assumption))⟩))))
 ·clear E h1
  rintro ⟨p0,q0⟩ w6 ⟨E,z2,h1,hpq⟩
  refine Q8 [(1,.pointer (some ⟨b1,0,none⟩)),(2,.bool false),(3,.bool p0),(4,.bool q0)] ⟨Z,Z,Z,Z,trivial⟩ ?_
  refine Qe (Qe (Qh [true,true,false,true,true,true,true,true,true,true,true,true,true,true,true,true,true,true,true,true,true,true,true,true,true,true,true,true,true] Z Z (Qa (Qb Kj Z) Z (Qa (Qk Yt Z (h1.one 0 Z)) Z (Qw Tryz.call106 Z (s_l01In x.kind 1 8 _ ) Z (fun _ w7 e6 hv=>?_))))))
  subst hv
  replace E:=E.trans e6;replace h1:=h1.ext e6
  have z7:=e6.size
  refine Qa (Yy Z) Z (Qa (Qd Z) Z (Xf 24 [(1,.pointer (some ⟨b1,0,none⟩)),(2,.bool false),(3,.bool p0),(4,.bool q0),(63,.bool (((((!(Yr x.kind 1 8)) || (!p0)) || (!q0)) || (decide (2 < ((x.outs.length : Nat) : Int)))) || ((x.kind == 8) && (decide (0 < ((x.outs.length : Nat) : Int))))))] (fun w'=>w7 = w') ?_ ?_))
  ·refine Y4 (gd:=39) Z Z (fun hg1=>?_) (fun hg1=>?_)
   ·refine Qg Z Z Z Z (Qg Z Z Z Z (Qa (Qx Z Z) Z (Qa (Qd Z) Z (Qg Z Z Z Z (Qg Z Z Z Z (Qa (Qx Z Z) Z (Qa (Qd Z) Z (Qg Z Z Z Z (Qg Z Z Z Z (Qg Z Z Z Z (Qg Z Z Z Z (Qa (Qx Z Z) Z (Qa (Qd Z) Z (Qg Z Z Z Z (Qg Z Z Z Z (Qg Z Z Z Z (Qg Z Z Z Z (Ya Z Z Z (Ya Z Z Z (Ya Z Z Z (Ya Z Z Z (Qg Z Z Z Z (Qa (Qx Z Z) Z (Qr ⟨Z,Z,Z,Z,congrArg (fun b=>some (Value.bool b)) (show true = (((((!(Yr x.kind 1 8)) || (!p0)) || (!q0)) || (decide (2 < ((x.outs.length : Nat) : Int)))) || ((x.kind == 8) && (decide (0 < ((x.outs.length : Nat) : Int))))) by first | (rw [hg1] <;> rfl) | (simp [hg1];done) | (simp only [Qq] <;> simp)),trivial⟩ Z))))))))))))))))))))))))
   ·refine Qn Z Z (Qd Z) Z (Qn Z Z (Yy Z) Z (Qa (Q1 Z Z) Z (Qa (Qd Z) Z ?_)))
    refine Y4 (gd:=43) Z Z (fun hg2=>?_) (fun hg2=>?_)
    ·refine Qg Z Z Z Z (Qg Z Z Z Z (Qa (Qx Z Z) Z (Qa (Qd Z) Z (Qg Z Z Z Z (Qg Z Z Z Z (Qg Z Z Z Z (Qg Z Z Z Z (Qa (Qx Z Z) Z (Qa (Qd Z) Z (Qg Z Z Z Z (Qg Z Z Z Z (Qg Z Z Z Z (Qg Z Z Z Z (Ya Z Z Z (Ya Z Z Z (Ya Z Z Z (Ya Z Z Z (Qg Z Z Z Z (Qa (Qx Z Z) Z (Qr ⟨Z,Z,Z,Z,congrArg (fun b=>some (Value.bool b)) (show true = (((((!(Yr x.kind 1 8)) || (!p0)) || (!q0)) || (decide (2 < ((x.outs.length : Nat) : Int)))) || ((x.kind == 8) && (decide (0 < ((x.outs.length : Nat) : Int))))) by first | (rw [hg1,hg2] <;> rfl) | (simp [hg1,hg2];done) | (simp only [Qq] <;> simp)),trivial⟩ Z))))))))))))))))))))
    ·refine Qn Z Z (Qd Z) Z (Qn Z Z (Yy Z) Z (Qa (Q1 Z Z) Z (Qa (Qd Z) Z ?_)))
     refine Y4 (gd:=47) Z Z (fun hg3=>?_) (fun hg3=>?_)
     ·refine Qg Z Z Z Z (Qg Z Z Z Z (Qg Z Z Z Z (Qg Z Z Z Z (Qa (Qx Z Z) Z (Qa (Qd Z) Z (Qg Z Z Z Z (Qg Z Z Z Z (Qg Z Z Z Z (Qg Z Z Z Z (Ya Z Z Z (Ya Z Z Z (Ya Z Z Z (Ya Z Z Z (Qg Z Z Z Z (Qa (Qx Z Z) Z (Qr ⟨Z,Z,Z,Z,congrArg (fun b=>some (Value.bool b)) (show true = (((((!(Yr x.kind 1 8)) || (!p0)) || (!q0)) || (decide (2 < ((x.outs.length : Nat) : Int)))) || ((x.kind == 8) && (decide (0 < ((x.outs.length : Nat) : Int))))) by first | (rw [hg1,hg2,hg3] <;> rfl) | (simp [hg1,hg2,hg3];done) | (simp only [Qq] <;> simp)),trivial⟩ Z))))))))))))))))
     ·refine Qn Z Z (Qb Xu Z) Z (Qn Z Z (Qk K0 Z (h1.one 3 Z)) Z (Qn Z Z (Yc Tryz.underlying76 Z (hd1.ext E).len) Z (Qn Z Z (G8 Z Z) Z (Qa (Q1 Z Z) Z (Qa (Qd Z) Z ?_)))))
      refine Y4 (gd:=53) Z Z (fun hg4=>?_) (fun hg4=>?_)
      ·have hg4n : x.outs.length > 2:=by first | (have h:=of_decide_eq_true hg4;omega) | (have h:=hg4;simp at h;omega)
       refine Qg Z Z Z Z (Qg Z Z Z Z (Qg Z Z Z Z (Qg Z Z Z Z (Ya Z Z Z (Ya Z Z Z (Ya Z Z Z (Ya Z Z Z (Qg Z Z Z Z (Qa (Qx Z Z) Z (Qr ⟨Z,Z,Z,Z,congrArg (fun b=>some (Value.bool b)) (show true = (((((!(Yr x.kind 1 8)) || (!p0)) || (!q0)) || (decide (2 < ((x.outs.length : Nat) : Int)))) || ((x.kind == 8) && (decide (0 < ((x.outs.length : Nat) : Int))))) by first | (rw [hg1,hg2,hg3,hg4] <;> rfl) | (simp [hg1,hg2,hg3,hg4];done) | (simp only [Qq] <;> simp)),trivial⟩ Z))))))))))
      ·have hg4n : ¬ x.outs.length > 2:=by first | (have h:=of_decide_eq_false hg4;omega) | (have h:=hg4;simp at h;omega)
       refine Qn Z Z (Qb Kj Z) Z (Qn Z Z (Qk Yt Z (h1.one 0 Z)) Z (Qn Z Z (Xm Z Z) Z (Qn Z Z (Qd Z) Z ?_)))
       refine Y4 (gd:=57) Z Z (fun hg5=>?_) (fun hg5=>?_)
       ·refine Qn Z Z (Qb Xu Z) Z (Qn Z Z (Qk K0 Z (h1.one 3 Z)) Z (Qn Z Z (Yc Tryz.underlying76 Z (hd1.ext E).len) Z (Qn Z Z (G8 Z Z) Z (Qn Z Z (Qx Z Z) Z (Qa (Q1 Z Z) Z (Qr ⟨Z,Z,Z,Z,congrArg (fun b=>some (Value.bool b)) (show (decide (0 < ((x.outs.length : Nat) : Int))) = (((((!(Yr x.kind 1 8)) || (!p0)) || (!q0)) || (decide (2 < ((x.outs.length : Nat) : Int)))) || ((x.kind == 8) && (decide (0 < ((x.outs.length : Nat) : Int))))) by first | (rw [hg1,hg2,hg3,hg4,hg5] <;> rfl) | (simp [hg1,hg2,hg3,hg4,hg5];done) | (simp only [Qq] <;> simp)),trivial⟩ Z))))))
       ·refine Qg Z Z Z Z (Qg Z Z Z Z (Qg Z Z Z Z (Qg Z Z Z Z (Qn Z Z (Q1 Z Z) Z (Qa (Q1 Z Z) Z (Qr ⟨Z,Z,Z,Z,congrArg (fun b=>some (Value.bool b)) (show false = (((((!(Yr x.kind 1 8)) || (!p0)) || (!q0)) || (decide (2 < ((x.outs.length : Nat) : Int)))) || ((x.kind == 8) && (decide (0 < ((x.outs.length : Nat) : Int))))) by first | (rw [hg1,hg2,hg3,hg4,hg5] <;> rfl) | (simp [hg1,hg2,hg3,hg4,hg5];done) | (simp only [Qq] <;> simp)),trivial⟩ Z))))))
  rintro _ rfl
  refine Qc (Qt Z (fun hc4=>?_) (fun hc4=>?_))
  ·refine Qe (Qh [true] Z Z (Qa (Qf Z) Z (Qc (Qv (Qm Z Z E ?_)))))
   exact node_s hpq (by assumption)
  ·refine Qo (Qe (Qe (Qh [true] Z Z (Qa (Qf Z) Z (Qc (Q0 (Yp (fun (k : Nat)=>[(1,.pointer (some ⟨b1,0,none⟩)),(2,.bool false),(5,.int .i64 ((k : Nat) : Int))]) (fun (k : Nat) w'=>Ext w w' ∧ w7.heap.size ≤ w'.heap.size ∧ Blk w' b1 ([.int .i64 x.kind,.int .i64 x.a,.int .i64 x.b,o1]) ∧ k ≤ x.outs.length ∧ (x.outs.take k).all (Yr · 0 7) = true ∧ (1 < k → ((List.getD x.outs 0 default) == (List.getD x.outs 1 default)) = false)) (fun (k : Nat)=>x.outs.length - k) 0 ⟨Z,Z,Z,trivial⟩ ⟨E,Nat.le_refl _,h1,Nat.zero_le _,Z,(by omega)⟩ ?_)))))))
   clear E h1
   rintro k w9 ⟨E,z8,h1,hk,hI,hJ⟩
   refine Qe (Qe (Qh [true,true,true,true,true] Z Z (Qa (Qd Z) Z (Qa (Qb Xu Z) Z (Qa (Qk K0 Z (h1.one 3 Z)) Z (Qa (Yc Tryz.underlying76 Z (hd1.ext E).len) Z (Qa (Yi Z Z) Z (Qc (Qt Z (fun hc5=>?_) (fun hc5=>?_))))))))))
   ·have hc5n : k < x.outs.length:=by first | (have h:=of_decide_eq_true hc5;omega) | (have h:=hc5;simp at h;omega)
    refine Qo (Qe (Q0 (Qe (Xx Xs [(0,true),(1,true),(2,true),(3,true),(4,true),(5,false),(6,true),(7,true),(8,true),(9,true),(10,true),(11,true),(12,true),(13,true),(14,true),(15,true),(16,true),(17,true),(18,true),(19,true),(20,true),(21,true)] (by decide +kernel) Z (fun w10 e7=>?_)))))
    replace E:=E.trans e7;replace h1:=h1.ext e7
    have z9:=e7.size
    refine Qa (Qb Xu Z) Z (Qa (Qk K0 Z (h1.one 3 Z)) Z (Qa (Qd Z) Z ?_))
    have hi1 : k < x.outs.length:=(by first | assumption | omega | (simp only [List.length_set];first | assumption | omega) | (simp only [List.getElem_set_self,List.length_set];first | assumption | omega) | (simp only [Yn,Yh,List.length_set];first | assumption | omega))
    refine Qa (Qz (i:=k) Ux Z Z (hd1.rd.ext E) hi1) Z (Qa (Qk Yt Z (((hd1.rd.ext E).get hi1).one 0 Z)) Z (Qw Tryz.call106 Z (s_l01In (x.outs[k]'hi1) 0 7 _ ) Z (fun _ w11 e8 hv=>?_)))
    subst hv
    replace E:=E.trans e8;replace h1:=h1.ext e8
    have z10:=e8.size
    refine Qa (Yy Z) Z (Qa (Qd Z) Z (Xf 14 [(1,.pointer (some ⟨b1,0,none⟩)),(2,.bool false),(5,.int .i64 ((k : Nat) : Int)),(64,.int .i64 ((k : Nat) : Int)),(65,.pointer (some ⟨b1,3,none⟩)),(66,o1),(67,.int .i64 ((x.outs.length : Nat) : Int)),(68,.bool (decide (((k : Nat) : Int) < ((x.outs.length : Nat) : Int)))),(92,.bool ((!(Yr (x.outs[k]'hi1) 0 7)) || ((decide (0 < ((k : Nat) : Int))) && ((List.getD x.outs 0 default) == (List.getD x.outs 1 default)))))] (fun w'=>w11 = w') ?_ ?_))
    ·refine Y4 (gd:=78) Z Z (fun hg6=>?_) (fun hg6=>?_)
     ·refine Qg Z Z Z Z (Qg Z Z Z Z (Qg Z Z Z Z (Ya Z Z Z (Ya Z Z Z (Ya Z Z Z (Ya Z Z Z (Ya Z Z Z (Ya Z Z Z (Ya Z Z Z (Ya Z Z Z (Ya Z Z Z (Qg Z Z Z Z (Qa (Qx Z Z) Z (Qr ⟨Z,Z,Z,Z,Z,Z,Z,Z,congrArg (fun b=>some (Value.bool b)) (show true = ((!(Yr (x.outs[k]'hi1) 0 7)) || ((decide (0 < ((k : Nat) : Int))) && ((List.getD x.outs 0 default) == (List.getD x.outs 1 default)))) by first | (rw [hg6] <;> rfl) | (simp [hg6];done) | (simp only [Qq] <;> simp)),trivial⟩ Z))))))))))))))
     ·refine Qn Z Z (Qd Z) Z (Qn Z Z (G8 Z Z) Z (Qn Z Z (Qd Z) Z ?_))
      refine Y4 (gd:=81) Z Z (fun hg7=>?_) (fun hg7=>?_)
      ·have hg7n : k > 0:=by first | (have h:=of_decide_eq_true hg7;omega) | (have h:=hg7;simp at h;omega)
       refine Qn Z Z (Qb Xu Z) Z (Qn Z Z (Qk K0 Z (h1.one 3 Z)) Z (Qn Z Z (Qz (i:=0) Ux Z Z (hd1.rd.ext E) (by first | assumption | omega | (simp only [List.length_set];first | assumption | omega) | (simp only [List.getElem_set_self,List.length_set];first | assumption | omega) | (simp only [Yn,Yh,List.length_set];first | assumption | omega))) Z (Qn Z Z (Qk Yt Z ((RdS.getD (hd1.rd.ext E) (i:=0) (by first | assumption | omega | (simp only [List.length_set];first | assumption | omega) | (simp only [List.getElem_set_self,List.length_set];first | assumption | omega) | (simp only [Yn,Yh,List.length_set];first | assumption | omega))).one 0 Z)) Z (Qn Z Z (Qb Xu Z) Z (Qn Z Z (Qk K0 Z (h1.one 3 Z)) Z (Qn Z Z (Qz (i:=1) Ux Z Z (hd1.rd.ext E) (by first | assumption | omega | (simp only [List.length_set];first | assumption | omega) | (simp only [List.getElem_set_self,List.length_set];first | assumption | omega) | (simp only [Yn,Yh,List.length_set];first | assumption | omega))) Z (Qn Z Z (Qk Yt Z ((RdS.getD (hd1.rd.ext E) (i:=1) (by first | assumption | omega | (simp only [List.length_set];first | assumption | omega) | (simp only [List.getElem_set_self,List.length_set];first | assumption | omega) | (simp only [Yn,Yh,List.length_set];first | assumption | omega))).one 0 Z)) Z (Qn Z Z (Xm Z Z) Z (Qn Z Z (Qx Z Z) Z (Qa (Q1 Z Z) Z (Qr ⟨Z,Z,Z,Z,Z,Z,Z,Z,congrArg (fun b=>some (Value.bool b)) (show ((List.getD x.outs 0 default) == (List.getD x.outs 1 default)) = ((!(Yr (x.outs[k]'hi1) 0 7)) || ((decide (0 < ((k : Nat) : Int))) && ((List.getD x.outs 0 default) == (List.getD x.outs 1 default)))) by first | (rw [hg6,hg7] <;> rfl) | (simp [hg6,hg7];done) | (simp only [Qq] <;> simp)),trivial⟩ Z)))))))))))
      ·have hg7n : ¬ k > 0:=by first | (have h:=of_decide_eq_false hg7;omega) | (have h:=hg7;simp at h;omega)
       refine Qg Z Z Z Z (Qg Z Z Z Z (Qg Z Z Z Z (Qg Z Z Z Z (Qg Z Z Z Z (Qg Z Z Z Z (Qg Z Z Z Z (Qg Z Z Z Z (Qg Z Z Z Z (Qn Z Z (Q1 Z Z) Z (Qa (Q1 Z Z) Z (Qr ⟨Z,Z,Z,Z,Z,Z,Z,Z,congrArg (fun b=>some (Value.bool b)) (show false = ((!(Yr (x.outs[k]'hi1) 0 7)) || ((decide (0 < ((k : Nat) : Int))) && ((List.getD x.outs 0 default) == (List.getD x.outs 1 default)))) by first | (rw [hg6,hg7] <;> rfl) | (simp [hg6,hg7];done) | (simp only [Qq] <;> simp)),trivial⟩ Z)))))))))))
    rintro _ rfl
    refine Qc (Qt Z (fun hc6=>?_) (fun hc6=>?_))
    ·refine Qe (Qh [true] Z Z (Qa (Qf Z) Z (Qc (Qv (Q2 (Yv (Q2 (Qm Z Z E ?_))))))))
     exact node_d (by assumption) (node_p (p:=p0) (q:=q0) (by assumption) hpq).2
    ·refine Qo (Q6 (Y0 (Qh [true,true,true] Z Z (Qa (Qd Z) Z (Qa (Ye Z Z (Y3 hc5n (hd1.ext E).1.1)) Z (Qa (Qf Z) Z (Qc (Q6 (Yk (k + 1) (by omega) ⟨Z,Z,Z,trivial⟩ ⟨E,(by omega),h1,(by omega),Kh hI (by assumption) (nodeL (by assumption)),nodeJ (by assumption)⟩)))))))))
   ·have hc5n : ¬ k < x.outs.length:=by first | (have h:=of_decide_eq_false hc5;omega) | (have h:=hc5;simp at h;omega)
    refine Yq (Q5 (Q3 ?_))
    refine Qe (Qh [true] Z Z (Qa (Qf Z) Z (Qc (Qv (Qm Z Z E ?_)))))
    exact node_z (p:=p0) (q:=q0) (by assumption) hpq hI hJ (by omega)

set_option maxHeartbeats 4000000 in
set_option maxRecDepth 20000 in
theorem c_GraphOk (cg : List Value) (g : Graph) (w : World) (hg : Dat.R w 0 w.heap.size cg g) : Ct Tryz.prog 116 [.agg cg.toArray] w (fun v _=>v = .bool (Xb g)):=by
 refine Ym Tryz.func116 Z Tryz.ntmps116 Z ?_
 obtain ⟨o1,rfl,hd1⟩:=Graph.op hg
 refine Q8 [(0,.agg [o1,.int .i64 g.workers,.int .i64 g.cap].toArray)] ⟨Z,trivial⟩ ?_
 have E : Ext w w:=Ext.refl w
 refine Qe (Qh [false,true] Z Z (Y1 Z Z (fun b1 w1 e1 s1 h1=>?_)))
 have g_b1 : w.heap.size ≤ b1:=by have:=E.size;omega
 have y_b1:=h1.lt
 replace E:=E.trans e1
 have z1:=e1.size
 refine Qa (Qf Z) Z (Qc (Qe (Qe (Qh [true,true,true,false,true,true,true,true,false,true,true,true,true,true,false,true,true] Z Z (Qa (Qb Kw Z) Z (Qa (Qk Gn Z (h1.one 0 Z)) Z (Qa (Yc Tryz.underlying32 Z (hd1.ext E).len) Z (Qw Tryz.call71 Z (c_within ((g.nodes.length : Nat) : Int) 1 8 _ ) Z (fun _ w2 e2 hv=>?_)))))))))
 subst hv
 replace E:=E.trans e2;replace h1:=h1.ext e2
 have z2:=e2.size
 refine Qa (Yy Z) Z (Qa (Qd Z) Z (Xf 11 [(0,.agg [o1,.int .i64 g.workers,.int .i64 g.cap].toArray),(1,.pointer (some ⟨b1,0,none⟩)),(2,.bool false),(24,.bool (((!(Yr ((g.nodes.length : Nat) : Int) 1 8)) || (!(Yr g.workers 1 4))) || (!(Yr g.cap 1 4))))] (fun w'=>Ext w w' ∧ w2.heap.size ≤ w'.heap.size ∧ Blk w' b1 ([o1,.int .i64 g.workers,.int .i64 g.cap])) ?_ ?_))
 ·refine Y4 (gd:=13) Z Z (fun hg1=>?_) (fun hg1=>?_)
  ·refine Qg Z Z Z Z (Qg Z Z Z Z ?_)
   refine Yx Z Z Z Z ?_
   refine Qg Z Z Z Z (Qa (Qx Z Z) Z (Qa (Qd Z) Z (Qg Z Z Z Z (Qg Z Z Z Z ?_))))
   refine Yx Z Z Z Z ?_
   refine Qg Z Z Z Z (Qa (Qx Z Z) Z (Qr ⟨Z,Z,Z,congrArg (fun b=>some (Value.bool b)) (show true = (((!(Yr ((g.nodes.length : Nat) : Int) 1 8)) || (!(Yr g.workers 1 4))) || (!(Yr g.cap 1 4))) by first | (rw [hg1] <;> rfl) | (simp [hg1];done) | (simp only [Qq] <;> simp)),trivial⟩ ⟨E,(by omega),h1⟩))
  ·refine Qn Z Z (Qb Vf Z) Z (Qn Z Z (Qk Yt Z (h1.one 1 Z)) Z ?_)
   refine X2 Z Z ?_
   refine Qw Tryz.call71 Z (c_within g.workers 1 4 _ ) Z (fun _ w4 e3 hv=>?_)
   subst hv
   replace E:=E.trans e3;replace h1:=h1.ext e3
   have z3:=e3.size
   refine Qn Z Z (Yy Z) Z (Qa (Q1 Z Z) Z (Qa (Qd Z) Z ?_))
   refine Y4 (gd:=19) Z Z (fun hg2=>?_) (fun hg2=>?_)
   ·refine Qg Z Z Z Z (Qg Z Z Z Z ?_)
    refine Yx Z Z Z Z ?_
    refine Qg Z Z Z Z (Qa (Qx Z Z) Z (Qr ⟨Z,Z,Z,congrArg (fun b=>some (Value.bool b)) (show true = (((!(Yr ((g.nodes.length : Nat) : Int) 1 8)) || (!(Yr g.workers 1 4))) || (!(Yr g.cap 1 4))) by first | (rw [hg1,hg2] <;> rfl) | (simp [hg1,hg2];done) | (simp only [Qq] <;> simp)),trivial⟩ ⟨E,(by omega),h1⟩))
   ·refine Qn Z Z (Qb T8 Z) Z (Qn Z Z (Qk Yt Z (h1.one 2 Z)) Z ?_)
    refine X2 Z Z ?_
    refine Qw Tryz.call71 Z (c_within g.cap 1 4 _ ) Z (fun _ w5 e4 hv=>?_)
    subst hv
    replace E:=E.trans e4;replace h1:=h1.ext e4
    have z4:=e4.size
    refine Qn Z Z (Yy Z) Z (Qa (Q1 Z Z) Z (Qr ⟨Z,Z,Z,congrArg (fun b=>some (Value.bool b)) (show (!(Yr g.cap 1 4)) = (((!(Yr ((g.nodes.length : Nat) : Int) 1 8)) || (!(Yr g.workers 1 4))) || (!(Yr g.cap 1 4))) by first | (rw [hg1,hg2] <;> rfl) | (simp [hg1,hg2];done) | (simp only [Qq] <;> simp)),trivial⟩ ⟨E,(by omega),h1⟩))
 clear E h1
 rintro w3 ⟨E,z5,h1⟩
 refine Qc (Qt Z (fun hc1=>?_) (fun hc1=>?_))
 ·refine Qe (Qh [true] Z Z (Qa (Qf Z) Z (Qc (Qv (Qm Z Z E ?_)))))
  exact graph_h (by assumption)
 ·refine Qo (Qe (Qe (Qh [true,true,true,true] Z Z (Qa (Qb Kw Z) Z (Qa (Qk Gn Z (h1.one 0 Z)) Z (Qa (Yc Tryz.underlying32 Z (hd1.ext E).len) Z (Qa (Qd Z) Z (Qc (Q0 (Yp (fun (i : Nat)=>[(1,.pointer (some ⟨b1,0,none⟩)),(2,.bool false),(26,o1),(27,.int .i64 ((g.nodes.length : Nat) : Int)),(28,.int .i64 ((i : Nat) : Int))]) (fun (i : Nat) w'=>Ext w w' ∧ w3.heap.size ≤ w'.heap.size ∧ Blk w' b1 ([o1,.int .i64 g.workers,.int .i64 g.cap]) ∧ i ≤ g.nodes.length ∧ (∀ j,j < i → K9 g j (List.getD g.nodes j default) = true)) (fun (i : Nat)=>g.nodes.length - i) 0 ⟨Z,Z,Z,Z,Z,trivial⟩ ⟨E,Nat.le_refl _,h1,Nat.zero_le _,(fun j hj=>by omega)⟩ ?_))))))))))
  clear E h1
  rintro i w6 ⟨E,z6,h1,hle,hp⟩
  refine Qe (Qh [true] Z Z (Qa (Yi Z Z) Z (Qc (Qe (Qt Z (fun hc2=>?_) (fun hc2=>?_))))))
  ·have hc2n : i < g.nodes.length:=by first | (have h:=of_decide_eq_true hc2;omega) | (have h:=hc2;simp at h;omega)
   refine Qo (Qe (Q0 (Qe (Qh [true,true,true,false,true,false] Z Z (Qa (Qd Z) Z ?_)))))
   have hi1 : i < g.nodes.length:=(by first | assumption | omega | (simp only [List.length_set];first | assumption | omega) | (simp only [List.getElem_set_self,List.length_set];first | assumption | omega) | (simp only [Yn,Yh,List.length_set];first | assumption | omega))
   obtain ⟨_,hr1,ha1⟩:=RdD.get hd1 hi1
   obtain ⟨o2,rfl,hd2⟩:=Node.op hr1
   replace ha1 : At w (Y6 o1) (Y8 o1 + i * 4) [.int .i64 ((g.nodes[i]'hi1).kind),.int .i64 ((g.nodes[i]'hi1).a),.int .i64 ((g.nodes[i]'hi1).b),o2]:=ha1
   refine Qa (Qz (i:=i) G0 Z Z (hd1.ext E).1 hi1) Z (Qa (Qy Uf Z (ha1.ext E) Z) Z (Yo Uf Z (fun b2 w7 e5 s2 h2=>?_)))
   have g_b2 : w.heap.size ≤ b2:=by have:=E.size;omega
   have y_b2:=h2.lt
   replace E:=E.trans e5;replace h1:=h1.ext e5
   have z7:=e5.size
   refine Qa (Qf Z) Z (Q4 (cs':=[.int .i64 ((g.nodes[i]'hi1).kind),.int .i64 ((g.nodes[i]'hi1).a),.int .i64 ((g.nodes[i]'hi1).b),o2]) Uf Z Z Z (Qj Z (Qj Z (Qj Z (Qj (RdD.one (hd2.ext E)) Z)))) h2 (Nat.le_of_ble_eq_true Z) Z (fun w8 m1 h2'=>?_))
   replace h2:=h2'
   replace E:=E.step m1 (fun g hg=>by cases hg;omega);replace h1:=h1.mod m1 (fun g hg=>by cases hg;omega)
   have z8:=m1.size
   refine Qc (Qe (Qe (Qh [true,false,true,true,true,true,true,true,true,true,true] Z Z (Qa (Qy Uf Z h2.at Z) Z (Qw Tryz.call134 Z (c_NodeOk [.int .i64 ((g.nodes[i]'hi1).kind),.int .i64 ((g.nodes[i]'hi1).a),.int .i64 ((g.nodes[i]'hi1).b),o2] (g.nodes[i]'hi1) _ (Node.mkR (g.nodes[i]'hi1) (RdD.any (hd2.ext E)))) Z (fun _ w9 e6 hv=>?_))))))
   subst hv
   replace E:=E.trans e6;replace h1:=h1.ext e6;replace h2:=h2.ext e6
   have z9:=e6.size
   refine Qa (Yy Z) Z (Qa (Qd Z) Z (Xf 7 [(1,.pointer (some ⟨b1,0,none⟩)),(2,.bool false),(3,.int .i64 ((i : Nat) : Int)),(4,.pointer (some ⟨b2,0,none⟩)),(26,o1),(27,.int .i64 ((g.nodes.length : Nat) : Int)),(28,.int .i64 ((i : Nat) : Int)),(29,.bool (decide (((i : Nat) : Int) < ((g.nodes.length : Nat) : Int)))),(30,.int .i64 ((i : Nat) : Int)),(31,.pointer (some ⟨Y6 o1,Y8 o1 + i * 4,none⟩)),(32,.agg [.int .i64 ((g.nodes[i]'hi1).kind),.int .i64 ((g.nodes[i]'hi1).a),.int .i64 ((g.nodes[i]'hi1).b),o2].toArray),(43,.bool ((!(Ke (g.nodes[i]'hi1))) || (!((((g.nodes[i]'hi1).kind) == 1) == (((i : Nat) : Int) == 0)))))] (fun w'=>w9 = w') ?_ ?_))
   ·refine Y4 (gd:=36) Z Z (fun hg3=>?_) (fun hg3=>?_)
    ·refine Qg Z Z Z Z (Qg Z Z Z Z (Qg Z Z Z Z (Qg Z Z Z Z (Qg Z Z Z Z (Qg Z Z Z Z (Qa (Qx Z Z) Z (Qr ⟨Z,Z,Z,Z,Z,Z,Z,Z,Z,Z,Z,congrArg (fun b=>some (Value.bool b)) (show true = ((!(Ke (g.nodes[i]'hi1))) || (!((((g.nodes[i]'hi1).kind) == 1) == (((i : Nat) : Int) == 0)))) by first | (rw [hg3] <;> rfl) | (simp [hg3];done) | (simp only [Qq] <;> simp)),trivial⟩ Z)))))))
    ·refine Qn Z Z (Qb Kj Z) Z (Qn Z Z (Qk Yt Z (h2.one 0 Z)) Z (Qn Z Z (Xm Z Z) Z (Qn Z Z (Qd Z) Z (Qn Z Z (Xm Z Z) Z (Qn Z Z (U8 (Tryz.underlying4) Z Z) Z (Qa (Q1 Z Z) Z (Qr ⟨Z,Z,Z,Z,Z,Z,Z,Z,Z,Z,Z,congrArg (fun b=>some (Value.bool b)) (show (!((((g.nodes[i]'hi1).kind) == 1) == (((i : Nat) : Int) == 0))) = ((!(Ke (g.nodes[i]'hi1))) || (!((((g.nodes[i]'hi1).kind) == 1) == (((i : Nat) : Int) == 0)))) by first | (rw [hg3] <;> rfl) | (simp [hg3];done) | (simp only [Qq] <;> simp)),trivial⟩ Z)))))))
   rintro _ rfl
   refine Qc (Qt Z (fun hc3=>?_) (fun hc3=>?_))
   ·refine Qe (Qh [true] Z Z (Qa (Qf Z) Z (Qc (Qv (Q2 (Yv (Q2 (Qm Z Z E ?_))))))))
    exact graph_a (by assumption)
   ·refine Qo (Qe (Qh [true,true,true,true] Z Z (Qa (Qb Xu Z) Z (Qa (Qk K0 Z (h2.one 3 Z)) Z (Qa (Yc Tryz.underlying76 Z (hd2.ext E).len) Z (Qa (Qd Z) Z (Qc (Q0 (Yp (fun (k : Nat)=>[(1,.pointer (some ⟨b1,0,none⟩)),(2,.bool false),(3,.int .i64 ((i : Nat) : Int)),(4,.pointer (some ⟨b2,0,none⟩)),(26,o1),(27,.int .i64 ((g.nodes.length : Nat) : Int)),(28,.int .i64 ((i : Nat) : Int)),(45,o2),(46,.int .i64 ((((g.nodes[i]'hi1).outs).length : Nat) : Int)),(47,.int .i64 ((k : Nat) : Int))]) (fun (k : Nat) w'=>Ext w w' ∧ w9.heap.size ≤ w'.heap.size ∧ Blk w' b1 ([o1,.int .i64 g.workers,.int .i64 g.cap]) ∧ Blk w' b2 [.int .i64 ((g.nodes[i]'hi1).kind),.int .i64 ((g.nodes[i]'hi1).a),.int .i64 ((g.nodes[i]'hi1).b),o2] ∧ k ≤ (g.nodes[i]'hi1).outs.length ∧ ((g.nodes[i]'hi1).outs.take k).all (fun to=>!Uh g i (g.nodes[i]'hi1) to) = true) (fun (k : Nat)=>(g.nodes[i]'hi1).outs.length - k) 0 ⟨Z,Z,Z,Z,Z,Z,Z,Z,Z,Z,trivial⟩ ⟨E,Nat.le_refl _,h1,h2,Nat.zero_le _,Z⟩ ?_)))))))))
    clear E h1 h2
    rintro k w11 ⟨E,z10,h1,h2,hk,hI⟩
    refine Qe (Qh [true] Z Z (Qa (Yi Z Z) Z (Qc (Qe (Qt Z (fun hc4=>?_) (fun hc4=>?_))))))
    ·have hc4n : k < ((g.nodes[i]'hi1).outs).length:=by first | (have h:=of_decide_eq_true hc4;omega) | (have h:=hc4;simp at h;omega)
     refine Qo (Qe (Q0 (Qe (Qh [true,true,true] Z Z ?_))))
     have hi2 : k < ((g.nodes[i]'hi1).outs).length:=(by first | assumption | omega | (simp only [List.length_set];first | assumption | omega) | (simp only [List.getElem_set_self,List.length_set];first | assumption | omega) | (simp only [Yn,Yh,List.length_set];first | assumption | omega))
     refine Qa (Qz (i:=k) Ux Z Z (hd2.rd.ext E) hi2) Z (Qa (Qk Yt Z (((hd2.rd.ext E).get hi2).one 0 Z)) Z (Qa (Qf Z) Z (Qc (Qe (Qe (Qh [true,true,true,true,true] Z Z (Qa (Qd Z) Z (Qa (Qb Kw Z) Z (Qa (Qk Gn Z (h1.one 0 Z)) Z (Qa (Yc Tryz.underlying32 Z (hd1.ext E).len) Z (Qa (Tt Z Z) Z (Qc (Qt Z (fun hc5=>?_) (fun hc5=>?_))))))))))))))
     ·refine Qe (Qh [true] Z Z (Qa (Qf Z) Z (Qc (Qv (Q2 (Yv (Q2 (Q2 (Yv (Q2 (Qm Z Z E ?_)))))))))))
      exact Bb (edge_a (by assumption))
     ·have hto:=By (h1:=hi1) (h2:=hi2) (by assumption)
      have htl:=Int.not_le.1 (of_decide_eq_false hc5)
      refine Qo (Qe (Qh [true,true,true,true,true,true,true] Z Z (Qa (Qb Kw Z) Z (Qa (Qk Gn Z (h1.one 0 Z)) Z (Qa (Qd Z) Z ?_)))))
      have hi3 : (Int.toNat (((g.nodes[i]'hi1).outs)[k]'hi2)) < g.nodes.length:=(by first | assumption | omega | (simp only [List.length_set];first | assumption | omega) | (simp only [List.getElem_set_self,List.length_set];first | assumption | omega) | (simp only [Yn,Yh,List.length_set];first | assumption | omega))
      obtain ⟨_,hr2,ha2⟩:=RdD.get hd1 hi3
      obtain ⟨o3,rfl,hd3⟩:=Node.op hr2
      replace ha2 : At w (Y6 o1) (Y8 o1 + (Int.toNat (((g.nodes[i]'hi1).outs)[k]'hi2)) * 4) [.int .i64 ((g.nodes[(Int.toNat (((g.nodes[i]'hi1).outs)[k]'hi2))]'hi3).kind),.int .i64 ((g.nodes[(Int.toNat (((g.nodes[i]'hi1).outs)[k]'hi2))]'hi3).a),.int .i64 ((g.nodes[(Int.toNat (((g.nodes[i]'hi1).outs)[k]'hi2))]'hi3).b),o3]:=ha2
      refine Qa (Xk (i:=(Int.toNat (((g.nodes[i]'hi1).outs)[k]'hi2))) G0 Z Z (hd1.ext E).1 (by omega) hi3) Z (Qa (Qs Kj Z) Z (Qa (Qk Yt Z ((ha2.ext E).one 0 Z)) Z (Qa (Qf Z) Z (Qc (Qe (Qh [true,true,true,true,true,true,true,true,true,true,true,true,true,true,true,true,true,true,true,true,true,true,true,true,true,true] Z Z (Qa (Qb Kj Z) Z (Qa (Qk Yt Z (h2.one 0 Z)) Z (Qa (Xm Z Z) Z (Qa (Qd Z) Z (Xf 22 [(1,.pointer (some ⟨b1,0,none⟩)),(2,.bool false),(3,.int .i64 ((i : Nat) : Int)),(4,.pointer (some ⟨b2,0,none⟩)),(6,.int .i64 (((g.nodes[i]'hi1).outs)[k]'hi2)),(7,.int .i64 ((g.nodes[(Int.toNat (((g.nodes[i]'hi1).outs)[k]'hi2))]'hi3).kind)),(26,o1),(27,.int .i64 ((g.nodes.length : Nat) : Int)),(28,.int .i64 ((i : Nat) : Int)),(45,o2),(46,.int .i64 ((((g.nodes[i]'hi1).outs).length : Nat) : Int)),(47,.int .i64 ((k : Nat) : Int)),(48,.bool (decide (((k : Nat) : Int) < ((((g.nodes[i]'hi1).outs).length : Nat) : Int)))),(49,.pointer (some ⟨Y6 o2,Y8 o2 + k * 1,none⟩)),(50,.int .i64 (((g.nodes[i]'hi1).outs)[k]'hi2)),(51,.int .i64 (((g.nodes[i]'hi1).outs)[k]'hi2)),(52,.pointer (some ⟨b1,0,none⟩)),(53,o1),(54,.int .i64 ((g.nodes.length : Nat) : Int)),(55,.bool (decide (((g.nodes.length : Nat) : Int) ≤ (((g.nodes[i]'hi1).outs)[k]'hi2)))),(56,.pointer (some ⟨b1,0,none⟩)),(57,o1),(58,.int .i64 (((g.nodes[i]'hi1).outs)[k]'hi2)),(59,.pointer (some ⟨Y6 o1,Y8 o1 + (Int.toNat (((g.nodes[i]'hi1).outs)[k]'hi2)) * 4,none⟩)),(60,.pointer (some ⟨(Y6 o1),Y8 o1 + (Int.toNat (((g.nodes[i]'hi1).outs)[k]'hi2)) * 4 + 0,none⟩)),(61,.int .i64 ((g.nodes[(Int.toNat (((g.nodes[i]'hi1).outs)[k]'hi2))]'hi3).kind)),(87,.bool (((((g.nodes[i]'hi1).kind) == 7) && ((decide (((i : Nat) : Int) < (((g.nodes[i]'hi1).outs)[k]'hi2))) || ((((g.nodes[(Int.toNat (((g.nodes[i]'hi1).outs)[k]'hi2))]'hi3).kind) != 5) && (((g.nodes[(Int.toNat (((g.nodes[i]'hi1).outs)[k]'hi2))]'hi3).kind) != 6)))) || ((((g.nodes[i]'hi1).kind) != 7) && (decide ((((g.nodes[i]'hi1).outs)[k]'hi2) ≤ ((i : Nat) : Int))))))] (fun w'=>w11 = w') ?_ ?_)))))))))))
      ·refine Y4 (gd:=65) Z Z (fun hg4=>?_) (fun hg4=>?_)
       ·refine Qn Z Z (Qd Z) Z (Qn Z Z (Qd Z) Z (Qn Z Z (G8 Z Z) Z (Qn Z Z (Qd Z) Z ?_)))
        refine Y4 (gd:=69) Z Z (fun hg5=>?_) (fun hg5=>?_)
        ·refine Qg Z Z Z Z (Qg Z Z Z Z (Qg Z Z Z Z (Ya Z Z Z (Ya Z Z Z (Qg Z Z Z Z (Qn Z Z (Qx Z Z) Z (Qa (Qx Z Z) Z (Qa (Qd Z) Z (Qg Z Z Z Z (Qg Z Z Z Z (Qg Z Z Z Z (Qg Z Z Z Z (Ya Z Z Z (Ya Z Z Z (Ya Z Z Z (Qg Z Z Z Z (Qa (Qx Z Z) Z (Qr ⟨Z,Z,Z,Z,Z,Z,Z,Z,Z,Z,Z,Z,Z,Z,Z,Z,Z,Z,Z,Z,Z,Z,Z,Z,Z,Z,congrArg (fun b=>some (Value.bool b)) (show true = (((((g.nodes[i]'hi1).kind) == 7) && ((decide (((i : Nat) : Int) < (((g.nodes[i]'hi1).outs)[k]'hi2))) || ((((g.nodes[(Int.toNat (((g.nodes[i]'hi1).outs)[k]'hi2))]'hi3).kind) != 5) && (((g.nodes[(Int.toNat (((g.nodes[i]'hi1).outs)[k]'hi2))]'hi3).kind) != 6)))) || ((((g.nodes[i]'hi1).kind) != 7) && (decide ((((g.nodes[i]'hi1).outs)[k]'hi2) ≤ ((i : Nat) : Int))))) by first | (rw [hg4,hg5] <;> rfl) | (simp [hg4,hg5];done) | (simp only [Qq] <;> simp)),trivial⟩ Z))))))))))))))))))
        ·refine Qn Z Z (Qd Z) Z (Qn Z Z (Yu Z Z) Z (Qn Z Z (Qd Z) Z ?_))
         refine Y4 (gd:=72) Z Z (fun hg6=>?_) (fun hg6=>?_)
         ·refine Qn Z Z (Qd Z) Z (Qn Z Z (Yu Z Z) Z (Qn Z Z (Qx Z Z) Z (Qn Z Z (Q1 Z Z) Z (Qa (Qx Z Z) Z (Qa (Qd Z) Z ?_)))))
          refine Y4 (gd:=78) Z Z (fun hg7=>?_) (fun hg7=>?_)
          ·refine Qg Z Z Z Z (Qg Z Z Z Z (Qg Z Z Z Z (Qg Z Z Z Z (Ya Z Z Z (Ya Z Z Z (Ya Z Z Z (Qg Z Z Z Z (Qa (Qx Z Z) Z (Qr ⟨Z,Z,Z,Z,Z,Z,Z,Z,Z,Z,Z,Z,Z,Z,Z,Z,Z,Z,Z,Z,Z,Z,Z,Z,Z,Z,congrArg (fun b=>some (Value.bool b)) (show true = (((((g.nodes[i]'hi1).kind) == 7) && ((decide (((i : Nat) : Int) < (((g.nodes[i]'hi1).outs)[k]'hi2))) || ((((g.nodes[(Int.toNat (((g.nodes[i]'hi1).outs)[k]'hi2))]'hi3).kind) != 5) && (((g.nodes[(Int.toNat (((g.nodes[i]'hi1).outs)[k]'hi2))]'hi3).kind) != 6)))) || ((((g.nodes[i]'hi1).kind) != 7) && (decide ((((g.nodes[i]'hi1).outs)[k]'hi2) ≤ ((i : Nat) : Int))))) by first | (rw [hg4,hg5,hg6,hg7] <;> rfl) | (simp [hg4,hg5,hg6,hg7];done) | (simp only [Qq] <;> simp)),trivial⟩ Z)))))))))
          ·refine Qn Z Z (Qb Kj Z) Z (Qn Z Z (Qk Yt Z (h2.one 0 Z)) Z (Qn Z Z (Yu Z Z) Z (Qn Z Z (Qd Z) Z ?_)))
           refine Y4 (gd:=82) Z Z (fun hg8=>?_) (fun hg8=>?_)
           ·refine Qn Z Z (Qd Z) Z (Qn Z Z (Qd Z) Z (Qn Z Z (Dv Z Z) Z (Qn Z Z (Qx Z Z) Z (Qa (Q1 Z Z) Z (Qr ⟨Z,Z,Z,Z,Z,Z,Z,Z,Z,Z,Z,Z,Z,Z,Z,Z,Z,Z,Z,Z,Z,Z,Z,Z,Z,Z,congrArg (fun b=>some (Value.bool b)) (show (decide ((((g.nodes[i]'hi1).outs)[k]'hi2) ≤ ((i : Nat) : Int))) = (((((g.nodes[i]'hi1).kind) == 7) && ((decide (((i : Nat) : Int) < (((g.nodes[i]'hi1).outs)[k]'hi2))) || ((((g.nodes[(Int.toNat (((g.nodes[i]'hi1).outs)[k]'hi2))]'hi3).kind) != 5) && (((g.nodes[(Int.toNat (((g.nodes[i]'hi1).outs)[k]'hi2))]'hi3).kind) != 6)))) || ((((g.nodes[i]'hi1).kind) != 7) && (decide ((((g.nodes[i]'hi1).outs)[k]'hi2) ≤ ((i : Nat) : Int))))) by first | (rw [hg4,hg5,hg6,hg7,hg8] <;> rfl) | (simp [hg4,hg5,hg6,hg7,hg8];done) | (simp only [Qq] <;> simp)),trivial⟩ Z)))))
           ·refine Qg Z Z Z Z (Qg Z Z Z Z (Qg Z Z Z Z (Qn Z Z (Q1 Z Z) Z (Qa (Q1 Z Z) Z (Qr ⟨Z,Z,Z,Z,Z,Z,Z,Z,Z,Z,Z,Z,Z,Z,Z,Z,Z,Z,Z,Z,Z,Z,Z,Z,Z,Z,congrArg (fun b=>some (Value.bool b)) (show false = (((((g.nodes[i]'hi1).kind) == 7) && ((decide (((i : Nat) : Int) < (((g.nodes[i]'hi1).outs)[k]'hi2))) || ((((g.nodes[(Int.toNat (((g.nodes[i]'hi1).outs)[k]'hi2))]'hi3).kind) != 5) && (((g.nodes[(Int.toNat (((g.nodes[i]'hi1).outs)[k]'hi2))]'hi3).kind) != 6)))) || ((((g.nodes[i]'hi1).kind) != 7) && (decide ((((g.nodes[i]'hi1).outs)[k]'hi2) ≤ ((i : Nat) : Int))))) by first | (rw [hg4,hg5,hg6,hg7,hg8] <;> rfl) | (simp [hg4,hg5,hg6,hg7,hg8];done) | (simp only [Qq] <;> simp)),trivial⟩ Z)))))
         ·refine Qg Z Z Z Z (Qg Z Z Z Z (Qn Z Z (Q1 Z Z) Z (Qn Z Z (Q1 Z Z) Z (Qa (Qx Z Z) Z (Qa (Qd Z) Z (Qn Z Z (Qb Kj Z) Z (Qn Z Z (Qk Yt Z (h2.one 0 Z)) Z (Qn Z Z (Yu Z Z) Z (Qn Z Z (Qd Z) Z ?_)))))))))
          refine Y4 (gd:=82) Z Z (fun hg9=>?_) (fun hg9=>?_)
          ·refine Qn Z Z (Qd Z) Z (Qn Z Z (Qd Z) Z (Qn Z Z (Dv Z Z) Z (Qn Z Z (Qx Z Z) Z (Qa (Q1 Z Z) Z (Qr ⟨Z,Z,Z,Z,Z,Z,Z,Z,Z,Z,Z,Z,Z,Z,Z,Z,Z,Z,Z,Z,Z,Z,Z,Z,Z,Z,congrArg (fun b=>some (Value.bool b)) (show (decide ((((g.nodes[i]'hi1).outs)[k]'hi2) ≤ ((i : Nat) : Int))) = (((((g.nodes[i]'hi1).kind) == 7) && ((decide (((i : Nat) : Int) < (((g.nodes[i]'hi1).outs)[k]'hi2))) || ((((g.nodes[(Int.toNat (((g.nodes[i]'hi1).outs)[k]'hi2))]'hi3).kind) != 5) && (((g.nodes[(Int.toNat (((g.nodes[i]'hi1).outs)[k]'hi2))]'hi3).kind) != 6)))) || ((((g.nodes[i]'hi1).kind) != 7) && (decide ((((g.nodes[i]'hi1).outs)[k]'hi2) ≤ ((i : Nat) : Int))))) by first | (rw [hg4,hg5,hg6,hg9] <;> rfl) | (simp [hg4,hg5,hg6,hg9];done) | (simp only [Qq] <;> simp)),trivial⟩ Z)))))
          ·refine Qg Z Z Z Z (Qg Z Z Z Z (Qg Z Z Z Z (Qn Z Z (Q1 Z Z) Z (Qa (Q1 Z Z) Z (Qr ⟨Z,Z,Z,Z,Z,Z,Z,Z,Z,Z,Z,Z,Z,Z,Z,Z,Z,Z,Z,Z,Z,Z,Z,Z,Z,Z,congrArg (fun b=>some (Value.bool b)) (show false = (((((g.nodes[i]'hi1).kind) == 7) && ((decide (((i : Nat) : Int) < (((g.nodes[i]'hi1).outs)[k]'hi2))) || ((((g.nodes[(Int.toNat (((g.nodes[i]'hi1).outs)[k]'hi2))]'hi3).kind) != 5) && (((g.nodes[(Int.toNat (((g.nodes[i]'hi1).outs)[k]'hi2))]'hi3).kind) != 6)))) || ((((g.nodes[i]'hi1).kind) != 7) && (decide ((((g.nodes[i]'hi1).outs)[k]'hi2) ≤ ((i : Nat) : Int))))) by first | (rw [hg4,hg5,hg6,hg9] <;> rfl) | (simp [hg4,hg5,hg6,hg9];done) | (simp only [Qq] <;> simp)),trivial⟩ Z)))))
       ·refine Qg Z Z Z Z (Qg Z Z Z Z (Qg Z Z Z Z (Qg Z Z Z Z (Ya Z Z Z (Ya Z Z Z (Ya Z Z Z (Ya Z Z Z (Ya Z Z Z (Ya Z Z Z (Qg Z Z Z Z (Qa (Q1 Z Z) Z (Qa (Qd Z) Z (Qn Z Z (Qb Kj Z) Z (Qn Z Z (Qk Yt Z (h2.one 0 Z)) Z (Qn Z Z (Yu Z Z) Z (Qn Z Z (Qd Z) Z ?_))))))))))))))))
        refine Y4 (gd:=82) Z Z (fun hg10=>?_) (fun hg10=>?_)
        ·refine Qn Z Z (Qd Z) Z (Qn Z Z (Qd Z) Z (Qn Z Z (Dv Z Z) Z (Qn Z Z (Qx Z Z) Z (Qa (Q1 Z Z) Z (Qr ⟨Z,Z,Z,Z,Z,Z,Z,Z,Z,Z,Z,Z,Z,Z,Z,Z,Z,Z,Z,Z,Z,Z,Z,Z,Z,Z,congrArg (fun b=>some (Value.bool b)) (show (decide ((((g.nodes[i]'hi1).outs)[k]'hi2) ≤ ((i : Nat) : Int))) = (((((g.nodes[i]'hi1).kind) == 7) && ((decide (((i : Nat) : Int) < (((g.nodes[i]'hi1).outs)[k]'hi2))) || ((((g.nodes[(Int.toNat (((g.nodes[i]'hi1).outs)[k]'hi2))]'hi3).kind) != 5) && (((g.nodes[(Int.toNat (((g.nodes[i]'hi1).outs)[k]'hi2))]'hi3).kind) != 6)))) || ((((g.nodes[i]'hi1).kind) != 7) && (decide ((((g.nodes[i]'hi1).outs)[k]'hi2) ≤ ((i : Nat) : Int))))) by first | (rw [hg4,hg10] <;> rfl) | (simp [hg4,hg10];done) | (simp only [Qq] <;> simp)),trivial⟩ Z)))))
        ·refine Qg Z Z Z Z (Qg Z Z Z Z (Qg Z Z Z Z (Qn Z Z (Q1 Z Z) Z (Qa (Q1 Z Z) Z (Qr ⟨Z,Z,Z,Z,Z,Z,Z,Z,Z,Z,Z,Z,Z,Z,Z,Z,Z,Z,Z,Z,Z,Z,Z,Z,Z,Z,congrArg (fun b=>some (Value.bool b)) (show false = (((((g.nodes[i]'hi1).kind) == 7) && ((decide (((i : Nat) : Int) < (((g.nodes[i]'hi1).outs)[k]'hi2))) || ((((g.nodes[(Int.toNat (((g.nodes[i]'hi1).outs)[k]'hi2))]'hi3).kind) != 5) && (((g.nodes[(Int.toNat (((g.nodes[i]'hi1).outs)[k]'hi2))]'hi3).kind) != 6)))) || ((((g.nodes[i]'hi1).kind) != 7) && (decide ((((g.nodes[i]'hi1).outs)[k]'hi2) ≤ ((i : Nat) : Int))))) by first | (rw [hg4,hg10] <;> rfl) | (simp [hg4,hg10];done) | (simp only [Qq] <;> simp)),trivial⟩ Z)))))
      rintro _ rfl
      refine Qc (Qt Z (fun hc6=>?_) (fun hc6=>?_))
      ·refine Qe (Qh [true] Z Z (Qa (Qf Z) Z (Qc (Qv (Q2 (Yv (Q2 (Q2 (Yv (Q2 (Qm Z Z E ?_)))))))))))
       exact Bb (edge_b (congrArg Node.kind (Xl _)).symm (by assumption))
      ·refine Qo (Q6 (Y0 (Qh [true,true] Z Z (Qa (Ye Z Z (Y3 hc4n (hd2.ext E).1.1)) Z (Qa (Qd Z) Z (Qc (Q6 (Yk (k + 1) (by omega) ⟨Z,Z,Z,Z,Z,Z,Z,Z,Z,Z,trivial⟩ ⟨E,(by omega),h1,h2,(by omega),Kh hI (by assumption) (edge_n (congrArg Node.kind (Xl _)).symm (by assumption) (by assumption))⟩))))))))
    ·have hc4n : ¬ k < ((g.nodes[i]'hi1).outs).length:=by first | (have h:=of_decide_eq_false hc4;omega) | (have h:=hc4;simp at h;omega)
     refine Yq (Q5 (Q3 ?_))
     refine Q6 (Y0 (Qh [true,true] Z Z (Qa (Ye Z Z (Y3 hc2n (hd1.ext E).1.1)) Z (Qa (Qd Z) Z (Qc (Q6 (Yk (i + 1) (by omega) ⟨Z,Z,Z,Z,Z,trivial⟩ ⟨E,(by omega),h1,(by omega),graph_s (h1:=hi1) (by assumption) hI (by omega) hp⟩)))))))
  ·have hc2n : ¬ i < g.nodes.length:=by first | (have h:=of_decide_eq_false hc2;omega) | (have h:=hc2;simp at h;omega)
   refine Yq (Q5 (Q3 ?_))
   refine Qe (Qh [true] Z Z (Qa (Qf Z) Z (Qc (Qv (Qm Z Z E ?_)))))
   exact graph_y (by assumption) hp (by omega)

set_option maxHeartbeats 4000000 in
set_option maxRecDepth 20000 in
theorem s_GraphOk (cg : List Value) (g : Graph) (w : World) (hg : Dat.R w 0 w.heap.size cg g) : Ct Tryz.prog 102 [.agg cg.toArray] w (fun v _=>v = .bool (Xb g)):=by
 refine Ym Tryz.func102 Z Tryz.ntmps102 Z ?_
 obtain ⟨o1,rfl,hd1⟩:=Graph.op hg
 refine Q8 [(0,.agg [o1,.int .i64 g.workers,.int .i64 g.cap].toArray)] ⟨Z,trivial⟩ ?_
 have E : Ext w w:=Ext.refl w
 refine Qe (Qh [false,true] Z Z (Y1 Z Z (fun b1 w1 e1 s1 h1=>?_)))
 have g_b1 : w.heap.size ≤ b1:=by have:=E.size;omega
 have y_b1:=h1.lt
 replace E:=E.trans e1
 have z1:=e1.size
 refine Qa (Qf Z) Z (Qc (Qe (Qe (Qh [true,true,true,false,true,true,true,true,false,true,true,true,true,true,false,true,true] Z Z (Qa (Qb Kw Z) Z (Qa (Qk Gn Z (h1.one 0 Z)) Z (Qa (Yc Tryz.underlying32 Z (hd1.ext E).len) Z (Qw Tryz.call106 Z (s_l01In ((g.nodes.length : Nat) : Int) 1 8 _ ) Z (fun _ w2 e2 hv=>?_)))))))))
 subst hv
 replace E:=E.trans e2;replace h1:=h1.ext e2
 have z2:=e2.size
 refine Qa (Yy Z) Z (Qa (Qd Z) Z (Xf 11 [(0,.agg [o1,.int .i64 g.workers,.int .i64 g.cap].toArray),(1,.pointer (some ⟨b1,0,none⟩)),(2,.bool false),(24,.bool (((!(Yr ((g.nodes.length : Nat) : Int) 1 8)) || (!(Yr g.workers 1 4))) || (!(Yr g.cap 1 4))))] (fun w'=>Ext w w' ∧ w2.heap.size ≤ w'.heap.size ∧ Blk w' b1 ([o1,.int .i64 g.workers,.int .i64 g.cap])) ?_ ?_))
 ·refine Y4 (gd:=13) Z Z (fun hg1=>?_) (fun hg1=>?_)
  ·refine Qg Z Z Z Z (Qg Z Z Z Z ?_)
   refine Yx Z Z Z Z ?_
   refine Qg Z Z Z Z (Qa (Qx Z Z) Z (Qa (Qd Z) Z (Qg Z Z Z Z (Qg Z Z Z Z ?_))))
   refine Yx Z Z Z Z ?_
   refine Qg Z Z Z Z (Qa (Qx Z Z) Z (Qr ⟨Z,Z,Z,congrArg (fun b=>some (Value.bool b)) (show true = (((!(Yr ((g.nodes.length : Nat) : Int) 1 8)) || (!(Yr g.workers 1 4))) || (!(Yr g.cap 1 4))) by first | (rw [hg1] <;> rfl) | (simp [hg1];done) | (simp only [Qq] <;> simp)),trivial⟩ ⟨E,(by omega),h1⟩))
  ·refine Qn Z Z (Qb Vf Z) Z (Qn Z Z (Qk Yt Z (h1.one 1 Z)) Z ?_)
   refine X2 Z Z ?_
   refine Qw Tryz.call106 Z (s_l01In g.workers 1 4 _ ) Z (fun _ w4 e3 hv=>?_)
   subst hv
   replace E:=E.trans e3;replace h1:=h1.ext e3
   have z3:=e3.size
   refine Qn Z Z (Yy Z) Z (Qa (Q1 Z Z) Z (Qa (Qd Z) Z ?_))
   refine Y4 (gd:=19) Z Z (fun hg2=>?_) (fun hg2=>?_)
   ·refine Qg Z Z Z Z (Qg Z Z Z Z ?_)
    refine Yx Z Z Z Z ?_
    refine Qg Z Z Z Z (Qa (Qx Z Z) Z (Qr ⟨Z,Z,Z,congrArg (fun b=>some (Value.bool b)) (show true = (((!(Yr ((g.nodes.length : Nat) : Int) 1 8)) || (!(Yr g.workers 1 4))) || (!(Yr g.cap 1 4))) by first | (rw [hg1,hg2] <;> rfl) | (simp [hg1,hg2];done) | (simp only [Qq] <;> simp)),trivial⟩ ⟨E,(by omega),h1⟩))
   ·refine Qn Z Z (Qb T8 Z) Z (Qn Z Z (Qk Yt Z (h1.one 2 Z)) Z ?_)
    refine X2 Z Z ?_
    refine Qw Tryz.call106 Z (s_l01In g.cap 1 4 _ ) Z (fun _ w5 e4 hv=>?_)
    subst hv
    replace E:=E.trans e4;replace h1:=h1.ext e4
    have z4:=e4.size
    refine Qn Z Z (Yy Z) Z (Qa (Q1 Z Z) Z (Qr ⟨Z,Z,Z,congrArg (fun b=>some (Value.bool b)) (show (!(Yr g.cap 1 4)) = (((!(Yr ((g.nodes.length : Nat) : Int) 1 8)) || (!(Yr g.workers 1 4))) || (!(Yr g.cap 1 4))) by first | (rw [hg1,hg2] <;> rfl) | (simp [hg1,hg2];done) | (simp only [Qq] <;> simp)),trivial⟩ ⟨E,(by omega),h1⟩))
 clear E h1
 rintro w3 ⟨E,z5,h1⟩
 refine Qc (Qt Z (fun hc1=>?_) (fun hc1=>?_))
 ·refine Qe (Qh [true] Z Z (Qa (Qf Z) Z (Qc (Qv (Qm Z Z E ?_)))))
  exact graph_h (by assumption)
 ·refine Qo (Qe (Qe (Qh [true] Z Z (Qa (Qf Z) Z (Qc (Q0 (Yp (fun (i : Nat)=>[(1,.pointer (some ⟨b1,0,none⟩)),(2,.bool false),(3,.int .i64 ((i : Nat) : Int))]) (fun (i : Nat) w'=>Ext w w' ∧ w3.heap.size ≤ w'.heap.size ∧ Blk w' b1 ([o1,.int .i64 g.workers,.int .i64 g.cap]) ∧ i ≤ g.nodes.length ∧ (∀ j,j < i → K9 g j (List.getD g.nodes j default) = true)) (fun (i : Nat)=>g.nodes.length - i) 0 ⟨Z,Z,Z,trivial⟩ ⟨E,Nat.le_refl _,h1,Nat.zero_le _,(fun j hj=>by omega)⟩ ?_)))))))
  clear E h1
  rintro i w6 ⟨E,z6,h1,hle,hp⟩
  refine Qe (Qe (Qh [true,true,true,true,true] Z Z (Qa (Qd Z) Z (Qa (Qb Kw Z) Z (Qa (Qk Gn Z (h1.one 0 Z)) Z (Qa (Yc Tryz.underlying32 Z (hd1.ext E).len) Z (Qa (Yi Z Z) Z (Qc (Qt Z (fun hc2=>?_) (fun hc2=>?_))))))))))
  ·have hc2n : i < g.nodes.length:=by first | (have h:=of_decide_eq_true hc2;omega) | (have h:=hc2;simp at h;omega)
   refine Qo (Qe (Q0 (Qe (Qh [true,true,true,true,true,false,false] Z Z (Qa (Qb Kw Z) Z (Qa (Qk Gn Z (h1.one 0 Z)) Z (Qa (Qd Z) Z ?_)))))))
   have hi1 : i < g.nodes.length:=(by first | assumption | omega | (simp only [List.length_set];first | assumption | omega) | (simp only [List.getElem_set_self,List.length_set];first | assumption | omega) | (simp only [Yn,Yh,List.length_set];first | assumption | omega))
   obtain ⟨_,hr1,ha1⟩:=RdD.get hd1 hi1
   obtain ⟨o2,rfl,hd2⟩:=Node.op hr1
   replace ha1 : At w (Y6 o1) (Y8 o1 + i * 4) [.int .i64 ((g.nodes[i]'hi1).kind),.int .i64 ((g.nodes[i]'hi1).a),.int .i64 ((g.nodes[i]'hi1).b),o2]:=ha1
   refine Qa (Qz (i:=i) G0 Z Z (hd1.ext E).1 hi1) Z (Qa (Qy Uf Z (ha1.ext E) Z) Z (Yo Uf Z (fun b2 w7 e5 s2 h2=>?_)))
   have g_b2 : w.heap.size ≤ b2:=by have:=E.size;omega
   have y_b2:=h2.lt
   replace E:=E.trans e5;replace h1:=h1.ext e5
   have z7:=e5.size
   refine Q4 (cs':=[.int .i64 ((g.nodes[i]'hi1).kind),.int .i64 ((g.nodes[i]'hi1).a),.int .i64 ((g.nodes[i]'hi1).b),o2]) Uf Z Z Z (Qj Z (Qj Z (Qj Z (Qj (RdD.one (hd2.ext E)) Z)))) h2 (Nat.le_of_ble_eq_true Z) Z (fun w8 m1 h2'=>?_)
   replace h2:=h2'
   replace E:=E.step m1 (fun g hg=>by cases hg;omega);replace h1:=h1.mod m1 (fun g hg=>by cases hg;omega)
   have z8:=m1.size
   refine Qc (Qe (Qe (Qh [true,false,true,true,true,true,true,true,true,true,true] Z Z (Qa (Qy Uf Z h2.at Z) Z (Qw Tryz.call129 Z (s_NodeOk [.int .i64 ((g.nodes[i]'hi1).kind),.int .i64 ((g.nodes[i]'hi1).a),.int .i64 ((g.nodes[i]'hi1).b),o2] (g.nodes[i]'hi1) _ (Node.mkR (g.nodes[i]'hi1) (RdD.any (hd2.ext E)))) Z (fun _ w9 e6 hv=>?_))))))
   subst hv
   replace E:=E.trans e6;replace h1:=h1.ext e6;replace h2:=h2.ext e6
   have z9:=e6.size
   refine Qa (Yy Z) Z (Qa (Qd Z) Z (Xf 7 [(1,.pointer (some ⟨b1,0,none⟩)),(2,.bool false),(3,.int .i64 ((i : Nat) : Int)),(4,.pointer (some ⟨b2,0,none⟩)),(25,.int .i64 ((i : Nat) : Int)),(26,.pointer (some ⟨b1,0,none⟩)),(27,o1),(28,.int .i64 ((g.nodes.length : Nat) : Int)),(29,.bool (decide (((i : Nat) : Int) < ((g.nodes.length : Nat) : Int)))),(32,.pointer (some ⟨b1,0,none⟩)),(33,o1),(34,.int .i64 ((i : Nat) : Int)),(35,.pointer (some ⟨Y6 o1,Y8 o1 + i * 4,none⟩)),(36,.agg [.int .i64 ((g.nodes[i]'hi1).kind),.int .i64 ((g.nodes[i]'hi1).a),.int .i64 ((g.nodes[i]'hi1).b),o2].toArray),(47,.bool ((!(Ke (g.nodes[i]'hi1))) || (!((((g.nodes[i]'hi1).kind) == 1) == (((i : Nat) : Int) == 0)))))] (fun w'=>w9 = w') ?_ ?_))
   ·refine Y4 (gd:=40) Z Z (fun hg3=>?_) (fun hg3=>?_)
    ·refine Qg Z Z Z Z (Qg Z Z Z Z (Qg Z Z Z Z (Qg Z Z Z Z (Qg Z Z Z Z (Qg Z Z Z Z (Qa (Qx Z Z) Z (Qr ⟨Z,Z,Z,Z,Z,Z,Z,Z,Z,Z,Z,Z,Z,Z,congrArg (fun b=>some (Value.bool b)) (show true = ((!(Ke (g.nodes[i]'hi1))) || (!((((g.nodes[i]'hi1).kind) == 1) == (((i : Nat) : Int) == 0)))) by first | (rw [hg3] <;> rfl) | (simp [hg3];done) | (simp only [Qq] <;> simp)),trivial⟩ Z)))))))
    ·refine Qn Z Z (Qb Kj Z) Z (Qn Z Z (Qk Yt Z (h2.one 0 Z)) Z (Qn Z Z (Xm Z Z) Z (Qn Z Z (Qd Z) Z (Qn Z Z (Xm Z Z) Z (Qn Z Z (U8 (Tryz.underlying4) Z Z) Z (Qa (Q1 Z Z) Z (Qr ⟨Z,Z,Z,Z,Z,Z,Z,Z,Z,Z,Z,Z,Z,Z,congrArg (fun b=>some (Value.bool b)) (show (!((((g.nodes[i]'hi1).kind) == 1) == (((i : Nat) : Int) == 0))) = ((!(Ke (g.nodes[i]'hi1))) || (!((((g.nodes[i]'hi1).kind) == 1) == (((i : Nat) : Int) == 0)))) by first | (rw [hg3] <;> rfl) | (simp [hg3];done) | (simp only [Qq] <;> simp)),trivial⟩ Z)))))))
   rintro _ rfl
   refine Qc (Qt Z (fun hc3=>?_) (fun hc3=>?_))
   ·refine Qe (Qh [true] Z Z (Qa (Qf Z) Z (Qc (Qv (Q2 (Yv (Q2 (Qm Z Z E ?_))))))))
    exact graph_a (by assumption)
   ·refine Qo (Qe (Qh [true] Z Z (Qa (Qf Z) Z (Qc (Q0 (Yp (fun (k : Nat)=>[(1,.pointer (some ⟨b1,0,none⟩)),(2,.bool false),(3,.int .i64 ((i : Nat) : Int)),(4,.pointer (some ⟨b2,0,none⟩)),(5,.int .i64 ((k : Nat) : Int))]) (fun (k : Nat) w'=>Ext w w' ∧ w9.heap.size ≤ w'.heap.size ∧ Blk w' b1 ([o1,.int .i64 g.workers,.int .i64 g.cap]) ∧ Blk w' b2 [.int .i64 ((g.nodes[i]'hi1).kind),.int .i64 ((g.nodes[i]'hi1).a),.int .i64 ((g.nodes[i]'hi1).b),o2] ∧ k ≤ (g.nodes[i]'hi1).outs.length ∧ ((g.nodes[i]'hi1).outs.take k).all (fun to=>!Uh g i (g.nodes[i]'hi1) to) = true) (fun (k : Nat)=>(g.nodes[i]'hi1).outs.length - k) 0 ⟨Z,Z,Z,Z,Z,trivial⟩ ⟨E,Nat.le_refl _,h1,h2,Nat.zero_le _,Z⟩ ?_))))))
    clear E h1 h2
    rintro k w11 ⟨E,z10,h1,h2,hk,hI⟩
    refine Qe (Qe (Qh [true,true,true,true,true] Z Z (Qa (Qd Z) Z (Qa (Qb Xu Z) Z (Qa (Qk K0 Z (h2.one 3 Z)) Z (Qa (Yc Tryz.underlying76 Z (hd2.ext E).len) Z (Qa (Yi Z Z) Z (Qc (Qt Z (fun hc4=>?_) (fun hc4=>?_))))))))))
    ·have hc4n : k < ((g.nodes[i]'hi1).outs).length:=by first | (have h:=of_decide_eq_true hc4;omega) | (have h:=hc4;simp at h;omega)
     refine Qo (Qe (Q0 (Qe (Qh [true,true,true,true,true,true] Z Z (Qa (Qb Xu Z) Z (Qa (Qk K0 Z (h2.one 3 Z)) Z (Qa (Qd Z) Z ?_)))))))
     have hi2 : k < ((g.nodes[i]'hi1).outs).length:=(by first | assumption | omega | (simp only [List.length_set];first | assumption | omega) | (simp only [List.getElem_set_self,List.length_set];first | assumption | omega) | (simp only [Yn,Yh,List.length_set];first | assumption | omega))
     refine Qa (Qz (i:=k) Ux Z Z (hd2.rd.ext E) hi2) Z (Qa (Qk Yt Z (((hd2.rd.ext E).get hi2).one 0 Z)) Z (Qa (Qf Z) Z (Qc (Qe (Qe (Qh [true,true,true,true,true,true,true,true,true,true,true,true,true,true,true] Z Z (Qa (Qd Z) Z (Qa (Qb Kw Z) Z (Qa (Qk Gn Z (h1.one 0 Z)) Z (Qa (Yc Tryz.underlying32 Z (hd1.ext E).len) Z (Qa (Tt Z Z) Z (Qa (Qd Z) Z (Xf 9 [(1,.pointer (some ⟨b1,0,none⟩)),(2,.bool false),(3,.int .i64 ((i : Nat) : Int)),(4,.pointer (some ⟨b2,0,none⟩)),(5,.int .i64 ((k : Nat) : Int)),(6,.int .i64 (((g.nodes[i]'hi1).outs)[k]'hi2)),(48,.int .i64 ((k : Nat) : Int)),(49,.pointer (some ⟨b2,3,none⟩)),(50,o2),(51,.int .i64 ((((g.nodes[i]'hi1).outs).length : Nat) : Int)),(52,.bool (decide (((k : Nat) : Int) < ((((g.nodes[i]'hi1).outs).length : Nat) : Int)))),(55,.pointer (some ⟨b2,3,none⟩)),(56,o2),(57,.int .i64 ((k : Nat) : Int)),(58,.pointer (some ⟨Y6 o2,Y8 o2 + k * 1,none⟩)),(59,.int .i64 (((g.nodes[i]'hi1).outs)[k]'hi2)),(74,.bool ((decide (((g.nodes.length : Nat) : Int) ≤ (((g.nodes[i]'hi1).outs)[k]'hi2))) || ((((g.nodes[i]'hi1).kind) != 7) && (decide ((((g.nodes[i]'hi1).outs)[k]'hi2) ≤ ((i : Nat) : Int))))))] (fun w'=>w11 = w') ?_ ?_)))))))))))))
     ·refine Y4 (gd:=65) Z Z (fun hg4=>?_) (fun hg4=>?_)
      ·refine Qg Z Z Z Z (Qg Z Z Z Z (Qg Z Z Z Z (Qg Z Z Z Z (Ya Z Z Z (Ya Z Z Z (Ya Z Z Z (Qg Z Z Z Z (Qa (Qx Z Z) Z (Qr ⟨Z,Z,Z,Z,Z,Z,Z,Z,Z,Z,Z,Z,Z,Z,Z,Z,congrArg (fun b=>some (Value.bool b)) (show true = ((decide (((g.nodes.length : Nat) : Int) ≤ (((g.nodes[i]'hi1).outs)[k]'hi2))) || ((((g.nodes[i]'hi1).kind) != 7) && (decide ((((g.nodes[i]'hi1).outs)[k]'hi2) ≤ ((i : Nat) : Int))))) by first | (rw [hg4] <;> rfl) | (simp [hg4];done) | (simp only [Qq] <;> simp)),trivial⟩ Z)))))))))
      ·have hto:=By (h1:=hi1) (h2:=hi2) (by assumption)
       have htl:=Int.not_le.1 (of_decide_eq_false hg4)
       refine Qn Z Z (Qb Kj Z) Z (Qn Z Z (Qk Yt Z (h2.one 0 Z)) Z (Qn Z Z (Yu Z Z) Z (Qn Z Z (Qd Z) Z ?_)))
       refine Y4 (gd:=69) Z Z (fun hg5=>?_) (fun hg5=>?_)
       ·refine Qn Z Z (Qd Z) Z (Qn Z Z (Qd Z) Z (Qn Z Z (Dv Z Z) Z (Qn Z Z (Qx Z Z) Z (Qa (Q1 Z Z) Z (Qr ⟨Z,Z,Z,Z,Z,Z,Z,Z,Z,Z,Z,Z,Z,Z,Z,Z,congrArg (fun b=>some (Value.bool b)) (show (decide ((((g.nodes[i]'hi1).outs)[k]'hi2) ≤ ((i : Nat) : Int))) = ((decide (((g.nodes.length : Nat) : Int) ≤ (((g.nodes[i]'hi1).outs)[k]'hi2))) || ((((g.nodes[i]'hi1).kind) != 7) && (decide ((((g.nodes[i]'hi1).outs)[k]'hi2) ≤ ((i : Nat) : Int))))) by first | (rw [hg4,hg5] <;> rfl) | (simp [hg4,hg5];done) | (simp only [Qq] <;> simp)),trivial⟩ Z)))))
       ·refine Qg Z Z Z Z (Qg Z Z Z Z (Qg Z Z Z Z (Qn Z Z (Q1 Z Z) Z (Qa (Q1 Z Z) Z (Qr ⟨Z,Z,Z,Z,Z,Z,Z,Z,Z,Z,Z,Z,Z,Z,Z,Z,congrArg (fun b=>some (Value.bool b)) (show false = ((decide (((g.nodes.length : Nat) : Int) ≤ (((g.nodes[i]'hi1).outs)[k]'hi2))) || ((((g.nodes[i]'hi1).kind) != 7) && (decide ((((g.nodes[i]'hi1).outs)[k]'hi2) ≤ ((i : Nat) : Int))))) by first | (rw [hg4,hg5] <;> rfl) | (simp [hg4,hg5];done) | (simp only [Qq] <;> simp)),trivial⟩ Z)))))
     rintro _ rfl
     refine Qc (Qt Z (fun hc5=>?_) (fun hc5=>?_))
     ·refine Qe (Qh [true] Z Z (Qa (Qf Z) Z (Qc (Qv (Q2 (Yv (Q2 (Q2 (Yv (Q2 (Qm Z Z E ?_)))))))))))
      exact Bb (edge_s1 (by assumption))
     ·have hto:=By (h1:=hi1) (h2:=hi2) (by assumption)
      have htl:=edge_lt hc5
      refine Qo (Qe (Qh [true,true,true,true,true,true,true] Z Z (Qa (Qb Kw Z) Z (Qa (Qk Gn Z (h1.one 0 Z)) Z (Qa (Qd Z) Z ?_)))))
      have hi3 : (Int.toNat (((g.nodes[i]'hi1).outs)[k]'hi2)) < g.nodes.length:=(by first | assumption | omega | (simp only [List.length_set];first | assumption | omega) | (simp only [List.getElem_set_self,List.length_set];first | assumption | omega) | (simp only [Yn,Yh,List.length_set];first | assumption | omega))
      obtain ⟨_,hr2,ha2⟩:=RdD.get hd1 hi3
      obtain ⟨o3,rfl,hd3⟩:=Node.op hr2
      replace ha2 : At w (Y6 o1) (Y8 o1 + (Int.toNat (((g.nodes[i]'hi1).outs)[k]'hi2)) * 4) [.int .i64 ((g.nodes[(Int.toNat (((g.nodes[i]'hi1).outs)[k]'hi2))]'hi3).kind),.int .i64 ((g.nodes[(Int.toNat (((g.nodes[i]'hi1).outs)[k]'hi2))]'hi3).a),.int .i64 ((g.nodes[(Int.toNat (((g.nodes[i]'hi1).outs)[k]'hi2))]'hi3).b),o3]:=ha2
      refine Qa (Xk (i:=(Int.toNat (((g.nodes[i]'hi1).outs)[k]'hi2))) G0 Z Z (hd1.ext E).1 (by omega) hi3) Z (Qa (Qs Kj Z) Z (Qa (Qk Yt Z ((ha2.ext E).one 0 Z)) Z (Qa (Qf Z) Z (Qc (Qe (Qh [true,true,true,true,true,true,true,true,true,true,true,true,true,true,true,true] Z Z (Qa (Qb Kj Z) Z (Qa (Qk Yt Z (h2.one 0 Z)) Z (Qa (Xm Z Z) Z (Qa (Qd Z) Z (Xf 12 [(1,.pointer (some ⟨b1,0,none⟩)),(2,.bool false),(3,.int .i64 ((i : Nat) : Int)),(4,.pointer (some ⟨b2,0,none⟩)),(5,.int .i64 ((k : Nat) : Int)),(6,.int .i64 (((g.nodes[i]'hi1).outs)[k]'hi2)),(7,.int .i64 ((g.nodes[(Int.toNat (((g.nodes[i]'hi1).outs)[k]'hi2))]'hi3).kind)),(48,.int .i64 ((k : Nat) : Int)),(49,.pointer (some ⟨b2,3,none⟩)),(50,o2),(51,.int .i64 ((((g.nodes[i]'hi1).outs).length : Nat) : Int)),(52,.bool (decide (((k : Nat) : Int) < ((((g.nodes[i]'hi1).outs).length : Nat) : Int)))),(55,.pointer (some ⟨b2,3,none⟩)),(56,o2),(57,.int .i64 ((k : Nat) : Int)),(58,.pointer (some ⟨Y6 o2,Y8 o2 + k * 1,none⟩)),(59,.int .i64 (((g.nodes[i]'hi1).outs)[k]'hi2)),(74,.bool ((decide (((g.nodes.length : Nat) : Int) ≤ (((g.nodes[i]'hi1).outs)[k]'hi2))) || ((((g.nodes[i]'hi1).kind) != 7) && (decide ((((g.nodes[i]'hi1).outs)[k]'hi2) ≤ ((i : Nat) : Int)))))),(75,.pointer (some ⟨b1,0,none⟩)),(76,o1),(77,.int .i64 (((g.nodes[i]'hi1).outs)[k]'hi2)),(78,.pointer (some ⟨Y6 o1,Y8 o1 + (Int.toNat (((g.nodes[i]'hi1).outs)[k]'hi2)) * 4,none⟩)),(79,.pointer (some ⟨(Y6 o1),Y8 o1 + (Int.toNat (((g.nodes[i]'hi1).outs)[k]'hi2)) * 4 + 0,none⟩)),(80,.int .i64 ((g.nodes[(Int.toNat (((g.nodes[i]'hi1).outs)[k]'hi2))]'hi3).kind)),(96,.bool ((((g.nodes[i]'hi1).kind) == 7) && ((decide (((i : Nat) : Int) < (((g.nodes[i]'hi1).outs)[k]'hi2))) || ((((g.nodes[(Int.toNat (((g.nodes[i]'hi1).outs)[k]'hi2))]'hi3).kind) != 5) && (((g.nodes[(Int.toNat (((g.nodes[i]'hi1).outs)[k]'hi2))]'hi3).kind) != 6)))))] (fun w'=>w11 = w') ?_ ?_)))))))))))
      ·refine Y4 (gd:=84) Z Z (fun hg6=>?_) (fun hg6=>?_)
       ·refine Qn Z Z (Qd Z) Z (Qn Z Z (Qd Z) Z (Qn Z Z (G8 Z Z) Z (Qn Z Z (Qd Z) Z ?_)))
        refine Y4 (gd:=88) Z Z (fun hg7=>?_) (fun hg7=>?_)
        ·refine Qg Z Z Z Z (Qg Z Z Z Z (Qg Z Z Z Z (Ya Z Z Z (Ya Z Z Z (Qg Z Z Z Z (Qn Z Z (Qx Z Z) Z (Qa (Qx Z Z) Z (Qr ⟨Z,Z,Z,Z,Z,Z,Z,Z,Z,Z,Z,Z,Z,Z,Z,Z,Z,Z,Z,Z,Z,Z,Z,Z,congrArg (fun b=>some (Value.bool b)) (show true = ((((g.nodes[i]'hi1).kind) == 7) && ((decide (((i : Nat) : Int) < (((g.nodes[i]'hi1).outs)[k]'hi2))) || ((((g.nodes[(Int.toNat (((g.nodes[i]'hi1).outs)[k]'hi2))]'hi3).kind) != 5) && (((g.nodes[(Int.toNat (((g.nodes[i]'hi1).outs)[k]'hi2))]'hi3).kind) != 6)))) by first | (rw [hg6,hg7] <;> rfl) | (simp [hg6,hg7];done) | (simp only [Qq] <;> simp)),trivial⟩ Z))))))))
        ·refine Qn Z Z (Qd Z) Z (Qn Z Z (Yu Z Z) Z (Qn Z Z (Qd Z) Z ?_))
         refine Y4 (gd:=91) Z Z (fun hg8=>?_) (fun hg8=>?_)
         ·refine Qn Z Z (Qd Z) Z (Qn Z Z (Yu Z Z) Z (Qn Z Z (Qx Z Z) Z (Qn Z Z (Q1 Z Z) Z (Qa (Qx Z Z) Z (Qr ⟨Z,Z,Z,Z,Z,Z,Z,Z,Z,Z,Z,Z,Z,Z,Z,Z,Z,Z,Z,Z,Z,Z,Z,Z,congrArg (fun b=>some (Value.bool b)) (show (((g.nodes[(Int.toNat (((g.nodes[i]'hi1).outs)[k]'hi2))]'hi3).kind) != 6) = ((((g.nodes[i]'hi1).kind) == 7) && ((decide (((i : Nat) : Int) < (((g.nodes[i]'hi1).outs)[k]'hi2))) || ((((g.nodes[(Int.toNat (((g.nodes[i]'hi1).outs)[k]'hi2))]'hi3).kind) != 5) && (((g.nodes[(Int.toNat (((g.nodes[i]'hi1).outs)[k]'hi2))]'hi3).kind) != 6)))) by first | (rw [hg6,hg7,hg8] <;> rfl) | (simp [hg6,hg7,hg8];done) | (simp only [Qq] <;> simp)),trivial⟩ Z)))))
         ·refine Qg Z Z Z Z (Qg Z Z Z Z (Qn Z Z (Q1 Z Z) Z (Qn Z Z (Q1 Z Z) Z (Qa (Qx Z Z) Z (Qr ⟨Z,Z,Z,Z,Z,Z,Z,Z,Z,Z,Z,Z,Z,Z,Z,Z,Z,Z,Z,Z,Z,Z,Z,Z,congrArg (fun b=>some (Value.bool b)) (show false = ((((g.nodes[i]'hi1).kind) == 7) && ((decide (((i : Nat) : Int) < (((g.nodes[i]'hi1).outs)[k]'hi2))) || ((((g.nodes[(Int.toNat (((g.nodes[i]'hi1).outs)[k]'hi2))]'hi3).kind) != 5) && (((g.nodes[(Int.toNat (((g.nodes[i]'hi1).outs)[k]'hi2))]'hi3).kind) != 6)))) by first | (rw [hg6,hg7,hg8] <;> rfl) | (simp [hg6,hg7,hg8];done) | (simp only [Qq] <;> simp)),trivial⟩ Z)))))
       ·refine Qg Z Z Z Z (Qg Z Z Z Z (Qg Z Z Z Z (Qg Z Z Z Z (Ya Z Z Z (Ya Z Z Z (Ya Z Z Z (Ya Z Z Z (Ya Z Z Z (Ya Z Z Z (Qg Z Z Z Z (Qa (Q1 Z Z) Z (Qr ⟨Z,Z,Z,Z,Z,Z,Z,Z,Z,Z,Z,Z,Z,Z,Z,Z,Z,Z,Z,Z,Z,Z,Z,Z,congrArg (fun b=>some (Value.bool b)) (show false = ((((g.nodes[i]'hi1).kind) == 7) && ((decide (((i : Nat) : Int) < (((g.nodes[i]'hi1).outs)[k]'hi2))) || ((((g.nodes[(Int.toNat (((g.nodes[i]'hi1).outs)[k]'hi2))]'hi3).kind) != 5) && (((g.nodes[(Int.toNat (((g.nodes[i]'hi1).outs)[k]'hi2))]'hi3).kind) != 6)))) by first | (rw [hg6] <;> rfl) | (simp [hg6];done) | (simp only [Qq] <;> simp)),trivial⟩ Z))))))))))))
      rintro _ rfl
      refine Qc (Qt Z (fun hc6=>?_) (fun hc6=>?_))
      ·refine Qe (Qh [true] Z Z (Qa (Qf Z) Z (Qc (Qv (Q2 (Yv (Q2 (Q2 (Yv (Q2 (Qm Z Z E ?_)))))))))))
       exact Bb (edge_s2 (congrArg Node.kind (Xl _)).symm (by assumption))
      ·refine Qo (Q6 (Y0 (Qh [true,true,true] Z Z (Qa (Qd Z) Z (Qa (Ye Z Z (Y3 hc4n (hd2.ext E).1.1)) Z (Qa (Qf Z) Z (Qc (Q6 (Yk (k + 1) (by omega) ⟨Z,Z,Z,Z,Z,trivial⟩ ⟨E,(by omega),h1,h2,(by omega),Kh hI (by assumption) (edge_sn (congrArg Node.kind (Xl _)).symm (by assumption) (by assumption))⟩)))))))))
    ·have hc4n : ¬ k < ((g.nodes[i]'hi1).outs).length:=by first | (have h:=of_decide_eq_false hc4;omega) | (have h:=hc4;simp at h;omega)
     refine Yq (Q5 (Q3 ?_))
     refine Q6 (Y0 (Qh [true,true,true] Z Z (Qa (Qd Z) Z (Qa (Ye Z Z (Y3 hc2n (hd1.ext E).1.1)) Z (Qa (Qf Z) Z (Qc (Q6 (Yk (i + 1) (by omega) ⟨Z,Z,Z,trivial⟩ ⟨E,(by omega),h1,(by omega),graph_s (h1:=hi1) (by assumption) hI (by omega) hp⟩))))))))
  ·have hc2n : ¬ i < g.nodes.length:=by first | (have h:=of_decide_eq_false hc2;omega) | (have h:=hc2;simp at h;omega)
   refine Yq (Q5 (Q3 ?_))
   refine Qe (Qh [true] Z Z (Qa (Qf Z) Z (Qc (Qv (Qm Z Z E ?_)))))
   exact graph_y (by assumption) hp (by omega)

set_option maxRecDepth 20000 in
theorem c_toStamp (x : Stamp) (w : World)  : Ct Tryz.prog 143 [.agg (Enc.enc x).toArray] w (fun v _=>v = .agg (Enc.enc x).toArray):=by
 refine Ym Tryz.func143 Z Tryz.ntmps143 Z ?_
 refine Q8 [(0,.agg (Enc.enc x).toArray)] ⟨Z,trivial⟩ ?_
 have E : Ext w w:=Ext.refl w
 refine Qe (Qh [false,false] Z Z (Y1 Z Z (fun b1 w1 e1 s1 h1=>?_)))
 have g_b1 : w.heap.size ≤ b1:=by have:=E.size;omega
 have y_b1:=h1.lt
 replace E:=E.trans e1
 have z1:=e1.size
 refine Yo Dd Z (fun b2 w2 e2 s2 h2=>?_)
 have g_b2 : w.heap.size ≤ b2:=by have:=E.size;omega
 have y_b2:=h2.lt
 replace E:=E.trans e2;replace h1:=h1.ext e2
 have z2:=e2.size
 refine Qc (Qe (Qh [false] Z Z (Yo Dd Z (fun b3 w3 e3 s3 h3=>?_))))
 have g_b3 : w.heap.size ≤ b3:=by have:=E.size;omega
 have y_b3:=h3.lt
 replace E:=E.trans e3;replace h1:=h1.ext e3;replace h2:=h2.ext e3
 have z3:=e3.size
 refine Qc (Qe (Qh [true,true,true,false] Z Z (Qa (Qb fl176_0 Z) Z (Qa (Qk Yt Z (h1.one 0 Z)) Z (Qa (Qb V9 Z) Z (Yj (cs':=[.int .i64 x.epoch,.int .i64 0]) Yt Z Z Z h3 (Nat.le_of_ble_eq_true Z) Z (fun w4 m1 h3'=>?_)))))))
 replace h3:=h3'
 replace E:=E.step m1 (fun g hg=>by cases hg;omega);replace h1:=h1.mod m1 (fun g hg=>by cases hg;omega);replace h2:=h2.mod m1 (fun g hg=>by cases hg;omega)
 have z4:=m1.size
 refine Qc (Qe (Qh [true,true,true,false] Z Z (Qa (Qb fl176_1 Z) Z (Qa (Qk Yt Z (h1.one 1 Z)) Z (Qa (Qb Tg Z) Z (Yj (cs':=[.int .i64 x.epoch,.int .i64 x.turn]) Yt Z Z Z h3 (Nat.le_of_ble_eq_true Z) Z (fun w5 m2 h3'=>?_)))))))
 replace h3:=h3'
 replace E:=E.step m2 (fun g hg=>by cases hg;omega);replace h1:=h1.mod m2 (fun g hg=>by cases hg;omega);replace h2:=h2.mod m2 (fun g hg=>by cases hg;omega)
 have z5:=m2.size
 refine Qc (Qe (Qh [true,false] Z Z (Qa (Qy Dd Z h3.at Z) Z (Q4 (cs':=[.int .i64 x.epoch,.int .i64 x.turn]) Dd Z Z Z Z h2 (Nat.le_of_ble_eq_true Z) Z (fun w6 m3 h2'=>?_)))))
 replace h2:=h2'
 replace E:=E.step m3 (fun g hg=>by cases hg;omega);replace h1:=h1.mod m3 (fun g hg=>by cases hg;omega);replace h3:=h3.mod m3 (fun g hg=>by cases hg;omega)
 have z6:=m3.size
 refine Qc (Qv (X3 Z Z (Yd Dd h2.at Z) E ?_))
 rfl

end Go.Proofs.YtjpoipdddpmeiaaGreat
