/- What the functions that the laws call come to: a contract each; no condition. -/
import Derived.Test.YtcpjlfikdobckaaGreatTypes
import Derived.Test.YtcpjlfikdobckaaGreatSort
import Derived.Test.YtcpjlfikdobckaaGreatLay
namespace Go.Proofs.YtcpjlfikdobckaaGreat
open Go Go.Proofs.YtcpjlfikdobckaaGreat.X Go.Proofs
set_option maxRecDepth 20000 in
theorem c_l02Order (a : Int) (b : Int) (w : World)  : Ct Tryz.prog 76 [.int .i64 a,.int .i64 b] w (fun v _=>v = .int .i64 (Xj a b)):=by
 refine Yp Tryz.func76 Z Tryz.ntmps76 Z ?_
 refine Yb [(0,.int .i64 a),(1,.int .i64 b)] ⟨Z,Z,trivial⟩ ?_
 have E : Ext w w:=Ext.refl w
 refine Qh (Qi [true] Z Z (Qa (Qe Z) Z (Qd (Qh (Q2 (Qh (Qi [true,true,true,true] Z Z (Qa (Qb Z) Z (Qa (Qb Z) Z (Qa (Xe Z Z) Z (Qa (Qe Z) Z (Qd (Qt Z (fun hc1=>?_) (fun hc1=>?_))))))))))))))
 ·refine Qh (Qi [true] Z Z (Qa (Qe Z) Z (Qd (Qx (Q0 (Qu Z Z E (congrArg (Value.int .i64) ?_)))))))
  simp at *
  unfold Xj;(repeat' split) <;> first | rfl | omega
 ·refine Qh (Qi [true,true,true,true] Z Z (Qa (Qb Z) Z (Qa (Qb Z) Z (Qa (U1 Z Z) Z (Qa (Qe Z) Z (Qd (Qt Z (fun hc2=>?_) (fun hc2=>?_))))))))
  ·refine Qh (Qi [true] Z Z (Qa (Qe Z) Z (Qd (Qx (Q0 (Qu Z Z E (congrArg (Value.int .i64) ?_)))))))
   simp at *
   unfold Xj;(repeat' split) <;> first | rfl | omega
  ·refine Qy (Q4 (Yn (Qh (Qi [true] Z Z (Qa (Qe Z) Z (Qd (Qx (Qu Z Z E (congrArg (Value.int .i64) ?_)))))))))
   simp at *
   unfold Xj;(repeat' split) <;> first | rfl | omega

set_option maxRecDepth 20000 in
theorem c_isNaN (a : Int) (w : World)  : Ct Tryz.prog 118 [.int .i64 a] w (fun v _=>v = .bool false):=by
 refine Yp Tryz.func118 Z Tryz.ntmps118 Z ?_
 refine Yb [(0,.int .i64 a)] ⟨Z,trivial⟩ ?_
 have E : Ext w w:=Ext.refl w
 refine Qh (Qi [true] Z Z (Qa (Qe Z) Z (Qd (Qh (Qi [true,true,true,true] Z Z (Qa (Qb Z) Z (Qa (Qb Z) Z (Qa (X1 Z Z) Z (Qa (Qe Z) Z (Qd (Qx (Qu Z Z E ?_))))))))))))
 simp

set_option maxRecDepth 20000 in
theorem c_cmpCompare (a : Int) (b : Int) (w : World)  : Ct Tryz.prog 101 [.int .i64 a,.int .i64 b] w (fun v _=>v = .int .i64 (Xj a b)):=by
 refine Yp Tryz.func101 Z Tryz.ntmps101 Z ?_
 refine Yb [(0,.int .i64 a),(1,.int .i64 b)] ⟨Z,Z,trivial⟩ ?_
 have E : Ext w w:=Ext.refl w
 refine Qh (Qi [true] Z Z (Qa (Qe Z) Z (Qd (Qh (Qi [true,false,true] Z Z (Qa (Qb Z) Z (Qw Tryz.call118 Z (c_isNaN a _ ) Z (fun _ w1 e1 hv=>?_))))))))
 subst hv
 replace E:=E.trans e1
 have z1:=e1.size
 refine Qa (Qe Z) Z (Qd (Qh (Qi [true,false,true] Z Z (Qa (Qb Z) Z (Qw Tryz.call118 Z (c_isNaN b _ ) Z (fun _ w2 e2 hv=>?_))))))
 subst hv
 replace E:=E.trans e2
 have z2:=e2.size
 refine Qa (Qe Z) Z (Qd (Qh (Qh (Qi [true] Z Z (Qa (Qb Z) Z (Qd (S_condF Z (Qy (Qh (Qh (Qi [true] Z Z (Qa (Qb Z) Z (Qd (S_condF Z (Qy (Qh (Qh (Qi [true,true,true] Z Z (Qa (Qb Z) Z (Qa (Qb Z) Z (Qa (Xe Z Z) Z (Qd (Qt Z (fun hc1=>?_) (fun hc1=>?_))))))))))))))))))))))))
 ·refine Qh (Qi [true] Z Z (Qa (Qe Z) Z (Qd (Qx (Qu Z Z E (congrArg (Value.int .i64) ?_))))))
  simp at *
  unfold Xj;(repeat' split) <;> first | rfl | omega
 ·refine Qy (Qh (Qh (Qi [true,true,true] Z Z (Qa (Qb Z) Z (Qa (Qb Z) Z (Qa (U1 Z Z) Z (Qd (Qt Z (fun hc2=>?_) (fun hc2=>?_)))))))))
  ·refine Qh (Qi [true] Z Z (Qa (Qe Z) Z (Qd (Qx (Qu Z Z E (congrArg (Value.int .i64) ?_))))))
   simp at *
   unfold Xj;(repeat' split) <;> first | rfl | omega
  ·refine Qy (Qh (Qi [true] Z Z (Qa (Qe Z) Z (Qd (Qx (Qu Z Z E (congrArg (Value.int .i64) ?_)))))))
   simp at *
   unfold Xj;(repeat' split) <;> first | rfl | omega

set_option maxRecDepth 20000 in
theorem c_slicesCompare (vxs : Value) (xs : List Int) (vys : Value) (ys : List Int) (w : World) (hxs : RdS w vxs xs) (hys : RdS w vys ys) : Ct Tryz.prog 92 [vxs,vys] w (fun v _=>v = .int .i64 (X7 xs ys)):=by
 refine Yp Tryz.func92 Z Tryz.ntmps92 Z ?_
 refine Yb [(0,vxs),(1,vys)] ⟨Z,Z,trivial⟩ ?_
 have E : Ext w w:=Ext.refl w
 refine Qh (Qi [true] Z Z (Qa (Qe Z) Z (Qd (Qh (Qh (Qi [true,true,true] Z Z (Qa (Qb Z) Z (Qa (Ye Tryz.underlying29 Z (hxs.ext E).len) Z (Qa (Qb Z) Z (Qd (Q2 (Y6 (fun (k : Nat)=>[(0,vxs),(1,vys),(4,.int .i64 0),(9,vxs),(10,.int .i64 ((xs.length : Nat) : Int)),(11,.int .i64 ((k : Nat) : Int))]) (fun (k : Nat) w'=>Ext w w' ∧ w.heap.size ≤ w'.heap.size ∧ k ≤ xs.length ∧ k ≤ ys.length ∧ X7 (xs.drop k) (ys.drop k) = X7 xs ys) (fun (k : Nat)=>xs.length - k) 0 ⟨Z,Z,Z,Z,Z,Z,trivial⟩ ⟨E,Nat.le_refl _,Nat.zero_le _,Nat.zero_le _,Z⟩ ?_))))))))))))
 clear E
 rintro k w1 ⟨E,z1,hk,hky,hI⟩
 refine Qh (Qi [true] Z Z (Qa (Xe Z Z) Z (Qd (Qh (Qt Z (fun hc1=>?_) (fun hc1=>?_))))))
 ·have hc1n : k < xs.length:=by first | (have h:=of_decide_eq_true hc1;omega) | (have h:=hc1;simp at h;omega)
  refine Qy (Qh (Q2 (Qh (Qi [true,true,true,true,true] Z Z (Qa (Qb Z) Z ?_)))))
  have hi1 : k < xs.length:=(by first | assumption | omega | (simp only [List.length_set];first | assumption | omega) | (simp only [List.getElem_set_self,List.length_set];first | assumption | omega) | (simp only [Y3,Yj,List.length_set];first | assumption | omega) | (simp;done))
  refine Qa (Q5 (i:=k) Kd Z Z (hxs.ext E) hi1) Z (Qa (Qk Xi Z (((hxs.ext E).get hi1).one 0 Z)) Z (Qa (Qe Z) Z (Qa (Qe Z) Z (Qd (Qh (Qh (Qi [true,true,true,true] Z Z (Qa (Qb Z) Z (Qa (Qb Z) Z (Qa (Ye Tryz.underlying29 Z (hys.ext E).len) Z (Qa (Hs Z Z) Z (Qd (Qt Z (fun hc2=>?_) (fun hc2=>?_))))))))))))))
  ·have hc2n : k ≥ ys.length:=by first | (have h:=of_decide_eq_true hc2;omega) | (have h:=hc2;simp at h;omega)
   refine Qh (Qi [true] Z Z (Qa (Qe Z) Z (Qd (Qx (Q0 (Yy (Q0 (Qu Z Z E ?_))))))))
   exact cmpL_1 hI (by omega) (by omega)
  ·have hc2n : ¬ k ≥ ys.length:=by first | (have h:=of_decide_eq_false hc2;omega) | (have h:=hc2;simp at h;omega)
   refine Qy (Qh (Qi [true,true,true,true,true] Z Z (Qa (Qb Z) Z (Qa (Qb Z) Z ?_))))
   have hi2 : k < ys.length:=(by first | assumption | omega | (simp only [List.length_set];first | assumption | omega) | (simp only [List.getElem_set_self,List.length_set];first | assumption | omega) | (simp only [Y3,Yj,List.length_set];first | assumption | omega) | (simp;done))
   refine Qa (Q5 (i:=k) Kd Z Z (hys.ext E) hi2) Z (Qa (Qk Xi Z (((hys.ext E).get hi2).one 0 Z)) Z (Qa (Qe Z) Z (Qd (Qh (Qi [true,true,false,true] Z Z (Qa (Qb Z) Z (Qa (Qb Z) Z (Qw Tryz.call101 Z (c_cmpCompare (xs[k]'hi1) (ys[k]'hi2) _ ) Z (fun _ w2 e1 hv=>?_)))))))))
   subst hv
   replace E:=E.trans e1
   have z2:=e1.size
   refine Qa (Qe Z) Z (Qd (Qh (Qi [true,true] Z Z (Qa (Qb Z) Z (Qa (X1 Z Z) Z (Qd (Qt Z (fun hc3=>?_) (fun hc3=>?_))))))))
   ·refine Qh (Qi [true,true] Z Z (Qa (Qb Z) Z (Qa (Qe Z) Z (Qd (Qx (Q0 (Yy (Q0 (Qu Z Z E ?_)))))))))
    exact cmpL_2 hI (by omega) (by omega) (by simpa using hc3)
   ·refine Qy (Q4 (Yn (Qi [true,true] Z Z (Qa (Yu Z Z (Yw hc1n hxs.1)) Z (Qa (Qb Z) Z (Qd (Q4 (Yg (k + 1) (by omega) ⟨Z,Z,Z,Z,Z,Z,trivial⟩ ⟨E,(by omega),(by omega),(by omega),cmpL_step hI (by omega) (by omega) (by simpa using hc3)⟩))))))))
 ·have hc1n : ¬ k < xs.length:=by first | (have h:=of_decide_eq_false hc1;omega) | (have h:=hc1;simp at h;omega)
  refine Y5 (Yc (Q8 ?_))
  refine Qh (Qh (Qi [true,true,true,true,true] Z Z (Qa (Qb Z) Z (Qa (Ye Tryz.underlying29 Z (hxs.ext E).len) Z (Qa (Qb Z) Z (Qa (Ye Tryz.underlying29 Z (hys.ext E).len) Z (Qa (Xe Z Z) Z (Qd (Qt Z (fun hc4=>?_) (fun hc4=>?_))))))))))
  ·have hc4n : xs.length < ys.length:=by first | (have h:=of_decide_eq_true hc4;omega) | (have h:=hc4;simp at h;omega)
   refine Qh (Qi [true] Z Z (Qa (Qe Z) Z (Qd (Qx (Qu Z Z E ?_)))))
   exact cmpL_3 hI (by omega) (by omega)
  ·have hc4n : ¬ xs.length < ys.length:=by first | (have h:=of_decide_eq_false hc4;omega) | (have h:=hc4;simp at h;omega)
   refine Qy (Qh (Qi [true] Z Z (Qa (Qe Z) Z (Qd (Qx (Qu Z Z E ?_))))))
   exact cmpL_4 hI (by omega) (by omega)

set_option maxRecDepth 20000 in
theorem c_orderOf (vxs : Value) (xs : List Int) (vys : Value) (ys : List Int) (w : World) (hxs : RdS w vxs xs) (hys : RdS w vys ys) : Ct Tryz.prog 73 [vxs,vys] w (fun v _=>v = .int .i64 (X7 xs ys)):=by
 refine Yp Tryz.func73 Z Tryz.ntmps73 Z ?_
 refine Yb [(0,vxs),(1,vys)] ⟨Z,Z,trivial⟩ ?_
 have E : Ext w w:=Ext.refl w
 refine Qh (Qi [true] Z Z (Qa (Qe Z) Z (Qd (Qh (Qi [true,true,false,true] Z Z (Qa (Qb Z) Z (Qa (Qb Z) Z (Qw Tryz.call92 Z (c_slicesCompare vxs xs vys ys _ (hxs.ext E) (hys.ext E)) Z (fun _ w1 e1 hv=>?_)))))))))
 subst hv
 replace E:=E.trans e1
 have z1:=e1.size
 refine Qa (Qe Z) Z (Qd (Qx (Qu Z Z E ?_)))
 rfl

set_option maxRecDepth 20000 in
theorem c_CellOrder (x : Cell) (y : Cell) (w : World)  : Ct Tryz.prog 58 [.agg (Enc.enc x).toArray,.agg (Enc.enc y).toArray] w (fun v _=>v = .int .i64 (Kg x y)):=by
 refine Yp Tryz.func58 Z Tryz.ntmps58 Z ?_
 refine Yb [(0,.agg (Enc.enc x).toArray),(1,.agg (Enc.enc y).toArray)] ⟨Z,Z,trivial⟩ ?_
 have E : Ext w w:=Ext.refl w
 refine Qh (Qi [false,false,true] Z Z (Xb Z Z (fun b1 w1 e1 s1 h1=>?_)))
 have g_b1 : w.heap.size ≤ b1:=by have:=E.size;omega
 have y_b1:=h1.lt
 replace E:=E.trans e1
 have z1:=e1.size
 refine Xb Z Z (fun b2 w2 e2 s2 h2=>?_)
 have g_b2 : w.heap.size ≤ b2:=by have:=E.size;omega
 have y_b2:=h2.lt
 replace E:=E.trans e2;replace h1:=h1.ext e2
 have z2:=e2.size
 refine Qa (Qe Z) Z (Qd (Qh (Qi [true,true,true,true,true,true,true,true,false,true,true,true,true,true,true,true,true,false,false,true] Z Z (Qa (Qf V2 Z) Z (Qa (Qk Xi Z (h1.one 1 Z)) Z (Qa (Qf V3 Z) Z (Qa (Qk Xi Z (h1.one 0 Z)) Z (Qa (Qf V1 Z) Z (Qa (Qk Xi Z (h1.one 2 Z)) Z (Qa (Qf Hj Z) Z (Qa (Qk Xi Z (h1.one 3 Z)) Z (Qz (vs:=[.int .i64 x.epoch,.int .i64 x.op,.int .i64 x.key,.int .i64 x.val]) (css:=[[.int .i64 x.epoch],[.int .i64 x.op],[.int .i64 x.key],[.int .i64 x.val]]) Kd Z Z ⟨⟨Z,Z⟩,⟨Z,Z⟩,⟨Z,Z⟩,⟨Z,Z⟩,trivial⟩ Z Z (fun b3 w3 e3 s3 h3=>?_)))))))))))))
 replace h3 : Blk w3 b3 [.int .i64 x.epoch,.int .i64 x.op,.int .i64 x.key,.int .i64 x.val]:=h3
 have g_b3 : w.heap.size ≤ b3:=by have:=E.size;omega
 have y_b3:=h3.lt
 replace E:=E.trans e3;replace h1:=h1.ext e3;replace h2:=h2.ext e3
 have z3:=e3.size
 refine Qa (Qf V2 Z) Z (Qa (Qk Xi Z (h2.one 1 Z)) Z (Qa (Qf V3 Z) Z (Qa (Qk Xi Z (h2.one 0 Z)) Z (Qa (Qf V1 Z) Z (Qa (Qk Xi Z (h2.one 2 Z)) Z (Qa (Qf Hj Z) Z (Qa (Qk Xi Z (h2.one 3 Z)) Z (Qz (vs:=[.int .i64 y.epoch,.int .i64 y.op,.int .i64 y.key,.int .i64 y.val]) (css:=[[.int .i64 y.epoch],[.int .i64 y.op],[.int .i64 y.key],[.int .i64 y.val]]) Kd Z Z ⟨⟨Z,Z⟩,⟨Z,Z⟩,⟨Z,Z⟩,⟨Z,Z⟩,trivial⟩ Z Z (fun b4 w4 e4 s4 h4=>?_)))))))))
 replace h4 : Blk w4 b4 [.int .i64 y.epoch,.int .i64 y.op,.int .i64 y.key,.int .i64 y.val]:=h4
 have g_b4 : w.heap.size ≤ b4:=by have:=E.size;omega
 have y_b4:=h4.lt
 replace E:=E.trans e4;replace h1:=h1.ext e4;replace h2:=h2.ext e4;replace h3:=h3.ext e4
 have z4:=e4.size
 refine Qw Tryz.call73 Z (c_orderOf (.slice (some ⟨b3,0,none⟩) 4 4) [x.epoch,x.op,x.key,x.val] (.slice (some ⟨b4,0,none⟩) 4 4) [y.epoch,y.op,y.key,y.val] _ (Blk.rd (α:=Int) (xs:=[x.epoch,x.op,x.key,x.val]) (by decide) h3 Z (by simp [maxLen])) (Blk.rd (α:=Int) (xs:=[y.epoch,y.op,y.key,y.val]) (by decide) h4 Z (by simp [maxLen]))) Z (fun _ w5 e5 hv=>?_)
 subst hv
 replace E:=E.trans e5;replace h1:=h1.ext e5;replace h2:=h2.ext e5;replace h3:=h3.ext e5;replace h4:=h4.ext e5
 have z5:=e5.size
 refine Qa (Qe Z) Z (Qd (Qx (Qu Z Z E ?_)))
 rfl

set_option maxRecDepth 20000 in
theorem s_CellOrder (x : Cell) (y : Cell) (w : World)  : Ct Tryz.prog 62 [.agg (Enc.enc x).toArray,.agg (Enc.enc y).toArray] w (fun v _=>v = .int .i64 (Kg x y)):=by
 refine Yp Tryz.func62 Z Tryz.ntmps62 Z ?_
 refine Yb [(0,.agg (Enc.enc x).toArray),(1,.agg (Enc.enc y).toArray)] ⟨Z,Z,trivial⟩ ?_
 have E : Ext w w:=Ext.refl w
 refine Qh (Qi [false,false,true] Z Z (Xb Z Z (fun b1 w1 e1 s1 h1=>?_)))
 have g_b1 : w.heap.size ≤ b1:=by have:=E.size;omega
 have y_b1:=h1.lt
 replace E:=E.trans e1
 have z1:=e1.size
 refine Xb Z Z (fun b2 w2 e2 s2 h2=>?_)
 have g_b2 : w.heap.size ≤ b2:=by have:=E.size;omega
 have y_b2:=h2.lt
 replace E:=E.trans e2;replace h1:=h1.ext e2
 have z2:=e2.size
 refine Qa (Qe Z) Z (Qd (Qh (Xk Xd [(0,true),(1,true),(2,true),(3,true),(5,true),(6,true),(7,true),(8,true),(10,true),(11,true),(12,true),(13,true),(15,true),(16,true),(17,true),(18,true),(4,false),(9,false),(14,false),(19,false),(20,false),(21,true)] (by decide +kernel) Z (fun w3 e3=>?_))))
 replace E:=E.trans e3;replace h1:=h1.ext e3;replace h2:=h2.ext e3
 have z3:=e3.size
 refine Qa (Qf V2 Z) Z (Qa (Qk Xi Z (h1.one 1 Z)) Z (Qa (Qf V2 Z) Z (Qa (Qk Xi Z (h2.one 1 Z)) Z (Qa (Qf V3 Z) Z (Qa (Qk Xi Z (h1.one 0 Z)) Z (Qa (Qf V3 Z) Z (Qa (Qk Xi Z (h2.one 0 Z)) Z (Qa (Qf V1 Z) Z (Qa (Qk Xi Z (h1.one 2 Z)) Z (Qa (Qf V1 Z) Z (Qa (Qk Xi Z (h2.one 2 Z)) Z (Qa (Qf Hj Z) Z (Qa (Qk Xi Z (h1.one 3 Z)) Z (Qa (Qf Hj Z) Z (Qa (Qk Xi Z (h2.one 3 Z)) Z (Qw Tryz.call76 Z (c_l02Order x.epoch y.epoch _ ) Z (fun _ w4 e4 hv=>?_)))))))))))))))))
 subst hv
 replace E:=E.trans e4;replace h1:=h1.ext e4;replace h2:=h2.ext e4
 have z4:=e4.size
 refine Qw Tryz.call76 Z (c_l02Order x.op y.op _ ) Z (fun _ w5 e5 hv=>?_)
 subst hv
 replace E:=E.trans e5;replace h1:=h1.ext e5;replace h2:=h2.ext e5
 have z5:=e5.size
 refine Qw Tryz.call76 Z (c_l02Order x.key y.key _ ) Z (fun _ w6 e6 hv=>?_)
 subst hv
 replace E:=E.trans e6;replace h1:=h1.ext e6;replace h2:=h2.ext e6
 have z6:=e6.size
 refine Qw Tryz.call76 Z (c_l02Order x.val y.val _ ) Z (fun _ w7 e7 hv=>?_)
 subst hv
 replace E:=E.trans e7;replace h1:=h1.ext e7;replace h2:=h2.ext e7
 have z7:=e7.size
 refine Qz (vs:=[.int .i64 (Xj x.epoch y.epoch),.int .i64 (Xj x.op y.op),.int .i64 (Xj x.key y.key),.int .i64 (Xj x.val y.val)]) (css:=[[.int .i64 (Xj x.epoch y.epoch)],[.int .i64 (Xj x.op y.op)],[.int .i64 (Xj x.key y.key)],[.int .i64 (Xj x.val y.val)]]) Kd Z Z ⟨⟨Z,Z⟩,⟨Z,Z⟩,⟨Z,Z⟩,⟨Z,Z⟩,trivial⟩ Z Z (fun b3 w8 e8 s3 h3=>?_)
 replace h3 : Blk w8 b3 [.int .i64 (Xj x.epoch y.epoch),.int .i64 (Xj x.op y.op),.int .i64 (Xj x.key y.key),.int .i64 (Xj x.val y.val)]:=h3
 have g_b3 : w.heap.size ≤ b3:=by have:=E.size;omega
 have y_b3:=h3.lt
 replace E:=E.trans e8;replace h1:=h1.ext e8;replace h2:=h2.ext e8
 have z8:=e8.size
 refine Qa (Qe Z) Z (Qd (Qh (Qh (Qi [true] Z Z (Qa (Qe Z) Z (Qd (Q2 (Y6 (fun (k : Nat)=>[(4,.int .i64 0),(5,.slice (some ⟨b3,0,none⟩) 4 4),(6,.int .i64 ((k : Nat) : Int))]) (fun (k : Nat) w'=>Ext w w' ∧ w8.heap.size ≤ w'.heap.size ∧ Blk w' b1 (Enc.enc x) ∧ Blk w' b2 (Enc.enc y) ∧ Blk w' b3 [.int .i64 (Xj x.epoch y.epoch),.int .i64 (Xj x.op y.op),.int .i64 (Xj x.key y.key),.int .i64 (Xj x.val y.val)] ∧ k ≤ 4 ∧ X9 (List.drop k [Xj x.epoch y.epoch,Xj x.op y.op,Xj x.key y.key,Xj x.val y.val]) = X9 [Xj x.epoch y.epoch,Xj x.op y.op,Xj x.key y.key,Xj x.val y.val]) (fun (k : Nat)=>4 - k) 0 ⟨Z,Z,Z,trivial⟩ ⟨E,Nat.le_refl _,h1,h2,h3,Nat.zero_le _,Z⟩ ?_))))))))
 clear E h1 h2 h3
 rintro k w9 ⟨E,z9,h1,h2,h3,hk,hI⟩
 refine Qh (Qh (Qi [true,true] Z Z (Qa (Qb Z) Z (Qa (Xe Z Z) Z (Qd (Qt Z (fun hc1=>?_) (fun hc1=>?_)))))))
 ·have hc1n : k < 4:=by first | (have h:=of_decide_eq_true hc1;omega) | (have h:=hc1;simp at h;omega)
  refine Qy (Qh (Q2 (Qh (Qi [true,true,true,true,true] Z Z (Qa (Qb Z) Z (Qa (Qb Z) Z ?_))))))
  have hi1 : k < [Xj x.epoch y.epoch,Xj x.op y.op,Xj x.key y.key,Xj x.val y.val].length:=(by first | assumption | omega | (simp only [List.length_set];first | assumption | omega) | (simp only [List.getElem_set_self,List.length_set];first | assumption | omega) | (simp only [Y3,Yj,List.length_set];first | assumption | omega) | (simp;done))
  refine Qa (Q5 (i:=k) Kd Z Z (Blk.rd (α:=Int) (xs:=[Xj x.epoch y.epoch,Xj x.op y.op,Xj x.key y.key,Xj x.val y.val]) (by decide) h3 Z (by simp [maxLen])) hi1) Z (Qa (Qk Xi Z (((Blk.rd (α:=Int) (xs:=[Xj x.epoch y.epoch,Xj x.op y.op,Xj x.key y.key,Xj x.val y.val]) (by decide) h3 Z (by simp [maxLen])).get hi1).one 0 Z)) Z (Qa (X1 Z Z) Z (Qd (Qt Z (fun hc2=>?_) (fun hc2=>?_)))))
  ·refine Qh (Qi [true,true,true,true,true] Z Z (Qa (Qb Z) Z (Qa (Qb Z) Z (Qa (Q5 (i:=k) Kd Z Z (Blk.rd (α:=Int) (xs:=[Xj x.epoch y.epoch,Xj x.op y.op,Xj x.key y.key,Xj x.val y.val]) (by decide) h3 Z (by simp [maxLen])) hi1) Z (Qa (Qk Xi Z (((Blk.rd (α:=Int) (xs:=[Xj x.epoch y.epoch,Xj x.op y.op,Xj x.key y.key,Xj x.val y.val]) (by decide) h3 Z (by simp [maxLen])).get hi1).one 0 Z)) Z (Qa (Qe Z) Z (Qd (Qx (Q0 (Yy (Q0 (Qu Z Z E ?_))))))))))))
   exact cellOrd_a (firstNZ_yes hI (by simpa using hc1n) (by simpa using hc2))
  ·refine Qy (Q4 (Yn (Qi [true,true,true] Z Z (Qa (Qb Z) Z (Qa (Yu Z Z (Yw hc1n (by first | assumption | (unfold maxLen;omega)))) Z (Qa (Qe Z) Z (Qd (Q4 (Yg (k + 1) (by omega) ⟨Z,Z,Z,trivial⟩ ⟨E,(by omega),h1,h2,h3,(by omega),firstNZ_step hI (by simpa using hc1n) (by simpa using hc2)⟩)))))))))
 ·have hc1n : ¬ k < 4:=by first | (have h:=of_decide_eq_false hc1;omega) | (have h:=hc1;simp at h;omega)
  refine Y5 (Yc (Q8 ?_))
  refine Qh (Qi [true] Z Z (Qa (Qe Z) Z (Qd (Qx (Qu Z Z E ?_)))))
  exact cellOrd_b (firstNZ_no hI (by simp;omega))

set_option maxRecDepth 20000 in
theorem s_HasCell (vxs : Value) (xs : List Cell) (x : Cell) (w : World) (hxs : RdS w vxs xs) : Ct Tryz.prog 125 [vxs,.agg (Enc.enc x).toArray] w (fun v _=>v = .bool (decide (x ∈ xs))):=by
 refine Yp Tryz.func125 Z Tryz.ntmps125 Z ?_
 refine Yb [(0,vxs),(1,.agg (Enc.enc x).toArray)] ⟨Z,Z,trivial⟩ ?_
 have E : Ext w w:=Ext.refl w
 refine Qh (Qi [false,true] Z Z (Xb Z Z (fun b1 w1 e1 s1 h1=>?_)))
 have g_b1 : w.heap.size ≤ b1:=by have:=E.size;omega
 have y_b1:=h1.lt
 replace E:=E.trans e1
 have z1:=e1.size
 refine Qa (Qe Z) Z (Qd (Qh (Qh (Qi [true] Z Z (Qa (Qe Z) Z (Qd (Q2 (Y6 (fun (k : Nat)=>[(0,vxs),(3,.pointer (some ⟨b1,0,none⟩)),(4,.bool false),(5,.int .i64 ((k : Nat) : Int))]) (fun (k : Nat) w'=>Ext w w' ∧ w1.heap.size ≤ w'.heap.size ∧ Blk w' b1 (Enc.enc x) ∧ k ≤ xs.length ∧ x ∉ xs.take k) (fun (k : Nat)=>xs.length - k) 0 ⟨Z,Z,Z,Z,trivial⟩ ⟨E,Nat.le_refl _,h1,Nat.zero_le _,(by simp)⟩ ?_))))))))
 clear E h1
 rintro k w2 ⟨E,z2,h1,hk,hI⟩
 refine Qh (Qh (Qi [true,true,true,true] Z Z (Qa (Qb Z) Z (Qa (Qb Z) Z (Qa (Ye Tryz.underlying28 Z (hxs.ext E).len) Z (Qa (Xe Z Z) Z (Qd (Qt Z (fun hc1=>?_) (fun hc1=>?_)))))))))
 ·have hc1n : k < xs.length:=by first | (have h:=of_decide_eq_true hc1;omega) | (have h:=hc1;simp at h;omega)
  refine Qy (Qh (Q2 (Qh (Xk Xd [(0,true),(1,true),(2,true),(3,true),(4,true),(5,true)] (by decide +kernel) Z (fun w3 e2=>?_)))))
  replace E:=E.trans e2;replace h1:=h1.ext e2
  have z3:=e2.size
  refine Qa (Qb Z) Z (Qa (Qb Z) Z ?_)
  have hi1 : k < xs.length:=(by first | assumption | omega | (simp only [List.length_set];first | assumption | omega) | (simp only [List.getElem_set_self,List.length_set];first | assumption | omega) | (simp only [Y3,Yj,List.length_set];first | assumption | omega) | (simp;done))
  refine Qa (Q5 (i:=k) K3 Z Z (hxs.ext E) hi1) Z (Qa (Ql Vx Z ((hxs.ext E).get hi1) Z) Z (Qa (Ql Vx Z h1.at Z) Z (Qa (R_eqlS (eq76 (xs[k]'hi1) x) eqg76 Z Z) Z (Qd (Qt Z (fun hc2=>?_) (fun hc2=>?_))))))
  ·refine Qh (Qi [true] Z Z (Qa (Qe Z) Z (Qd (Qx (Q0 (Yy (Q0 (Qu Z Z E ?_))))))))
   exact has_yes hc1n (by simpa using hc2)
  ·refine Qy (Q4 (Yn (Qi [true,true,true] Z Z (Qa (Qb Z) Z (Qa (Yu Z Z (Yw hc1n hxs.1)) Z (Qa (Qe Z) Z (Qd (Q4 (Yg (k + 1) (by omega) ⟨Z,Z,Z,Z,trivial⟩ ⟨E,(by omega),h1,(by omega),has_step hI (by assumption) (by simpa using hc2)⟩)))))))))
 ·have hc1n : ¬ k < xs.length:=by first | (have h:=of_decide_eq_false hc1;omega) | (have h:=hc1;simp at h;omega)
  refine Y5 (Yc (Q8 ?_))
  refine Qh (Qi [true] Z Z (Qa (Qe Z) Z (Qd (Qx (Qu Z Z E ?_)))))
  exact has_no hI (by omega)

set_option maxRecDepth 20000 in
theorem s_LeastOf (vxs : Value) (xs : List Cell) (op : Int) (epoch : Int) (key : Int) (w : World) (hxs : RdS w vxs xs) : Ct Tryz.prog 127 [vxs,.int .i64 op,.int .i64 epoch,.int .i64 key] w (fun v _=>v = .tuple [.int .i64 ((Yt xs op epoch key).1),.bool ((Yt xs op epoch key).2)].toArray):=by
 refine Yp Tryz.func127 Z Tryz.ntmps127 Z ?_
 refine Yb [(0,vxs),(1,.int .i64 op),(2,.int .i64 epoch),(3,.int .i64 key)] ⟨Z,Z,Z,Z,trivial⟩ ?_
 have E : Ext w w:=Ext.refl w
 refine Qh (Qi [true,true] Z Z (Qa (Qe Z) Z (Qa (Qe Z) Z (Qd (Qh (Qi [true] Z Z (Qa (Qe Z) Z (Qd (Qh (Qi [true] Z Z (Qa (Qe Z) Z (Qd (Qh (Qh (Qi [true] Z Z (Qa (Qe Z) Z (Qd (Q2 (Y6 (fun (xq : Nat × Int × Bool)=>let ⟨k,n,s⟩:=xq;[(0,vxs),(1,.int .i64 op),(2,.int .i64 epoch),(3,.int .i64 key),(8,.int .i64 0),(9,.bool false),(10,.int .i64 n),(11,.bool s),(12,.int .i64 ((k : Nat) : Int))]) (fun (xq : Nat × Int × Bool) w'=>let ⟨k,n,s⟩:=xq;Ext w w' ∧ w.heap.size ≤ w'.heap.size ∧ k ≤ xs.length ∧ Kr op epoch key (xs.drop k) n s = Yt xs op epoch key) (fun (xq : Nat × Int × Bool)=>let ⟨k,n,s⟩:=xq;xs.length - k) (0,0,false) ⟨Z,Z,Z,Z,Z,Z,Z,Z,Z,trivial⟩ ⟨E,Nat.le_refl _,Nat.zero_le _,Z⟩ ?_)))))))))))))))))))
 clear E
 rintro ⟨k,n,s⟩ w1 ⟨E,z1,hk,hI⟩
 refine Yb [(0,vxs),(1,.int .i64 op),(2,.int .i64 epoch),(3,.int .i64 key),(8,.int .i64 0),(9,.bool false),(10,.int .i64 n),(11,.bool s),(12,.int .i64 ((k : Nat) : Int))] ⟨Z,Z,Z,Z,Z,Z,Z,Z,Z,trivial⟩ ?_
 refine Qh (Qh (Qi [true,true,true,true] Z Z (Qa (Qb Z) Z (Qa (Qb Z) Z (Qa (Ye Tryz.underlying28 Z (hxs.ext E).len) Z (Qa (Xe Z Z) Z (Qd (Qt Z (fun hc1=>?_) (fun hc1=>?_)))))))))
 ·have hc1n : k < xs.length:=by first | (have h:=of_decide_eq_true hc1;omega) | (have h:=hc1;simp at h;omega)
  refine Qy (Qh (Q2 (Qh (Qi [true,true,true,true,false,false] Z Z (Qa (Qb Z) Z (Qa (Qb Z) Z ?_))))))
  have hi1 : k < xs.length:=(by first | assumption | omega | (simp only [List.length_set];first | assumption | omega) | (simp only [List.getElem_set_self,List.length_set];first | assumption | omega) | (simp only [Y3,Yj,List.length_set];first | assumption | omega) | (simp;done))
  refine Qa (Q5 (i:=k) K3 Z Z (hxs.ext E) hi1) Z (Qa (Ql Vx Z ((hxs.ext E).get hi1) Z) Z (Yd Vx Z (fun b1 w2 e1 s1 h1=>?_)))
  have g_b1 : w.heap.size ≤ b1:=by have:=E.size;omega
  have y_b1:=h1.lt
  replace E:=E.trans e1
  have z2:=e1.size
  refine Qs (cs':=[.int .i64 ((xs[k]'hi1).op),.int .i64 ((xs[k]'hi1).epoch),.int .i64 ((xs[k]'hi1).key),.int .i64 ((xs[k]'hi1).val)]) Vx Z Z Z Z h1 (Nat.le_of_ble_eq_true Z) Z (fun w3 m1 h1'=>?_)
  replace h1:=h1'
  replace E:=E.step m1 (fun g hg=>by cases hg;omega)
  have z3:=m1.size
  refine Qd (Qh (Qi [true,true,true,true,true,true,true,true,true,true,true,true,true,true,true,true,true,true,true,true,true,true,true,true,true,true] Z Z (Qa (Qf V3 Z) Z (Qa (Qk Xi Z (h1.one 0 Z)) Z (Qa (Qb Z) Z (Qa (Y9 Z Z) Z (Qa (Qb Z) Z (Xr 21 [(0,vxs),(1,.int .i64 op),(2,.int .i64 epoch),(3,.int .i64 key),(8,.int .i64 0),(9,.bool false),(10,.int .i64 n),(11,.bool s),(12,.int .i64 ((k : Nat) : Int)),(13,.pointer (some ⟨b1,0,none⟩)),(14,.int .i64 ((k : Nat) : Int)),(15,vxs),(16,.int .i64 ((xs.length : Nat) : Int)),(17,.bool (decide (((k : Nat) : Int) < ((xs.length : Nat) : Int)))),(20,vxs),(21,.int .i64 ((k : Nat) : Int)),(22,.pointer (some ⟨Kk vxs,Ue vxs + k * 4,none⟩)),(23,.agg (Enc.enc (xs[k]'hi1)).toArray),(49,.bool ((((((xs[k]'hi1).op) == op) && (((xs[k]'hi1).epoch) == epoch)) && (((xs[k]'hi1).key) == key)) && ((!s) || (decide (((xs[k]'hi1).val) < n)))))] (fun w'=>w3 = w') ?_ ?_))))))))
  ·refine Yz (gd:=28) Z Z (fun hg1=>?_) (fun hg1=>?_)
   ·refine Qm Z Z (Qf V2 Z) Z (Qm Z Z (Qk Xi Z (h1.one 1 Z)) Z (Qm Z Z (Qb Z) Z (Qm Z Z (Y9 Z Z) Z (Qa (Qr Z Z) Z (Qa (Qb Z) Z ?_)))))
    refine Yz (gd:=34) Z Z (fun hg2=>?_) (fun hg2=>?_)
    ·refine Qm Z Z (Qf V1 Z) Z (Qm Z Z (Qk Xi Z (h1.one 2 Z)) Z (Qm Z Z (Qb Z) Z (Qm Z Z (Y9 Z Z) Z (Qa (Qr Z Z) Z (Qa (Qb Z) Z ?_)))))
     refine Yz (gd:=40) Z Z (fun hg3=>?_) (fun hg3=>?_)
     ·refine Qm Z Z (Qb Z) Z (Qm Z Z (Xn Z) Z (Qm Z Z (Qb Z) Z ?_))
      refine Yz (gd:=43) Z Z (fun hg4=>?_) (fun hg4=>?_)
      ·refine Qc Z Z Z Z (Qc Z Z Z Z (Qc Z Z Z Z (Qc Z Z Z Z (Qm Z Z (Qr Z Z) Z (Qa (Qr Z Z) Z (Qn ⟨Z,Z,Z,Z,Z,Z,Z,Z,Z,Z,Z,Z,Z,Z,Z,Z,Z,Z,congrArg (fun b=>some (Value.bool b)) (show true = ((((((xs[k]'hi1).op) == op) && (((xs[k]'hi1).epoch) == epoch)) && (((xs[k]'hi1).key) == key)) && ((!s) || (decide (((xs[k]'hi1).val) < n)))) by first | (rw [hg1,hg2,hg3,hg4] <;> rfl) | (simp [hg1,hg2,hg3,hg4];done) | (simp only [Qq] <;> simp)),trivial⟩ Z))))))
      ·refine Qm Z Z (Qf Hj Z) Z (Qm Z Z (Qk Xi Z (h1.one 3 Z)) Z (Qm Z Z (Qb Z) Z (Qm Z Z (Xe Z Z) Z (Qm Z Z (Qp Z Z) Z (Qa (Qr Z Z) Z (Qn ⟨Z,Z,Z,Z,Z,Z,Z,Z,Z,Z,Z,Z,Z,Z,Z,Z,Z,Z,congrArg (fun b=>some (Value.bool b)) (show (decide (((xs[k]'hi1).val) < n)) = ((((((xs[k]'hi1).op) == op) && (((xs[k]'hi1).epoch) == epoch)) && (((xs[k]'hi1).key) == key)) && ((!s) || (decide (((xs[k]'hi1).val) < n)))) by first | (rw [hg1,hg2,hg3,hg4] <;> rfl) | (simp [hg1,hg2,hg3,hg4];done) | (simp only [Qq] <;> simp)),trivial⟩ Z))))))
     ·refine Qc Z Z Z Z (Qc Z Z Z Z (Qc Z Z Z Z (Q9 Z Z Z (Q9 Z Z Z (Q9 Z Z Z (Q9 Z Z Z (Qc Z Z Z Z (Qa (Qp Z Z) Z (Qn ⟨Z,Z,Z,Z,Z,Z,Z,Z,Z,Z,Z,Z,Z,Z,Z,Z,Z,Z,congrArg (fun b=>some (Value.bool b)) (show false = ((((((xs[k]'hi1).op) == op) && (((xs[k]'hi1).epoch) == epoch)) && (((xs[k]'hi1).key) == key)) && ((!s) || (decide (((xs[k]'hi1).val) < n)))) by first | (rw [hg1,hg2,hg3] <;> rfl) | (simp [hg1,hg2,hg3];done) | (simp only [Qq] <;> simp)),trivial⟩ Z)))))))))
    ·refine Qc Z Z Z Z (Qc Z Z Z Z (Qc Z Z Z Z (Qc Z Z Z Z (Qa (Qp Z Z) Z (Qa (Qb Z) Z (Qc Z Z Z Z (Qc Z Z Z Z (Qc Z Z Z Z (Q9 Z Z Z (Q9 Z Z Z (Q9 Z Z Z (Q9 Z Z Z (Qc Z Z Z Z (Qa (Qp Z Z) Z (Qn ⟨Z,Z,Z,Z,Z,Z,Z,Z,Z,Z,Z,Z,Z,Z,Z,Z,Z,Z,congrArg (fun b=>some (Value.bool b)) (show false = ((((((xs[k]'hi1).op) == op) && (((xs[k]'hi1).epoch) == epoch)) && (((xs[k]'hi1).key) == key)) && ((!s) || (decide (((xs[k]'hi1).val) < n)))) by first | (rw [hg1,hg2] <;> rfl) | (simp [hg1,hg2];done) | (simp only [Qq] <;> simp)),trivial⟩ Z)))))))))))))))
   ·refine Qc Z Z Z Z (Qc Z Z Z Z (Qc Z Z Z Z (Qc Z Z Z Z (Qa (Qp Z Z) Z (Qa (Qb Z) Z (Qc Z Z Z Z (Qc Z Z Z Z (Qc Z Z Z Z (Qc Z Z Z Z (Qa (Qp Z Z) Z (Qa (Qb Z) Z (Qc Z Z Z Z (Qc Z Z Z Z (Qc Z Z Z Z (Q9 Z Z Z (Q9 Z Z Z (Q9 Z Z Z (Q9 Z Z Z (Qc Z Z Z Z (Qa (Qp Z Z) Z (Qn ⟨Z,Z,Z,Z,Z,Z,Z,Z,Z,Z,Z,Z,Z,Z,Z,Z,Z,Z,congrArg (fun b=>some (Value.bool b)) (show false = ((((((xs[k]'hi1).op) == op) && (((xs[k]'hi1).epoch) == epoch)) && (((xs[k]'hi1).key) == key)) && ((!s) || (decide (((xs[k]'hi1).val) < n)))) by first | (rw [hg1] <;> rfl) | (simp [hg1];done) | (simp only [Qq] <;> simp)),trivial⟩ Z)))))))))))))))))))))
  rintro _ rfl
  refine Qd (Qt Z (fun hc2=>?_) (fun hc2=>?_))
  ·refine Qh (Qi [true,true,true] Z Z (Qa (Qf Hj Z) Z (Qa (Qk Xi Z (h1.one 3 Z)) Z (Qa (Qe Z) Z (Qd (Qi [true] Z Z (Qa (Qe Z) Z (Qd (Q4 (Yn (Qi [true,true,true] Z Z (Qa (Qb Z) Z (Qa (Yu Z Z (Yw hc1n hxs.1)) Z (Qa (Qe Z) Z (Qd (Q4 (Yg (k + 1,(xs[k]'hi1).val,true) (by simp;omega) ⟨Z,Z,Z,Z,Z,Z,Z,Z,Z,trivial⟩ ⟨E,(by omega),(by omega),leastGo_yes hI hc1n (by simpa [Uf] using hc2)⟩)))))))))))))))))
  ·refine Qy (Q4 (Yn (Qi [true,true,true] Z Z (Qa (Qb Z) Z (Qa (Yu Z Z (Yw hc1n hxs.1)) Z (Qa (Qe Z) Z (Qd (Q4 (Yg (k + 1,n,s) (by simp;omega) ⟨Z,Z,Z,Z,Z,Z,Z,Z,Z,trivial⟩ ⟨E,(by omega),(by omega),leastGo_no hI hc1n (by simpa [Uf] using hc2)⟩)))))))))
 ·have hc1n : ¬ k < xs.length:=by first | (have h:=of_decide_eq_false hc1;omega) | (have h:=hc1;simp at h;omega)
  refine Y5 (Yc (Q8 ?_))
  refine Qh (Qi [true,true,true,true] Z Z (Qa (Qb Z) Z (Qa (Qb Z) Z (Qa (Qe Z) Z (Qa (Qe Z) Z (Qd (Qx (Y1 (l:=[.tmp 8,.tmp 9]) (vs:=[.int .i64 n,.bool s]) Z ⟨.tmp Z,.tmp Z,trivial⟩ Z E ?_))))))))
  simp only [← hI,List.drop_of_length_le (show xs.length ≤ k by omega),Kr]

set_option maxRecDepth 20000 in
theorem s_CellsOk (vxs : Value) (xs : List Cell) (w : World) (hxs : RdS w vxs xs) : Ct Tryz.prog 31 [vxs] w (fun v _=>v = .bool ((G9 xs).all X6)):=by
 refine Yp Tryz.func31 Z Tryz.ntmps31 Z ?_
 refine Yb [(0,vxs)] ⟨Z,trivial⟩ ?_
 have E : Ext w w:=Ext.refl w
 refine Qh (Qi [true] Z Z (Qa (Qe Z) Z (Qd (Qh (Qh (Qi [true] Z Z (Qa (Qe Z) Z (Qd (Q2 (Y6 (fun (j : Nat)=>[(0,vxs),(2,.bool false),(3,.int .i64 ((j + 1 : Nat) : Int))]) (fun (j : Nat) w'=>Ext w w' ∧ w.heap.size ≤ w'.heap.size ∧ ((G9 xs).take j).all X6 = true) (fun (j : Nat)=>xs.length - j) 0 ⟨Z,Z,Z,trivial⟩ ⟨E,Nat.le_refl _,Z⟩ ?_))))))))))
 clear E
 rintro j w1 ⟨E,z1,hI⟩
 have hlm:=hxs.1
 unfold maxLen at hlm
 refine Qh (Qh (Qi [true,true,true,true] Z Z (Qa (Qb Z) Z (Qa (Qb Z) Z (Qa (Ye Tryz.underlying28 Z (hxs.ext E).len) Z (Qa (Xe Z Z) Z (Qd (Qt Z (fun hc1=>?_) (fun hc1=>?_)))))))))
 ·have hc1n : j + 1 < xs.length:=by first | (have h:=of_decide_eq_true hc1;omega) | (have h:=hc1;simp at h;omega)
  refine Qy (Qh (Q2 (Qh (Xk Xd [(0,true),(1,true),(2,true),(3,true),(4,true),(5,true),(6,true),(7,true),(8,true),(9,false),(10,true)] (by decide +kernel) Z (fun w2 e1=>?_)))))
  replace E:=E.trans e1
  have z2:=e1.size
  refine Qa (Qb Z) Z (Qa (Qb Z) Z (Qa (Gh Z Z (sub_one (m:=j) (by unfold maxLen;omega))) Z ?_))
  have hi1 : j < xs.length:=(by first | assumption | omega | (simp only [List.length_set];first | assumption | omega) | (simp only [List.getElem_set_self,List.length_set];first | assumption | omega) | (simp only [Y3,Yj,List.length_set];first | assumption | omega) | (simp;done))
  refine Qa (Q5 (i:=j) K3 Z Z (hxs.ext E) hi1) Z (Qa (Ql Vx Z ((hxs.ext E).get hi1) Z) Z (Qa (Qb Z) Z (Qa (Qb Z) Z ?_)))
  have hi2 : j + 1 < xs.length:=(by first | assumption | omega | (simp only [List.length_set];first | assumption | omega) | (simp only [List.getElem_set_self,List.length_set];first | assumption | omega) | (simp only [Y3,Yj,List.length_set];first | assumption | omega) | (simp;done))
  refine Qa (Q5 (i:=j + 1) K3 Z Z (hxs.ext E) hi2) Z (Qa (Ql Vx Z ((hxs.ext E).get hi2) Z) Z (Qw Tryz.call62 Z (s_CellOrder (xs[j]'hi1) (xs[j + 1]'hi2) _ ) Z (fun _ w3 e2 hv=>?_)))
  subst hv
  replace E:=E.trans e2
  have z3:=e2.size
  refine Qa (Hs Z Z) Z (Qd (Qt Z (fun hc2=>?_) (fun hc2=>?_)))
  ·refine Qh (Qi [true] Z Z (Qa (Qe Z) Z (Qd (Qx (Q0 (Yy (Q0 (Qu Z Z E ?_))))))))
   exact adj_no hc1n (by simpa [X6] using hc2)
  ·refine Qy (Q4 (Yn (Qi [true,true,true] Z Z (Qa (Qb Z) Z (Qa (Yu Z Z (Yw hc1n hxs.1)) Z (Qa (Qe Z) Z (Qd (Q4 (Yg (j + 1) (by omega) ⟨Z,Z,Z,trivial⟩ ⟨E,(by omega),adj_step hI (by assumption) (by simpa [X6] using hc2)⟩)))))))))
 ·have hc1n : ¬ j + 1 < xs.length:=by first | (have h:=of_decide_eq_false hc1;omega) | (have h:=hc1;simp at h;omega)
  refine Y5 (Yc (Q8 ?_))
  refine Qh (Qi [true] Z Z (Qa (Qe Z) Z (Qd (Qx (Qu Z Z E ?_)))))
  exact adj_yes hI (by omega)

set_option maxRecDepth 20000 in
theorem c_CellsOk (vxs : Value) (xs : List Cell) (w : World) (hxs : RdS w vxs xs) : Ct Tryz.prog 27 [vxs] w (fun v _=>v = .bool ((G9 xs).all X6)):=by
 refine Yp Tryz.func27 Z Tryz.ntmps27 Z ?_
 refine Yb [(0,vxs)] ⟨Z,trivial⟩ ?_
 have E : Ext w w:=Ext.refl w
 refine Qh (Qi [true] Z Z (Qa (Qe Z) Z (Qd (Qh (Qh (Qi [true] Z Z (Qa (Qe Z) Z (Qd (Q2 (Y6 (fun (j : Nat)=>[(0,vxs),(2,.bool false),(3,.int .i64 ((j + 1 : Nat) : Int))]) (fun (j : Nat) w'=>Ext w w' ∧ w.heap.size ≤ w'.heap.size ∧ ((G9 xs).take j).all X6 = true) (fun (j : Nat)=>xs.length - j) 0 ⟨Z,Z,Z,trivial⟩ ⟨E,Nat.le_refl _,Z⟩ ?_))))))))))
 clear E
 rintro j w1 ⟨E,z1,hI⟩
 have hlm:=hxs.1
 unfold maxLen at hlm
 refine Qh (Qh (Qi [true,true,true,true] Z Z (Qa (Qb Z) Z (Qa (Qb Z) Z (Qa (Ye Tryz.underlying28 Z (hxs.ext E).len) Z (Qa (Xe Z Z) Z (Qd (Qt Z (fun hc1=>?_) (fun hc1=>?_)))))))))
 ·have hc1n : j + 1 < xs.length:=by first | (have h:=of_decide_eq_true hc1;omega) | (have h:=hc1;simp at h;omega)
  refine Qy (Qh (Q2 (Qh (Xk Xd [(0,true),(1,true),(2,true),(3,true),(4,true),(5,true),(6,true),(7,true),(8,true),(9,false),(10,true)] (by decide +kernel) Z (fun w2 e1=>?_)))))
  replace E:=E.trans e1
  have z2:=e1.size
  refine Qa (Qb Z) Z (Qa (Qb Z) Z (Qa (Gh Z Z (sub_one (m:=j) (by unfold maxLen;omega))) Z ?_))
  have hi1 : j < xs.length:=(by first | assumption | omega | (simp only [List.length_set];first | assumption | omega) | (simp only [List.getElem_set_self,List.length_set];first | assumption | omega) | (simp only [Y3,Yj,List.length_set];first | assumption | omega) | (simp;done))
  refine Qa (Q5 (i:=j) K3 Z Z (hxs.ext E) hi1) Z (Qa (Ql Vx Z ((hxs.ext E).get hi1) Z) Z (Qa (Qb Z) Z (Qa (Qb Z) Z ?_)))
  have hi2 : j + 1 < xs.length:=(by first | assumption | omega | (simp only [List.length_set];first | assumption | omega) | (simp only [List.getElem_set_self,List.length_set];first | assumption | omega) | (simp only [Y3,Yj,List.length_set];first | assumption | omega) | (simp;done))
  refine Qa (Q5 (i:=j + 1) K3 Z Z (hxs.ext E) hi2) Z (Qa (Ql Vx Z ((hxs.ext E).get hi2) Z) Z (Qw Tryz.call58 Z (c_CellOrder (xs[j]'hi1) (xs[j + 1]'hi2) _ ) Z (fun _ w3 e2 hv=>?_)))
  subst hv
  replace E:=E.trans e2
  have z3:=e2.size
  refine Qa (Hs Z Z) Z (Qd (Qt Z (fun hc2=>?_) (fun hc2=>?_)))
  ·refine Qh (Qi [true] Z Z (Qa (Qe Z) Z (Qd (Qx (Q0 (Yy (Q0 (Qu Z Z E ?_))))))))
   exact adj_no hc1n (by simpa [X6] using hc2)
  ·refine Qy (Q4 (Yn (Qi [true,true,true] Z Z (Qa (Qb Z) Z (Qa (Yu Z Z (Yw hc1n hxs.1)) Z (Qa (Qe Z) Z (Qd (Q4 (Yg (j + 1) (by omega) ⟨Z,Z,Z,trivial⟩ ⟨E,(by omega),adj_step hI (by assumption) (by simpa [X6] using hc2)⟩)))))))))
 ·have hc1n : ¬ j + 1 < xs.length:=by first | (have h:=of_decide_eq_false hc1;omega) | (have h:=hc1;simp at h;omega)
  refine Y5 (Yc (Q8 ?_))
  refine Qh (Qi [true] Z Z (Qa (Qe Z) Z (Qd (Qx (Qu Z Z E ?_)))))
  exact adj_yes hI (by omega)

set_option maxRecDepth 20000 in
theorem s_l01In (x : Int) (lo : Int) (hi : Int) (w : World)  : Ct Tryz.prog 32 [.int .i64 x,.int .i64 lo,.int .i64 hi] w (fun v _=>v = .bool (Y2 x lo hi)):=by
 refine Yp Tryz.func32 Z Tryz.ntmps32 Z ?_
 refine Yb [(0,.int .i64 x),(1,.int .i64 lo),(2,.int .i64 hi)] ⟨Z,Z,Z,trivial⟩ ?_
 have E : Ext w w:=Ext.refl w
 refine Qh (Qi [true] Z Z (Qa (Qe Z) Z (Qd (Qh (Qi [true,true,true,true,true,true,true,true,true] Z Z (Qa (Qb Z) Z (Qa (Qb Z) Z (Qa (Hs Z Z) Z (Qa (Qb Z) Z (Xr 4 [(0,.int .i64 x),(1,.int .i64 lo),(2,.int .i64 hi),(6,.bool false),(14,.bool ((decide (lo ≤ x)) && (decide (x ≤ hi))))] (fun w'=>w = w') ?_ ?_))))))))))
 ·refine Yz (gd:=10) Z Z (fun hg1=>?_) (fun hg1=>?_)
  ·refine Qm Z Z (Qb Z) Z (Qm Z Z (Qb Z) Z (Qm Z Z (H8 Z Z) Z (Qa (Qr Z Z) Z (Qn ⟨Z,Z,Z,Z,congrArg (fun b=>some (Value.bool b)) (show (decide (x ≤ hi)) = ((decide (lo ≤ x)) && (decide (x ≤ hi))) by first | (rw [hg1] <;> rfl) | (simp [hg1];done) | (simp only [Qq] <;> simp)),trivial⟩ Z))))
  ·refine Qc Z Z Z Z (Qc Z Z Z Z (Qc Z Z Z Z (Qa (Qp Z Z) Z (Qn ⟨Z,Z,Z,Z,congrArg (fun b=>some (Value.bool b)) (show false = ((decide (lo ≤ x)) && (decide (x ≤ hi))) by first | (rw [hg1] <;> rfl) | (simp [hg1];done) | (simp only [Qq] <;> simp)),trivial⟩ Z))))
 rintro _ rfl
 refine Qa (Qe Z) Z (Qd (Qx (Qu Z Z E ?_)))
 rfl

set_option maxRecDepth 20000 in
theorem c_within (x : Int) (lo : Int) (hi : Int) (w : World)  : Ct Tryz.prog 28 [.int .i64 x,.int .i64 lo,.int .i64 hi] w (fun v _=>v = .bool (Y2 x lo hi)):=by
 refine Yp Tryz.func28 Z Tryz.ntmps28 Z ?_
 refine Yb [(0,.int .i64 x),(1,.int .i64 lo),(2,.int .i64 hi)] ⟨Z,Z,Z,trivial⟩ ?_
 have E : Ext w w:=Ext.refl w
 refine Qh (Qi [true] Z Z (Qa (Qe Z) Z (Qd (Qh (Qi [true,true,true,true,true,true,true,true,true] Z Z (Qa (Qb Z) Z (Qa (Qb Z) Z (Qa (Hs Z Z) Z (Qa (Qb Z) Z (Xr 4 [(0,.int .i64 x),(1,.int .i64 lo),(2,.int .i64 hi),(6,.bool false),(14,.bool ((decide (lo ≤ x)) && (decide (x ≤ hi))))] (fun w'=>w = w') ?_ ?_))))))))))
 ·refine Yz (gd:=10) Z Z (fun hg1=>?_) (fun hg1=>?_)
  ·refine Qm Z Z (Qb Z) Z (Qm Z Z (Qb Z) Z (Qm Z Z (H8 Z Z) Z (Qa (Qr Z Z) Z (Qn ⟨Z,Z,Z,Z,congrArg (fun b=>some (Value.bool b)) (show (decide (x ≤ hi)) = ((decide (lo ≤ x)) && (decide (x ≤ hi))) by first | (rw [hg1] <;> rfl) | (simp [hg1];done) | (simp only [Qq] <;> simp)),trivial⟩ Z))))
  ·refine Qc Z Z Z Z (Qc Z Z Z Z (Qc Z Z Z Z (Qa (Qp Z Z) Z (Qn ⟨Z,Z,Z,Z,congrArg (fun b=>some (Value.bool b)) (show false = ((decide (lo ≤ x)) && (decide (x ≤ hi))) by first | (rw [hg1] <;> rfl) | (simp [hg1];done) | (simp only [Qq] <;> simp)),trivial⟩ Z))))
 rintro _ rfl
 refine Qa (Qe Z) Z (Qd (Qx (Qu Z Z E ?_)))
 rfl

set_option maxRecDepth 20000 in
theorem c_slicesEqual (vxs : Value) (xs : List Int) (vys : Value) (ys : List Int) (w : World) (hxs : RdS w vxs xs) (hys : RdS w vys ys) : Ct Tryz.prog 49 [vxs,vys] w (fun v _=>v = .bool (decide (xs = ys))):=by
 refine Yp Tryz.func49 Z Tryz.ntmps49 Z ?_
 refine Yb [(0,vxs),(1,vys)] ⟨Z,Z,trivial⟩ ?_
 have E : Ext w w:=Ext.refl w
 refine Qh (Qi [true] Z Z (Qa (Qe Z) Z (Qd (Qh (Qh (Qi [true,true,true,true,true] Z Z (Qa (Qb Z) Z (Qa (Ye Tryz.underlying29 Z (hxs.ext E).len) Z (Qa (Qb Z) Z (Qa (Ye Tryz.underlying29 Z (hys.ext E).len) Z (Qa (X1 Z Z) Z (Qd (Qt Z (fun hc1=>?_) (fun hc1=>?_))))))))))))))
 ·have hc1n : ¬ xs.length = ys.length:=by first | (have h:=of_decide_eq_true hc1;omega) | (have h:=hc1;simp at h;omega)
  refine Qh (Qi [true] Z Z (Qa (Qe Z) Z (Qd (Qx (Qu Z Z E ?_)))))
  simp [V6 hc1n]
 ·have hc1n : xs.length = ys.length:=by first | (have h:=of_decide_eq_false hc1;omega) | (have h:=hc1;simp at h;omega)
  refine Qy (Qh (Qh (Qi [true,true,true] Z Z (Qa (Qb Z) Z (Qa (Ye Tryz.underlying29 Z (hxs.ext E).len) Z (Qa (Qb Z) Z (Qd (Q2 (Y6 (fun (k : Nat)=>[(0,vxs),(1,vys),(4,.bool false),(12,.int .i64 ((xs.length : Nat) : Int)),(13,.int .i64 ((k : Nat) : Int))]) (fun (k : Nat) w'=>Ext w w' ∧ w.heap.size ≤ w'.heap.size ∧ k ≤ xs.length ∧ xs.take k = ys.take k) (fun (k : Nat)=>xs.length - k) 0 ⟨Z,Z,Z,Z,Z,trivial⟩ ⟨E,Nat.le_refl _,Nat.zero_le _,Z⟩ ?_)))))))))
  clear E
  rintro k w1 ⟨E,z1,hk,hp⟩
  refine Qh (Qi [true] Z Z (Qa (Xe Z Z) Z (Qd (Qh (Qt Z (fun hc2=>?_) (fun hc2=>?_))))))
  ·have hc2n : k < xs.length:=by first | (have h:=of_decide_eq_true hc2;omega) | (have h:=hc2;simp at h;omega)
   refine Qy (Qh (Q2 (Qh (Qi [true,true] Z Z (Qa (Qb Z) Z (Qa (Qe Z) Z (Qd (Qh (Xk Xd [(0,true),(1,true),(2,true),(3,true),(4,true),(5,true),(6,true),(7,true),(8,true)] (by decide +kernel) Z (fun w2 e1=>?_))))))))))
   replace E:=E.trans e1
   have z2:=e1.size
   refine Qa (Qb Z) Z (Qa (Qb Z) Z ?_)
   have hi1 : k < xs.length:=(by first | assumption | omega | (simp only [List.length_set];first | assumption | omega) | (simp only [List.getElem_set_self,List.length_set];first | assumption | omega) | (simp only [Y3,Yj,List.length_set];first | assumption | omega) | (simp;done))
   refine Qa (Q5 (i:=k) Kd Z Z (hxs.ext E) hi1) Z (Qa (Qk Xi Z (((hxs.ext E).get hi1).one 0 Z)) Z (Qa (Qb Z) Z (Qa (Qb Z) Z ?_)))
   have hi2 : k < ys.length:=(by first | assumption | omega | (simp only [List.length_set];first | assumption | omega) | (simp only [List.getElem_set_self,List.length_set];first | assumption | omega) | (simp only [Y3,Yj,List.length_set];first | assumption | omega) | (simp;done))
   refine Qa (Q5 (i:=k) Kd Z Z (hys.ext E) hi2) Z (Qa (Qk Xi Z (((hys.ext E).get hi2).one 0 Z)) Z (Qa (X1 Z Z) Z (Qd (Qt Z (fun hc3=>?_) (fun hc3=>?_)))))
   ·refine Qh (Qi [true] Z Z (Qa (Qe Z) Z (Qd (Qx (Q0 (Yy (Q0 (Qu Z Z E ?_))))))))
    exact V7 (by omega) (by omega) (by simpa using hc3)
   ·refine Qy (Q4 (Yn (Qi [true,true] Z Z (Qa (Yu Z Z (Yw hc2n hxs.1)) Z (Qa (Qb Z) Z (Qd (Q4 (Yg (k + 1) (by omega) ⟨Z,Z,Z,Z,Z,trivial⟩ ⟨E,(by omega),(by omega),Uo hp (by assumption) (by omega) (by simpa using hc3)⟩))))))))
  ·have hc2n : ¬ k < xs.length:=by first | (have h:=of_decide_eq_false hc2;omega) | (have h:=hc2;simp at h;omega)
   refine Y5 (Yc (Q8 ?_))
   refine Qh (Qi [true] Z Z (Qa (Qe Z) Z (Qd (Qx (Qu Z Z E ?_)))))
   exact U9 hp hc1n (by omega)

set_option maxHeartbeats 4000000 in
set_option maxRecDepth 20000 in
theorem s_NodeOk (cx : List Value) (x : Node) (w : World) (hx : Dat.R w 0 w.heap.size cx x) : Ct Tryz.prog 112 [.agg cx.toArray] w (fun v _=>v = .bool (Xc x)):=by
 refine Yp Tryz.func112 Z Tryz.ntmps112 Z ?_
 obtain ⟨o1,rfl,hd1⟩:=Node.op hx
 refine Yb [(0,.agg [.int .i64 x.kind,.int .i64 x.a,.int .i64 x.b,o1].toArray)] ⟨Z,trivial⟩ ?_
 have E : Ext w w:=Ext.refl w
 refine Qh (Qi [false,true] Z Z (Xb Z Z (fun b1 w1 e1 s1 h1=>?_)))
 have g_b1 : w.heap.size ≤ b1:=by have:=E.size;omega
 have y_b1:=h1.lt
 replace E:=E.trans e1
 have z1:=e1.size
 refine Qa (Qe Z) Z (Qd (Qh (Qi [true,true,true,true] Z Z (Qa (Qf Hi Z) Z (Qa (Qk Xi Z (h1.one 1 Z)) Z (Qa (Y9 Z Z) Z (Qa (Qe Z) Z (Qd (Qh (Qi [true,true,true,true] Z Z (Qa (Qf fl91_2 Z) Z (Qa (Qk Xi Z (h1.one 2 Z)) Z (Qa (Y9 Z Z) Z (Qa (Qe Z) Z (Qd (Qh (Qh (Qi [true,true] Z Z (Qa (Qf Uw Z) Z (Qa (Qk Xi Z (h1.one 0 Z)) Z (Qd (S_cutG (fun (xq : Bool × Bool)=>let ⟨p0,q0⟩:=xq;[(1,.pointer (some ⟨b1,0,none⟩)),(2,.bool false),(3,.bool p0),(4,.bool q0)]) (fun (xq : Bool × Bool) w'=>let ⟨p0,q0⟩:=xq;Ext w w' ∧ w1.heap.size ≤ w'.heap.size ∧ Blk w' b1 ([.int .i64 x.kind,.int .i64 x.a,.int .i64 x.b,o1]) ∧ Ug x = (Y2 x.kind 1 8 && p0 && q0)) ?_ ?_))))))))))))))))))))))
 ·refine Q2 (Qh (Qi [true,true] Z Z (Qa (Y9 Z Z) Z (Qa (Qe Z) Z (Qd (Qt Z (fun hc1=>?_) (fun hc1=>?_)))))))
  ·refine Qi [true,true,false,true] Z Z (Qa (Qf Hi Z) Z (Qa (Qk Xi Z (h1.one 1 Z)) Z (Qw Tryz.call32 Z (s_l01In x.a 0 999 _ ) Z (fun _ w2 e2 hv=>?_))))
   subst hv
   replace E:=E.trans e2;replace h1:=h1.ext e2
   have z3:=e2.size
   refine Qa (Qe Z) Z (Qd (Q4 (Yn (Q4 (Cl (Y2 x.a 0 999,x.b == 0) ⟨Z,Z,Z,Z,trivial⟩ ⟨E,(by omega),h1,(by rw [node_2 (by assumption),C5 (n:=x.kind) (by have:=eq_of_beq (show (x.kind == 2) = true by assumption);omega),Bool.true_and])⟩)))))
  ·refine Qh (Qi [true,true] Z Z (Qa (Y9 Z Z) Z (Qa (Qe Z) Z (Qd (Qt Z (fun hc2=>?_) (fun hc2=>?_))))))
   ·refine Qh (Qi [true,true,false,true] Z Z (Qa (Qf Hi Z) Z (Qa (Qk Xi Z (h1.one 1 Z)) Z (Qw Tryz.call32 Z (s_l01In x.a 1 10 _ ) Z (fun _ w3 e3 hv=>?_)))))
    subst hv
    replace E:=E.trans e3;replace h1:=h1.ext e3
    have z4:=e3.size
    refine Qa (Qe Z) Z (Qd (Qi [true,true,true,true,true,false,true] Z Z (Qa (Qf fl91_2 Z) Z (Qa (Qk Xi Z (h1.one 2 Z)) Z (Qa (Qf Hi Z) Z (Qa (Qk Xi Z (h1.one 1 Z)) Z (Qa (Gh Z Z Z) Z (Qw Tryz.call32 Z (s_l01In x.b 0 (IntKind.i64.wrap (x.a - 1)) _ ) Z (fun _ w4 e4 hv=>?_)))))))))
    subst hv
    replace E:=E.trans e4;replace h1:=h1.ext e4
    have z5:=e4.size
    refine Qa (Qe Z) Z (Qd (Q4 (Yn (Q4 (Cl (Y2 x.a 1 10,Y2 x.b 0 (IntKind.i64.wrap (x.a - 1))) ⟨Z,Z,Z,Z,trivial⟩ ⟨E,(by omega),h1,(by rw [node_3 (by assumption),C5 (n:=x.kind) (by have:=eq_of_beq (show (x.kind == 3) = true by assumption);omega),Bool.true_and])⟩)))))
   ·refine Qh (Qi [true,true] Z Z (Qa (Y9 Z Z) Z (Qa (Qe Z) Z (Qd (Qt Z (fun hc3=>?_) (fun hc3=>?_))))))
    ·refine Qi [true,true,false,true] Z Z (Qa (Qf Hi Z) Z (Qa (Qk Xi Z (h1.one 1 Z)) Z (Qw Tryz.call32 Z (s_l01In x.a 0 99 _ ) Z (fun _ w5 e5 hv=>?_))))
     subst hv
     replace E:=E.trans e5;replace h1:=h1.ext e5
     have z6:=e5.size
     refine Qa (Qe Z) Z (Qd (Q4 (Yn (Q4 (Cl (Y2 x.a 0 99,x.b == 0) ⟨Z,Z,Z,Z,trivial⟩ ⟨E,(by omega),h1,(by rw [node_4 (by assumption),C5 (n:=x.kind) (by have:=eq_of_beq (show (x.kind == 4) = true by assumption);omega),Bool.true_and])⟩)))))
    ·refine Qy (Q4 (Yn (Q4 (Cl (x.a == 0,x.b == 0) ⟨Z,Z,Z,Z,trivial⟩ ⟨E,(by omega),h1,(node_0 (by assumption) (by assumption) (by assumption))⟩))))
 ·clear E h1
  rintro ⟨p0,q0⟩ w6 ⟨E,z2,h1,hpq⟩
  refine Yb [(1,.pointer (some ⟨b1,0,none⟩)),(2,.bool false),(3,.bool p0),(4,.bool q0)] ⟨Z,Z,Z,Z,trivial⟩ ?_
  refine Qh (Qh (Qi [true,true,false,true,true,true,true,true,true,true,true,true,true,true,true,true,true,true,true,true,true,true,true,true,true,true,true,true,true] Z Z (Qa (Qf Uw Z) Z (Qa (Qk Xi Z (h1.one 0 Z)) Z (Qw Tryz.call32 Z (s_l01In x.kind 1 8 _ ) Z (fun _ w7 e6 hv=>?_))))))
  subst hv
  replace E:=E.trans e6;replace h1:=h1.ext e6
  have z7:=e6.size
  refine Qa (Xn Z) Z (Qa (Qb Z) Z (Xr 24 [(1,.pointer (some ⟨b1,0,none⟩)),(2,.bool false),(3,.bool p0),(4,.bool q0),(63,.bool (((((!(Y2 x.kind 1 8)) || (!p0)) || (!q0)) || (decide (2 < ((x.outs.length : Nat) : Int)))) || ((x.kind == 8) && (decide (0 < ((x.outs.length : Nat) : Int))))))] (fun w'=>w7 = w') ?_ ?_))
  ·refine Yz (gd:=39) Z Z (fun hg1=>?_) (fun hg1=>?_)
   ·refine Qc Z Z Z Z (Qc Z Z Z Z (Qa (Qr Z Z) Z (Qa (Qb Z) Z (Qc Z Z Z Z (Qc Z Z Z Z (Qa (Qr Z Z) Z (Qa (Qb Z) Z (Qc Z Z Z Z (Qc Z Z Z Z (Qc Z Z Z Z (Qc Z Z Z Z (Qa (Qr Z Z) Z (Qa (Qb Z) Z (Qc Z Z Z Z (Qc Z Z Z Z (Qc Z Z Z Z (Qc Z Z Z Z (Q9 Z Z Z (Q9 Z Z Z (Q9 Z Z Z (Q9 Z Z Z (Qc Z Z Z Z (Qa (Qr Z Z) Z (Qn ⟨Z,Z,Z,Z,congrArg (fun b=>some (Value.bool b)) (show true = (((((!(Y2 x.kind 1 8)) || (!p0)) || (!q0)) || (decide (2 < ((x.outs.length : Nat) : Int)))) || ((x.kind == 8) && (decide (0 < ((x.outs.length : Nat) : Int))))) by first | (rw [hg1] <;> rfl) | (simp [hg1];done) | (simp only [Qq] <;> simp)),trivial⟩ Z))))))))))))))))))))))))
   ·refine Qm Z Z (Qb Z) Z (Qm Z Z (Xn Z) Z (Qa (Qp Z Z) Z (Qa (Qb Z) Z ?_)))
    refine Yz (gd:=43) Z Z (fun hg2=>?_) (fun hg2=>?_)
    ·refine Qc Z Z Z Z (Qc Z Z Z Z (Qa (Qr Z Z) Z (Qa (Qb Z) Z (Qc Z Z Z Z (Qc Z Z Z Z (Qc Z Z Z Z (Qc Z Z Z Z (Qa (Qr Z Z) Z (Qa (Qb Z) Z (Qc Z Z Z Z (Qc Z Z Z Z (Qc Z Z Z Z (Qc Z Z Z Z (Q9 Z Z Z (Q9 Z Z Z (Q9 Z Z Z (Q9 Z Z Z (Qc Z Z Z Z (Qa (Qr Z Z) Z (Qn ⟨Z,Z,Z,Z,congrArg (fun b=>some (Value.bool b)) (show true = (((((!(Y2 x.kind 1 8)) || (!p0)) || (!q0)) || (decide (2 < ((x.outs.length : Nat) : Int)))) || ((x.kind == 8) && (decide (0 < ((x.outs.length : Nat) : Int))))) by first | (rw [hg1,hg2] <;> rfl) | (simp [hg1,hg2];done) | (simp only [Qq] <;> simp)),trivial⟩ Z))))))))))))))))))))
    ·refine Qm Z Z (Qb Z) Z (Qm Z Z (Xn Z) Z (Qa (Qp Z Z) Z (Qa (Qb Z) Z ?_)))
     refine Yz (gd:=47) Z Z (fun hg3=>?_) (fun hg3=>?_)
     ·refine Qc Z Z Z Z (Qc Z Z Z Z (Qc Z Z Z Z (Qc Z Z Z Z (Qa (Qr Z Z) Z (Qa (Qb Z) Z (Qc Z Z Z Z (Qc Z Z Z Z (Qc Z Z Z Z (Qc Z Z Z Z (Q9 Z Z Z (Q9 Z Z Z (Q9 Z Z Z (Q9 Z Z Z (Qc Z Z Z Z (Qa (Qr Z Z) Z (Qn ⟨Z,Z,Z,Z,congrArg (fun b=>some (Value.bool b)) (show true = (((((!(Y2 x.kind 1 8)) || (!p0)) || (!q0)) || (decide (2 < ((x.outs.length : Nat) : Int)))) || ((x.kind == 8) && (decide (0 < ((x.outs.length : Nat) : Int))))) by first | (rw [hg1,hg2,hg3] <;> rfl) | (simp [hg1,hg2,hg3];done) | (simp only [Qq] <;> simp)),trivial⟩ Z))))))))))))))))
     ·refine Qm Z Z (Qf Ky Z) Z (Qm Z Z (Qk Uc Z (h1.one 3 Z)) Z (Qm Z Z (Ye Tryz.underlying29 Z (hd1.ext E).len) Z (Qm Z Z (U1 Z Z) Z (Qa (Qp Z Z) Z (Qa (Qb Z) Z ?_)))))
      refine Yz (gd:=53) Z Z (fun hg4=>?_) (fun hg4=>?_)
      ·have hg4n : x.outs.length > 2:=by first | (have h:=of_decide_eq_true hg4;omega) | (have h:=hg4;simp at h;omega)
       refine Qc Z Z Z Z (Qc Z Z Z Z (Qc Z Z Z Z (Qc Z Z Z Z (Q9 Z Z Z (Q9 Z Z Z (Q9 Z Z Z (Q9 Z Z Z (Qc Z Z Z Z (Qa (Qr Z Z) Z (Qn ⟨Z,Z,Z,Z,congrArg (fun b=>some (Value.bool b)) (show true = (((((!(Y2 x.kind 1 8)) || (!p0)) || (!q0)) || (decide (2 < ((x.outs.length : Nat) : Int)))) || ((x.kind == 8) && (decide (0 < ((x.outs.length : Nat) : Int))))) by first | (rw [hg1,hg2,hg3,hg4] <;> rfl) | (simp [hg1,hg2,hg3,hg4];done) | (simp only [Qq] <;> simp)),trivial⟩ Z))))))))))
      ·have hg4n : ¬ x.outs.length > 2:=by first | (have h:=of_decide_eq_false hg4;omega) | (have h:=hg4;simp at h;omega)
       refine Qm Z Z (Qf Uw Z) Z (Qm Z Z (Qk Xi Z (h1.one 0 Z)) Z (Qm Z Z (Y9 Z Z) Z (Qm Z Z (Qb Z) Z ?_)))
       refine Yz (gd:=57) Z Z (fun hg5=>?_) (fun hg5=>?_)
       ·refine Qm Z Z (Qf Ky Z) Z (Qm Z Z (Qk Uc Z (h1.one 3 Z)) Z (Qm Z Z (Ye Tryz.underlying29 Z (hd1.ext E).len) Z (Qm Z Z (U1 Z Z) Z (Qm Z Z (Qr Z Z) Z (Qa (Qp Z Z) Z (Qn ⟨Z,Z,Z,Z,congrArg (fun b=>some (Value.bool b)) (show (decide (0 < ((x.outs.length : Nat) : Int))) = (((((!(Y2 x.kind 1 8)) || (!p0)) || (!q0)) || (decide (2 < ((x.outs.length : Nat) : Int)))) || ((x.kind == 8) && (decide (0 < ((x.outs.length : Nat) : Int))))) by first | (rw [hg1,hg2,hg3,hg4,hg5] <;> rfl) | (simp [hg1,hg2,hg3,hg4,hg5];done) | (simp only [Qq] <;> simp)),trivial⟩ Z))))))
       ·refine Qc Z Z Z Z (Qc Z Z Z Z (Qc Z Z Z Z (Qc Z Z Z Z (Qm Z Z (Qp Z Z) Z (Qa (Qp Z Z) Z (Qn ⟨Z,Z,Z,Z,congrArg (fun b=>some (Value.bool b)) (show false = (((((!(Y2 x.kind 1 8)) || (!p0)) || (!q0)) || (decide (2 < ((x.outs.length : Nat) : Int)))) || ((x.kind == 8) && (decide (0 < ((x.outs.length : Nat) : Int))))) by first | (rw [hg1,hg2,hg3,hg4,hg5] <;> rfl) | (simp [hg1,hg2,hg3,hg4,hg5];done) | (simp only [Qq] <;> simp)),trivial⟩ Z))))))
  rintro _ rfl
  refine Qd (Qt Z (fun hc4=>?_) (fun hc4=>?_))
  ·refine Qh (Qi [true] Z Z (Qa (Qe Z) Z (Qd (Qx (Qu Z Z E ?_)))))
   exact node_s hpq (by assumption)
  ·refine Qy (Qh (Qh (Qi [true] Z Z (Qa (Qe Z) Z (Qd (Q2 (Y6 (fun (k : Nat)=>[(1,.pointer (some ⟨b1,0,none⟩)),(2,.bool false),(5,.int .i64 ((k : Nat) : Int))]) (fun (k : Nat) w'=>Ext w w' ∧ w7.heap.size ≤ w'.heap.size ∧ Blk w' b1 ([.int .i64 x.kind,.int .i64 x.a,.int .i64 x.b,o1]) ∧ k ≤ x.outs.length ∧ (x.outs.take k).all (Y2 · 0 7) = true ∧ (1 < k → ((List.getD x.outs 0 default) == (List.getD x.outs 1 default)) = false)) (fun (k : Nat)=>x.outs.length - k) 0 ⟨Z,Z,Z,trivial⟩ ⟨E,Nat.le_refl _,h1,Nat.zero_le _,Z,(by omega)⟩ ?_)))))))
   clear E h1
   rintro k w9 ⟨E,z8,h1,hk,hI,hJ⟩
   refine Qh (Qh (Qi [true,true,true,true,true] Z Z (Qa (Qb Z) Z (Qa (Qf Ky Z) Z (Qa (Qk Uc Z (h1.one 3 Z)) Z (Qa (Ye Tryz.underlying29 Z (hd1.ext E).len) Z (Qa (Xe Z Z) Z (Qd (Qt Z (fun hc5=>?_) (fun hc5=>?_))))))))))
   ·have hc5n : k < x.outs.length:=by first | (have h:=of_decide_eq_true hc5;omega) | (have h:=hc5;simp at h;omega)
    refine Qy (Qh (Q2 (Qh (Xk Xd [(0,true),(1,true),(2,true),(3,true),(4,true),(5,false),(6,true),(7,true),(8,true),(9,true),(10,true),(11,true),(12,true),(13,true),(14,true),(15,true),(16,true),(17,true),(18,true),(19,true),(20,true),(21,true)] (by decide +kernel) Z (fun w10 e7=>?_)))))
    replace E:=E.trans e7;replace h1:=h1.ext e7
    have z9:=e7.size
    refine Qa (Qf Ky Z) Z (Qa (Qk Uc Z (h1.one 3 Z)) Z (Qa (Qb Z) Z ?_))
    have hi1 : k < x.outs.length:=(by first | assumption | omega | (simp only [List.length_set];first | assumption | omega) | (simp only [List.getElem_set_self,List.length_set];first | assumption | omega) | (simp only [Y3,Yj,List.length_set];first | assumption | omega) | (simp;done))
    refine Qa (Q5 (i:=k) Kd Z Z (hd1.rd.ext E) hi1) Z (Qa (Qk Xi Z (((hd1.rd.ext E).get hi1).one 0 Z)) Z (Qw Tryz.call32 Z (s_l01In (x.outs[k]'hi1) 0 7 _ ) Z (fun _ w11 e8 hv=>?_)))
    subst hv
    replace E:=E.trans e8;replace h1:=h1.ext e8
    have z10:=e8.size
    refine Qa (Xn Z) Z (Qa (Qb Z) Z (Xr 14 [(1,.pointer (some ⟨b1,0,none⟩)),(2,.bool false),(5,.int .i64 ((k : Nat) : Int)),(64,.int .i64 ((k : Nat) : Int)),(65,.pointer (some ⟨b1,3,none⟩)),(66,o1),(67,.int .i64 ((x.outs.length : Nat) : Int)),(68,.bool (decide (((k : Nat) : Int) < ((x.outs.length : Nat) : Int)))),(92,.bool ((!(Y2 (x.outs[k]'hi1) 0 7)) || ((decide (0 < ((k : Nat) : Int))) && ((List.getD x.outs 0 default) == (List.getD x.outs 1 default)))))] (fun w'=>w11 = w') ?_ ?_))
    ·refine Yz (gd:=78) Z Z (fun hg6=>?_) (fun hg6=>?_)
     ·refine Qc Z Z Z Z (Qc Z Z Z Z (Qc Z Z Z Z (Q9 Z Z Z (Q9 Z Z Z (Q9 Z Z Z (Q9 Z Z Z (Q9 Z Z Z (Q9 Z Z Z (Q9 Z Z Z (Q9 Z Z Z (Q9 Z Z Z (Qc Z Z Z Z (Qa (Qr Z Z) Z (Qn ⟨Z,Z,Z,Z,Z,Z,Z,Z,congrArg (fun b=>some (Value.bool b)) (show true = ((!(Y2 (x.outs[k]'hi1) 0 7)) || ((decide (0 < ((k : Nat) : Int))) && ((List.getD x.outs 0 default) == (List.getD x.outs 1 default)))) by first | (rw [hg6] <;> rfl) | (simp [hg6];done) | (simp only [Qq] <;> simp)),trivial⟩ Z))))))))))))))
     ·refine Qm Z Z (Qb Z) Z (Qm Z Z (U1 Z Z) Z (Qm Z Z (Qb Z) Z ?_))
      refine Yz (gd:=81) Z Z (fun hg7=>?_) (fun hg7=>?_)
      ·have hg7n : k > 0:=by first | (have h:=of_decide_eq_true hg7;omega) | (have h:=hg7;simp at h;omega)
       refine Qm Z Z (Qf Ky Z) Z (Qm Z Z (Qk Uc Z (h1.one 3 Z)) Z (Qm Z Z (Q5 (i:=0) Kd Z Z (hd1.rd.ext E) (by first | assumption | omega | (simp only [List.length_set];first | assumption | omega) | (simp only [List.getElem_set_self,List.length_set];first | assumption | omega) | (simp only [Y3,Yj,List.length_set];first | assumption | omega) | (simp;done))) Z (Qm Z Z (Qk Xi Z ((RdS.getD (hd1.rd.ext E) (i:=0) (by first | assumption | omega | (simp only [List.length_set];first | assumption | omega) | (simp only [List.getElem_set_self,List.length_set];first | assumption | omega) | (simp only [Y3,Yj,List.length_set];first | assumption | omega) | (simp;done))).one 0 Z)) Z (Qm Z Z (Qf Ky Z) Z (Qm Z Z (Qk Uc Z (h1.one 3 Z)) Z (Qm Z Z (Q5 (i:=1) Kd Z Z (hd1.rd.ext E) (by first | assumption | omega | (simp only [List.length_set];first | assumption | omega) | (simp only [List.getElem_set_self,List.length_set];first | assumption | omega) | (simp only [Y3,Yj,List.length_set];first | assumption | omega) | (simp;done))) Z (Qm Z Z (Qk Xi Z ((RdS.getD (hd1.rd.ext E) (i:=1) (by first | assumption | omega | (simp only [List.length_set];first | assumption | omega) | (simp only [List.getElem_set_self,List.length_set];first | assumption | omega) | (simp only [Y3,Yj,List.length_set];first | assumption | omega) | (simp;done))).one 0 Z)) Z (Qm Z Z (Y9 Z Z) Z (Qm Z Z (Qr Z Z) Z (Qa (Qp Z Z) Z (Qn ⟨Z,Z,Z,Z,Z,Z,Z,Z,congrArg (fun b=>some (Value.bool b)) (show ((List.getD x.outs 0 default) == (List.getD x.outs 1 default)) = ((!(Y2 (x.outs[k]'hi1) 0 7)) || ((decide (0 < ((k : Nat) : Int))) && ((List.getD x.outs 0 default) == (List.getD x.outs 1 default)))) by first | (rw [hg6,hg7] <;> rfl) | (simp [hg6,hg7];done) | (simp only [Qq] <;> simp)),trivial⟩ Z)))))))))))
      ·have hg7n : ¬ k > 0:=by first | (have h:=of_decide_eq_false hg7;omega) | (have h:=hg7;simp at h;omega)
       refine Qc Z Z Z Z (Qc Z Z Z Z (Qc Z Z Z Z (Qc Z Z Z Z (Qc Z Z Z Z (Qc Z Z Z Z (Qc Z Z Z Z (Qc Z Z Z Z (Qc Z Z Z Z (Qm Z Z (Qp Z Z) Z (Qa (Qp Z Z) Z (Qn ⟨Z,Z,Z,Z,Z,Z,Z,Z,congrArg (fun b=>some (Value.bool b)) (show false = ((!(Y2 (x.outs[k]'hi1) 0 7)) || ((decide (0 < ((k : Nat) : Int))) && ((List.getD x.outs 0 default) == (List.getD x.outs 1 default)))) by first | (rw [hg6,hg7] <;> rfl) | (simp [hg6,hg7];done) | (simp only [Qq] <;> simp)),trivial⟩ Z)))))))))))
    rintro _ rfl
    refine Qd (Qt Z (fun hc6=>?_) (fun hc6=>?_))
    ·refine Qh (Qi [true] Z Z (Qa (Qe Z) Z (Qd (Qx (Q0 (Yy (Q0 (Qu Z Z E ?_))))))))
     exact node_d (by assumption) (node_p (p:=p0) (q:=q0) (by assumption) hpq).2
    ·refine Qy (Q4 (Yn (Qi [true,true,true] Z Z (Qa (Qb Z) Z (Qa (Yu Z Z (Yw hc5n (hd1.ext E).1.1)) Z (Qa (Qe Z) Z (Qd (Q4 (Yg (k + 1) (by omega) ⟨Z,Z,Z,trivial⟩ ⟨E,(by omega),h1,(by omega),Vl hI (by assumption) (nodeL (by assumption)),nodeJ (by assumption)⟩)))))))))
   ·have hc5n : ¬ k < x.outs.length:=by first | (have h:=of_decide_eq_false hc5;omega) | (have h:=hc5;simp at h;omega)
    refine Y5 (Yc (Q8 ?_))
    refine Qh (Qi [true] Z Z (Qa (Qe Z) Z (Qd (Qx (Qu Z Z E ?_)))))
    exact node_z (p:=p0) (q:=q0) (by assumption) hpq hI hJ (by omega)

set_option maxHeartbeats 4000000 in
set_option maxRecDepth 20000 in
theorem s_GraphOk (cg : List Value) (g : Graph) (w : World) (hg : Dat.R w 0 w.heap.size cg g) : Ct Tryz.prog 97 [.agg cg.toArray] w (fun v _=>v = .bool (Yr g)):=by
 refine Yp Tryz.func97 Z Tryz.ntmps97 Z ?_
 obtain ⟨o1,rfl,hd1⟩:=Graph.op hg
 refine Yb [(0,.agg [o1,.int .i64 g.workers,.int .i64 g.cap].toArray)] ⟨Z,trivial⟩ ?_
 have E : Ext w w:=Ext.refl w
 refine Qh (Qi [false,true] Z Z (Xb Z Z (fun b1 w1 e1 s1 h1=>?_)))
 have g_b1 : w.heap.size ≤ b1:=by have:=E.size;omega
 have y_b1:=h1.lt
 replace E:=E.trans e1
 have z1:=e1.size
 refine Qa (Qe Z) Z (Qd (Qh (Qh (Qi [true,true,true,false,true,true,true,true,false,true,true,true,true,true,false,true,true] Z Z (Qa (Qf Uj Z) Z (Qa (Qk G8 Z (h1.one 0 Z)) Z (Qa (Ye Tryz.underlying24 Z (hd1.ext E).len) Z (Qw Tryz.call32 Z (s_l01In ((g.nodes.length : Nat) : Int) 1 8 _ ) Z (fun _ w2 e2 hv=>?_)))))))))
 subst hv
 replace E:=E.trans e2;replace h1:=h1.ext e2
 have z2:=e2.size
 refine Qa (Xn Z) Z (Qa (Qb Z) Z (Xr 11 [(0,.agg [o1,.int .i64 g.workers,.int .i64 g.cap].toArray),(1,.pointer (some ⟨b1,0,none⟩)),(2,.bool false),(24,.bool (((!(Y2 ((g.nodes.length : Nat) : Int) 1 8)) || (!(Y2 g.workers 1 4))) || (!(Y2 g.cap 1 4))))] (fun w'=>Ext w w' ∧ w2.heap.size ≤ w'.heap.size ∧ Blk w' b1 ([o1,.int .i64 g.workers,.int .i64 g.cap])) ?_ ?_))
 ·refine Yz (gd:=13) Z Z (fun hg1=>?_) (fun hg1=>?_)
  ·refine Qc Z Z Z Z (Qc Z Z Z Z ?_)
   refine Q3 Z Z Z Z ?_
   refine Qc Z Z Z Z (Qa (Qr Z Z) Z (Qa (Qb Z) Z (Qc Z Z Z Z (Qc Z Z Z Z ?_))))
   refine Q3 Z Z Z Z ?_
   refine Qc Z Z Z Z (Qa (Qr Z Z) Z (Qn ⟨Z,Z,Z,congrArg (fun b=>some (Value.bool b)) (show true = (((!(Y2 ((g.nodes.length : Nat) : Int) 1 8)) || (!(Y2 g.workers 1 4))) || (!(Y2 g.cap 1 4))) by first | (rw [hg1] <;> rfl) | (simp [hg1];done) | (simp only [Qq] <;> simp)),trivial⟩ ⟨E,(by omega),h1⟩))
  ·refine Qm Z Z (Qf fl26_1 Z) Z (Qm Z Z (Qk Xi Z (h1.one 1 Z)) Z ?_)
   refine Xa Z Z ?_
   refine Qw Tryz.call32 Z (s_l01In g.workers 1 4 _ ) Z (fun _ w4 e3 hv=>?_)
   subst hv
   replace E:=E.trans e3;replace h1:=h1.ext e3
   have z3:=e3.size
   refine Qm Z Z (Xn Z) Z (Qa (Qp Z Z) Z (Qa (Qb Z) Z ?_))
   refine Yz (gd:=19) Z Z (fun hg2=>?_) (fun hg2=>?_)
   ·refine Qc Z Z Z Z (Qc Z Z Z Z ?_)
    refine Q3 Z Z Z Z ?_
    refine Qc Z Z Z Z (Qa (Qr Z Z) Z (Qn ⟨Z,Z,Z,congrArg (fun b=>some (Value.bool b)) (show true = (((!(Y2 ((g.nodes.length : Nat) : Int) 1 8)) || (!(Y2 g.workers 1 4))) || (!(Y2 g.cap 1 4))) by first | (rw [hg1,hg2] <;> rfl) | (simp [hg1,hg2];done) | (simp only [Qq] <;> simp)),trivial⟩ ⟨E,(by omega),h1⟩))
   ·refine Qm Z Z (Qf fl26_2 Z) Z (Qm Z Z (Qk Xi Z (h1.one 2 Z)) Z ?_)
    refine Xa Z Z ?_
    refine Qw Tryz.call32 Z (s_l01In g.cap 1 4 _ ) Z (fun _ w5 e4 hv=>?_)
    subst hv
    replace E:=E.trans e4;replace h1:=h1.ext e4
    have z4:=e4.size
    refine Qm Z Z (Xn Z) Z (Qa (Qp Z Z) Z (Qn ⟨Z,Z,Z,congrArg (fun b=>some (Value.bool b)) (show (!(Y2 g.cap 1 4)) = (((!(Y2 ((g.nodes.length : Nat) : Int) 1 8)) || (!(Y2 g.workers 1 4))) || (!(Y2 g.cap 1 4))) by first | (rw [hg1,hg2] <;> rfl) | (simp [hg1,hg2];done) | (simp only [Qq] <;> simp)),trivial⟩ ⟨E,(by omega),h1⟩))
 clear E h1
 rintro w3 ⟨E,z5,h1⟩
 refine Qd (Qt Z (fun hc1=>?_) (fun hc1=>?_))
 ·refine Qh (Qi [true] Z Z (Qa (Qe Z) Z (Qd (Qx (Qu Z Z E ?_)))))
  exact graph_h (by assumption)
 ·refine Qy (Qh (Qh (Qi [true] Z Z (Qa (Qe Z) Z (Qd (Q2 (Y6 (fun (i : Nat)=>[(1,.pointer (some ⟨b1,0,none⟩)),(2,.bool false),(3,.int .i64 ((i : Nat) : Int))]) (fun (i : Nat) w'=>Ext w w' ∧ w3.heap.size ≤ w'.heap.size ∧ Blk w' b1 ([o1,.int .i64 g.workers,.int .i64 g.cap]) ∧ i ≤ g.nodes.length ∧ (∀ j,j < i → Km g j (List.getD g.nodes j default) = true)) (fun (i : Nat)=>g.nodes.length - i) 0 ⟨Z,Z,Z,trivial⟩ ⟨E,Nat.le_refl _,h1,Nat.zero_le _,(fun j hj=>by omega)⟩ ?_)))))))
  clear E h1
  rintro i w6 ⟨E,z6,h1,hle,hp⟩
  refine Qh (Qh (Qi [true,true,true,true,true] Z Z (Qa (Qb Z) Z (Qa (Qf Uj Z) Z (Qa (Qk G8 Z (h1.one 0 Z)) Z (Qa (Ye Tryz.underlying24 Z (hd1.ext E).len) Z (Qa (Xe Z Z) Z (Qd (Qt Z (fun hc2=>?_) (fun hc2=>?_))))))))))
  ·have hc2n : i < g.nodes.length:=by first | (have h:=of_decide_eq_true hc2;omega) | (have h:=hc2;simp at h;omega)
   refine Qy (Qh (Q2 (Qh (Qi [true,true,true,true,true,false,false] Z Z (Qa (Qf Uj Z) Z (Qa (Qk G8 Z (h1.one 0 Z)) Z (Qa (Qb Z) Z ?_)))))))
   have hi1 : i < g.nodes.length:=(by first | assumption | omega | (simp only [List.length_set];first | assumption | omega) | (simp only [List.getElem_set_self,List.length_set];first | assumption | omega) | (simp only [Y3,Yj,List.length_set];first | assumption | omega) | (simp;done))
   obtain ⟨_,hr1,ha1⟩:=RdD.get hd1 hi1
   obtain ⟨o2,rfl,hd2⟩:=Node.op hr1
   replace ha1 : At w (Kk o1) (Ue o1 + i * 4) [.int .i64 ((g.nodes[i]'hi1).kind),.int .i64 ((g.nodes[i]'hi1).a),.int .i64 ((g.nodes[i]'hi1).b),o2]:=ha1
   refine Qa (Q5 (i:=i) A3 Z Z (hd1.ext E).1 hi1) Z (Qa (Ql K9 Z (ha1.ext E) Z) Z (Yd K9 Z (fun b2 w7 e5 s2 h2=>?_)))
   have g_b2 : w.heap.size ≤ b2:=by have:=E.size;omega
   have y_b2:=h2.lt
   replace E:=E.trans e5;replace h1:=h1.ext e5
   have z7:=e5.size
   refine Qs (cs':=[.int .i64 ((g.nodes[i]'hi1).kind),.int .i64 ((g.nodes[i]'hi1).a),.int .i64 ((g.nodes[i]'hi1).b),o2]) K9 Z Z Z (Qg Z (Qg Z (Qg Z (Qg (RdD.one (hd2.ext E)) Z)))) h2 (Nat.le_of_ble_eq_true Z) Z (fun w8 m1 h2'=>?_)
   replace h2:=h2'
   replace E:=E.step m1 (fun g hg=>by cases hg;omega);replace h1:=h1.mod m1 (fun g hg=>by cases hg;omega)
   have z8:=m1.size
   refine Qd (Qh (Qh (Qi [true,false,true,true,true,true,true,true,true,true,true] Z Z (Qa (Ql K9 Z h2.at Z) Z (Qw Tryz.call112 Z (s_NodeOk [.int .i64 ((g.nodes[i]'hi1).kind),.int .i64 ((g.nodes[i]'hi1).a),.int .i64 ((g.nodes[i]'hi1).b),o2] (g.nodes[i]'hi1) _ (Node.mkR (g.nodes[i]'hi1) (RdD.any (hd2.ext E)))) Z (fun _ w9 e6 hv=>?_))))))
   subst hv
   replace E:=E.trans e6;replace h1:=h1.ext e6;replace h2:=h2.ext e6
   have z9:=e6.size
   refine Qa (Xn Z) Z (Qa (Qb Z) Z (Xr 7 [(1,.pointer (some ⟨b1,0,none⟩)),(2,.bool false),(3,.int .i64 ((i : Nat) : Int)),(4,.pointer (some ⟨b2,0,none⟩)),(25,.int .i64 ((i : Nat) : Int)),(26,.pointer (some ⟨b1,0,none⟩)),(27,o1),(28,.int .i64 ((g.nodes.length : Nat) : Int)),(29,.bool (decide (((i : Nat) : Int) < ((g.nodes.length : Nat) : Int)))),(32,.pointer (some ⟨b1,0,none⟩)),(33,o1),(34,.int .i64 ((i : Nat) : Int)),(35,.pointer (some ⟨Kk o1,Ue o1 + i * 4,none⟩)),(36,.agg [.int .i64 ((g.nodes[i]'hi1).kind),.int .i64 ((g.nodes[i]'hi1).a),.int .i64 ((g.nodes[i]'hi1).b),o2].toArray),(47,.bool ((!(Xc (g.nodes[i]'hi1))) || (!((((g.nodes[i]'hi1).kind) == 1) == (((i : Nat) : Int) == 0)))))] (fun w'=>w9 = w') ?_ ?_))
   ·refine Yz (gd:=40) Z Z (fun hg3=>?_) (fun hg3=>?_)
    ·refine Qc Z Z Z Z (Qc Z Z Z Z (Qc Z Z Z Z (Qc Z Z Z Z (Qc Z Z Z Z (Qc Z Z Z Z (Qa (Qr Z Z) Z (Qn ⟨Z,Z,Z,Z,Z,Z,Z,Z,Z,Z,Z,Z,Z,Z,congrArg (fun b=>some (Value.bool b)) (show true = ((!(Xc (g.nodes[i]'hi1))) || (!((((g.nodes[i]'hi1).kind) == 1) == (((i : Nat) : Int) == 0)))) by first | (rw [hg3] <;> rfl) | (simp [hg3];done) | (simp only [Qq] <;> simp)),trivial⟩ Z)))))))
    ·refine Qm Z Z (Qf Uw Z) Z (Qm Z Z (Qk Xi Z (h2.one 0 Z)) Z (Qm Z Z (Y9 Z Z) Z (Qm Z Z (Qb Z) Z (Qm Z Z (Y9 Z Z) Z (Qm Z Z (Tk (Tryz.underlying4) Z Z) Z (Qa (Qp Z Z) Z (Qn ⟨Z,Z,Z,Z,Z,Z,Z,Z,Z,Z,Z,Z,Z,Z,congrArg (fun b=>some (Value.bool b)) (show (!((((g.nodes[i]'hi1).kind) == 1) == (((i : Nat) : Int) == 0))) = ((!(Xc (g.nodes[i]'hi1))) || (!((((g.nodes[i]'hi1).kind) == 1) == (((i : Nat) : Int) == 0)))) by first | (rw [hg3] <;> rfl) | (simp [hg3];done) | (simp only [Qq] <;> simp)),trivial⟩ Z)))))))
   rintro _ rfl
   refine Qd (Qt Z (fun hc3=>?_) (fun hc3=>?_))
   ·refine Qh (Qi [true] Z Z (Qa (Qe Z) Z (Qd (Qx (Q0 (Yy (Q0 (Qu Z Z E ?_))))))))
    exact graph_a (by assumption)
   ·refine Qy (Qh (Qi [true] Z Z (Qa (Qe Z) Z (Qd (Q2 (Y6 (fun (k : Nat)=>[(1,.pointer (some ⟨b1,0,none⟩)),(2,.bool false),(3,.int .i64 ((i : Nat) : Int)),(4,.pointer (some ⟨b2,0,none⟩)),(5,.int .i64 ((k : Nat) : Int))]) (fun (k : Nat) w'=>Ext w w' ∧ w9.heap.size ≤ w'.heap.size ∧ Blk w' b1 ([o1,.int .i64 g.workers,.int .i64 g.cap]) ∧ Blk w' b2 [.int .i64 ((g.nodes[i]'hi1).kind),.int .i64 ((g.nodes[i]'hi1).a),.int .i64 ((g.nodes[i]'hi1).b),o2] ∧ k ≤ (g.nodes[i]'hi1).outs.length ∧ ((g.nodes[i]'hi1).outs.take k).all (fun to=>!K4 g i (g.nodes[i]'hi1) to) = true) (fun (k : Nat)=>(g.nodes[i]'hi1).outs.length - k) 0 ⟨Z,Z,Z,Z,Z,trivial⟩ ⟨E,Nat.le_refl _,h1,h2,Nat.zero_le _,Z⟩ ?_))))))
    clear E h1 h2
    rintro k w11 ⟨E,z10,h1,h2,hk,hI⟩
    refine Qh (Qh (Qi [true,true,true,true,true] Z Z (Qa (Qb Z) Z (Qa (Qf Ky Z) Z (Qa (Qk Uc Z (h2.one 3 Z)) Z (Qa (Ye Tryz.underlying29 Z (hd2.ext E).len) Z (Qa (Xe Z Z) Z (Qd (Qt Z (fun hc4=>?_) (fun hc4=>?_))))))))))
    ·have hc4n : k < ((g.nodes[i]'hi1).outs).length:=by first | (have h:=of_decide_eq_true hc4;omega) | (have h:=hc4;simp at h;omega)
     refine Qy (Qh (Q2 (Qh (Qi [true,true,true,true,true,true] Z Z (Qa (Qf Ky Z) Z (Qa (Qk Uc Z (h2.one 3 Z)) Z (Qa (Qb Z) Z ?_)))))))
     have hi2 : k < ((g.nodes[i]'hi1).outs).length:=(by first | assumption | omega | (simp only [List.length_set];first | assumption | omega) | (simp only [List.getElem_set_self,List.length_set];first | assumption | omega) | (simp only [Y3,Yj,List.length_set];first | assumption | omega) | (simp;done))
     refine Qa (Q5 (i:=k) Kd Z Z (hd2.rd.ext E) hi2) Z (Qa (Qk Xi Z (((hd2.rd.ext E).get hi2).one 0 Z)) Z (Qa (Qe Z) Z (Qd (Qh (Qh (Qi [true,true,true,true,true,true,true,true,true,true,true,true,true,true,true] Z Z (Qa (Qb Z) Z (Qa (Qf Uj Z) Z (Qa (Qk G8 Z (h1.one 0 Z)) Z (Qa (Ye Tryz.underlying24 Z (hd1.ext E).len) Z (Qa (Hs Z Z) Z (Qa (Qb Z) Z (Xr 9 [(1,.pointer (some ⟨b1,0,none⟩)),(2,.bool false),(3,.int .i64 ((i : Nat) : Int)),(4,.pointer (some ⟨b2,0,none⟩)),(5,.int .i64 ((k : Nat) : Int)),(6,.int .i64 (((g.nodes[i]'hi1).outs)[k]'hi2)),(48,.int .i64 ((k : Nat) : Int)),(49,.pointer (some ⟨b2,3,none⟩)),(50,o2),(51,.int .i64 ((((g.nodes[i]'hi1).outs).length : Nat) : Int)),(52,.bool (decide (((k : Nat) : Int) < ((((g.nodes[i]'hi1).outs).length : Nat) : Int)))),(55,.pointer (some ⟨b2,3,none⟩)),(56,o2),(57,.int .i64 ((k : Nat) : Int)),(58,.pointer (some ⟨Kk o2,Ue o2 + k * 1,none⟩)),(59,.int .i64 (((g.nodes[i]'hi1).outs)[k]'hi2)),(74,.bool ((decide (((g.nodes.length : Nat) : Int) ≤ (((g.nodes[i]'hi1).outs)[k]'hi2))) || ((((g.nodes[i]'hi1).kind) != 7) && (decide ((((g.nodes[i]'hi1).outs)[k]'hi2) ≤ ((i : Nat) : Int))))))] (fun w'=>w11 = w') ?_ ?_)))))))))))))
     ·refine Yz (gd:=65) Z Z (fun hg4=>?_) (fun hg4=>?_)
      ·refine Qc Z Z Z Z (Qc Z Z Z Z (Qc Z Z Z Z (Qc Z Z Z Z (Q9 Z Z Z (Q9 Z Z Z (Q9 Z Z Z (Qc Z Z Z Z (Qa (Qr Z Z) Z (Qn ⟨Z,Z,Z,Z,Z,Z,Z,Z,Z,Z,Z,Z,Z,Z,Z,Z,congrArg (fun b=>some (Value.bool b)) (show true = ((decide (((g.nodes.length : Nat) : Int) ≤ (((g.nodes[i]'hi1).outs)[k]'hi2))) || ((((g.nodes[i]'hi1).kind) != 7) && (decide ((((g.nodes[i]'hi1).outs)[k]'hi2) ≤ ((i : Nat) : Int))))) by first | (rw [hg4] <;> rfl) | (simp [hg4];done) | (simp only [Qq] <;> simp)),trivial⟩ Z)))))))))
      ·have hto:=graph_to (h1:=hi1) (h2:=hi2) (by assumption)
       have htl:=Int.not_le.1 (of_decide_eq_false hg4)
       refine Qm Z Z (Qf Uw Z) Z (Qm Z Z (Qk Xi Z (h2.one 0 Z)) Z (Qm Z Z (X1 Z Z) Z (Qm Z Z (Qb Z) Z ?_)))
       refine Yz (gd:=69) Z Z (fun hg5=>?_) (fun hg5=>?_)
       ·refine Qm Z Z (Qb Z) Z (Qm Z Z (Qb Z) Z (Qm Z Z (H8 Z Z) Z (Qm Z Z (Qr Z Z) Z (Qa (Qp Z Z) Z (Qn ⟨Z,Z,Z,Z,Z,Z,Z,Z,Z,Z,Z,Z,Z,Z,Z,Z,congrArg (fun b=>some (Value.bool b)) (show (decide ((((g.nodes[i]'hi1).outs)[k]'hi2) ≤ ((i : Nat) : Int))) = ((decide (((g.nodes.length : Nat) : Int) ≤ (((g.nodes[i]'hi1).outs)[k]'hi2))) || ((((g.nodes[i]'hi1).kind) != 7) && (decide ((((g.nodes[i]'hi1).outs)[k]'hi2) ≤ ((i : Nat) : Int))))) by first | (rw [hg4,hg5] <;> rfl) | (simp [hg4,hg5];done) | (simp only [Qq] <;> simp)),trivial⟩ Z)))))
       ·refine Qc Z Z Z Z (Qc Z Z Z Z (Qc Z Z Z Z (Qm Z Z (Qp Z Z) Z (Qa (Qp Z Z) Z (Qn ⟨Z,Z,Z,Z,Z,Z,Z,Z,Z,Z,Z,Z,Z,Z,Z,Z,congrArg (fun b=>some (Value.bool b)) (show false = ((decide (((g.nodes.length : Nat) : Int) ≤ (((g.nodes[i]'hi1).outs)[k]'hi2))) || ((((g.nodes[i]'hi1).kind) != 7) && (decide ((((g.nodes[i]'hi1).outs)[k]'hi2) ≤ ((i : Nat) : Int))))) by first | (rw [hg4,hg5] <;> rfl) | (simp [hg4,hg5];done) | (simp only [Qq] <;> simp)),trivial⟩ Z)))))
     rintro _ rfl
     refine Qd (Qt Z (fun hc5=>?_) (fun hc5=>?_))
     ·refine Qh (Qi [true] Z Z (Qa (Qe Z) Z (Qd (Qx (Q0 (Yy (Q0 (Q0 (Yy (Q0 (Qu Z Z E ?_)))))))))))
      exact graph_e (edge_s1 (by assumption))
     ·have hto:=graph_to (h1:=hi1) (h2:=hi2) (by assumption)
      have htl:=edge_lt hc5
      refine Qy (Qh (Qi [true,true,true,true,true,true,true] Z Z (Qa (Qf Uj Z) Z (Qa (Qk G8 Z (h1.one 0 Z)) Z (Qa (Qb Z) Z ?_)))))
      have hi3 : (Int.toNat (((g.nodes[i]'hi1).outs)[k]'hi2)) < g.nodes.length:=(by first | assumption | omega | (simp only [List.length_set];first | assumption | omega) | (simp only [List.getElem_set_self,List.length_set];first | assumption | omega) | (simp only [Y3,Yj,List.length_set];first | assumption | omega) | (simp;done))
      obtain ⟨_,hr2,ha2⟩:=RdD.get hd1 hi3
      obtain ⟨o3,rfl,hd3⟩:=Node.op hr2
      replace ha2 : At w (Kk o1) (Ue o1 + (Int.toNat (((g.nodes[i]'hi1).outs)[k]'hi2)) * 4) [.int .i64 ((g.nodes[(Int.toNat (((g.nodes[i]'hi1).outs)[k]'hi2))]'hi3).kind),.int .i64 ((g.nodes[(Int.toNat (((g.nodes[i]'hi1).outs)[k]'hi2))]'hi3).a),.int .i64 ((g.nodes[(Int.toNat (((g.nodes[i]'hi1).outs)[k]'hi2))]'hi3).b),o3]:=ha2
      refine Qa (Gr (i:=(Int.toNat (((g.nodes[i]'hi1).outs)[k]'hi2))) A3 Z Z (hd1.ext E).1 (by omega) hi3) Z (Qa (Q7 Uw Z) Z (Qa (Qk Xi Z ((ha2.ext E).one 0 Z)) Z (Qa (Qe Z) Z (Qd (Qh (Qi [true,true,true,true,true,true,true,true,true,true,true,true,true,true,true,true] Z Z (Qa (Qf Uw Z) Z (Qa (Qk Xi Z (h2.one 0 Z)) Z (Qa (Y9 Z Z) Z (Qa (Qb Z) Z (Xr 12 [(1,.pointer (some ⟨b1,0,none⟩)),(2,.bool false),(3,.int .i64 ((i : Nat) : Int)),(4,.pointer (some ⟨b2,0,none⟩)),(5,.int .i64 ((k : Nat) : Int)),(6,.int .i64 (((g.nodes[i]'hi1).outs)[k]'hi2)),(7,.int .i64 ((g.nodes[(Int.toNat (((g.nodes[i]'hi1).outs)[k]'hi2))]'hi3).kind)),(48,.int .i64 ((k : Nat) : Int)),(49,.pointer (some ⟨b2,3,none⟩)),(50,o2),(51,.int .i64 ((((g.nodes[i]'hi1).outs).length : Nat) : Int)),(52,.bool (decide (((k : Nat) : Int) < ((((g.nodes[i]'hi1).outs).length : Nat) : Int)))),(55,.pointer (some ⟨b2,3,none⟩)),(56,o2),(57,.int .i64 ((k : Nat) : Int)),(58,.pointer (some ⟨Kk o2,Ue o2 + k * 1,none⟩)),(59,.int .i64 (((g.nodes[i]'hi1).outs)[k]'hi2)),(74,.bool ((decide (((g.nodes.length : Nat) : Int) ≤ (((g.nodes[i]'hi1).outs)[k]'hi2))) || ((((g.nodes[i]'hi1).kind) != 7) && (decide ((((g.nodes[i]'hi1).outs)[k]'hi2) ≤ ((i : Nat) : Int)))))),(75,.pointer (some ⟨b1,0,none⟩)),(76,o1),(77,.int .i64 (((g.nodes[i]'hi1).outs)[k]'hi2)),(78,.pointer (some ⟨Kk o1,Ue o1 + (Int.toNat (((g.nodes[i]'hi1).outs)[k]'hi2)) * 4,none⟩)),(79,.pointer (some ⟨(Kk o1),Ue o1 + (Int.toNat (((g.nodes[i]'hi1).outs)[k]'hi2)) * 4 + 0,none⟩)),(80,.int .i64 ((g.nodes[(Int.toNat (((g.nodes[i]'hi1).outs)[k]'hi2))]'hi3).kind)),(96,.bool ((((g.nodes[i]'hi1).kind) == 7) && ((decide (((i : Nat) : Int) < (((g.nodes[i]'hi1).outs)[k]'hi2))) || ((((g.nodes[(Int.toNat (((g.nodes[i]'hi1).outs)[k]'hi2))]'hi3).kind) != 5) && (((g.nodes[(Int.toNat (((g.nodes[i]'hi1).outs)[k]'hi2))]'hi3).kind) != 6)))))] (fun w'=>w11 = w') ?_ ?_)))))))))))
      ·refine Yz (gd:=84) Z Z (fun hg6=>?_) (fun hg6=>?_)
       ·refine Qm Z Z (Qb Z) Z (Qm Z Z (Qb Z) Z (Qm Z Z (U1 Z Z) Z (Qm Z Z (Qb Z) Z ?_)))
        refine Yz (gd:=88) Z Z (fun hg7=>?_) (fun hg7=>?_)
        ·refine Qc Z Z Z Z (Qc Z Z Z Z (Qc Z Z Z Z (Q9 Z Z Z (Q9 Z Z Z (Qc Z Z Z Z (Qm Z Z (Qr Z Z) Z (Qa (Qr Z Z) Z (Qn ⟨Z,Z,Z,Z,Z,Z,Z,Z,Z,Z,Z,Z,Z,Z,Z,Z,Z,Z,Z,Z,Z,Z,Z,Z,congrArg (fun b=>some (Value.bool b)) (show true = ((((g.nodes[i]'hi1).kind) == 7) && ((decide (((i : Nat) : Int) < (((g.nodes[i]'hi1).outs)[k]'hi2))) || ((((g.nodes[(Int.toNat (((g.nodes[i]'hi1).outs)[k]'hi2))]'hi3).kind) != 5) && (((g.nodes[(Int.toNat (((g.nodes[i]'hi1).outs)[k]'hi2))]'hi3).kind) != 6)))) by first | (rw [hg6,hg7] <;> rfl) | (simp [hg6,hg7];done) | (simp only [Qq] <;> simp)),trivial⟩ Z))))))))
        ·refine Qm Z Z (Qb Z) Z (Qm Z Z (X1 Z Z) Z (Qm Z Z (Qb Z) Z ?_))
         refine Yz (gd:=91) Z Z (fun hg8=>?_) (fun hg8=>?_)
         ·refine Qm Z Z (Qb Z) Z (Qm Z Z (X1 Z Z) Z (Qm Z Z (Qr Z Z) Z (Qm Z Z (Qp Z Z) Z (Qa (Qr Z Z) Z (Qn ⟨Z,Z,Z,Z,Z,Z,Z,Z,Z,Z,Z,Z,Z,Z,Z,Z,Z,Z,Z,Z,Z,Z,Z,Z,congrArg (fun b=>some (Value.bool b)) (show (((g.nodes[(Int.toNat (((g.nodes[i]'hi1).outs)[k]'hi2))]'hi3).kind) != 6) = ((((g.nodes[i]'hi1).kind) == 7) && ((decide (((i : Nat) : Int) < (((g.nodes[i]'hi1).outs)[k]'hi2))) || ((((g.nodes[(Int.toNat (((g.nodes[i]'hi1).outs)[k]'hi2))]'hi3).kind) != 5) && (((g.nodes[(Int.toNat (((g.nodes[i]'hi1).outs)[k]'hi2))]'hi3).kind) != 6)))) by first | (rw [hg6,hg7,hg8] <;> rfl) | (simp [hg6,hg7,hg8];done) | (simp only [Qq] <;> simp)),trivial⟩ Z)))))
         ·refine Qc Z Z Z Z (Qc Z Z Z Z (Qm Z Z (Qp Z Z) Z (Qm Z Z (Qp Z Z) Z (Qa (Qr Z Z) Z (Qn ⟨Z,Z,Z,Z,Z,Z,Z,Z,Z,Z,Z,Z,Z,Z,Z,Z,Z,Z,Z,Z,Z,Z,Z,Z,congrArg (fun b=>some (Value.bool b)) (show false = ((((g.nodes[i]'hi1).kind) == 7) && ((decide (((i : Nat) : Int) < (((g.nodes[i]'hi1).outs)[k]'hi2))) || ((((g.nodes[(Int.toNat (((g.nodes[i]'hi1).outs)[k]'hi2))]'hi3).kind) != 5) && (((g.nodes[(Int.toNat (((g.nodes[i]'hi1).outs)[k]'hi2))]'hi3).kind) != 6)))) by first | (rw [hg6,hg7,hg8] <;> rfl) | (simp [hg6,hg7,hg8];done) | (simp only [Qq] <;> simp)),trivial⟩ Z)))))
       ·refine Qc Z Z Z Z (Qc Z Z Z Z (Qc Z Z Z Z (Qc Z Z Z Z (Q9 Z Z Z (Q9 Z Z Z (Q9 Z Z Z (Q9 Z Z Z (Q9 Z Z Z (Q9 Z Z Z (Qc Z Z Z Z (Qa (Qp Z Z) Z (Qn ⟨Z,Z,Z,Z,Z,Z,Z,Z,Z,Z,Z,Z,Z,Z,Z,Z,Z,Z,Z,Z,Z,Z,Z,Z,congrArg (fun b=>some (Value.bool b)) (show false = ((((g.nodes[i]'hi1).kind) == 7) && ((decide (((i : Nat) : Int) < (((g.nodes[i]'hi1).outs)[k]'hi2))) || ((((g.nodes[(Int.toNat (((g.nodes[i]'hi1).outs)[k]'hi2))]'hi3).kind) != 5) && (((g.nodes[(Int.toNat (((g.nodes[i]'hi1).outs)[k]'hi2))]'hi3).kind) != 6)))) by first | (rw [hg6] <;> rfl) | (simp [hg6];done) | (simp only [Qq] <;> simp)),trivial⟩ Z))))))))))))
      rintro _ rfl
      refine Qd (Qt Z (fun hc6=>?_) (fun hc6=>?_))
      ·refine Qh (Qi [true] Z Z (Qa (Qe Z) Z (Qd (Qx (Q0 (Yy (Q0 (Q0 (Yy (Q0 (Qu Z Z E ?_)))))))))))
       exact graph_e (edge_s2 (congrArg Node.kind (X2 _)).symm (by assumption))
      ·refine Qy (Q4 (Yn (Qi [true,true,true] Z Z (Qa (Qb Z) Z (Qa (Yu Z Z (Yw hc4n (hd2.ext E).1.1)) Z (Qa (Qe Z) Z (Qd (Q4 (Yg (k + 1) (by omega) ⟨Z,Z,Z,Z,Z,trivial⟩ ⟨E,(by omega),h1,h2,(by omega),Vl hI (by assumption) (edge_sn (congrArg Node.kind (X2 _)).symm (by assumption) (by assumption))⟩)))))))))
    ·have hc4n : ¬ k < ((g.nodes[i]'hi1).outs).length:=by first | (have h:=of_decide_eq_false hc4;omega) | (have h:=hc4;simp at h;omega)
     refine Y5 (Yc (Q8 ?_))
     refine Q4 (Yn (Qi [true,true,true] Z Z (Qa (Qb Z) Z (Qa (Yu Z Z (Yw hc2n (hd1.ext E).1.1)) Z (Qa (Qe Z) Z (Qd (Q4 (Yg (i + 1) (by omega) ⟨Z,Z,Z,trivial⟩ ⟨E,(by omega),h1,(by omega),graph_s (h1:=hi1) (by assumption) hI (by omega) hp⟩))))))))
  ·have hc2n : ¬ i < g.nodes.length:=by first | (have h:=of_decide_eq_false hc2;omega) | (have h:=hc2;simp at h;omega)
   refine Y5 (Yc (Q8 ?_))
   refine Qh (Qi [true] Z Z (Qa (Qe Z) Z (Qd (Qx (Qu Z Z E ?_)))))
   exact graph_y (by assumption) hp (by omega)

set_option maxRecDepth 20000 in
theorem s_OfEpoch (vxs : Value) (xs : List Record) (e : Int) (w : World) (hxs : RdS w vxs xs) (hb : xs.length ≤ 1048576) : Ct Tryz.prog 44 [vxs,.int .i64 e] w (fun v w'=>Own w' w.heap.size w'.heap.size 5 v (List.flatMap (Enc.enc (α:=Record)) (xs.filter (ofE e)))):=by
 refine Yp Tryz.func44 Z Tryz.ntmps44 Z ?_
 refine Yb [(0,vxs),(1,.int .i64 e)] ⟨Z,Z,trivial⟩ ?_
 have E : Ext w w:=Ext.refl w
 refine Qh (Qi [true] Z Z (Qa (Qe Z) Z (Qd (Qh (Qi [false,true] Z Z (Qz (vs:=[]) (css:=[]) Xp Z Z trivial Z Z (fun b1 w1 e1 s1 h1=>?_)))))))
 replace h1 : Blk w1 b1 []:=h1
 have g_b1 : w.heap.size ≤ b1:=by have:=E.size;omega
 have y_b1:=h1.lt
 replace E:=E.trans e1
 have z1:=e1.size
 refine Qa (Qe Z) Z (Qd (Qh (Qh (Qi [true] Z Z (Qa (Qe Z) Z (Qd (Q2 (Y6 (fun (xq : Nat × Value)=>let ⟨k,vo⟩:=xq;[(0,vxs),(1,.int .i64 e),(4,.slice none 0 0),(5,vo),(6,.int .i64 ((k : Nat) : Int))]) (fun (xq : Nat × Value) w'=>let ⟨k,vo⟩:=xq;Ext w w' ∧ w1.heap.size ≤ w'.heap.size ∧ k ≤ xs.length ∧ Own w' b1 w'.heap.size 5 vo (List.flatMap (Enc.enc (α:=Record)) ((xs.take k).filter (ofE e)))) (fun (xq : Nat × Value)=>let ⟨k,vo⟩:=xq;xs.length - k) (0,.slice (some ⟨b1,0,none⟩) 0 0) ⟨Z,Z,Z,Z,Z,trivial⟩ ⟨E,Nat.le_refl _,Nat.zero_le _,Own.fin (Own.ofBlk (lo:=b1) (hi:=b1 + 1) (sz:=5) h1 (Nat.le_refl _) (Nat.lt_succ_self _) (by simp) (by simp [maxLen])) (by have:=E.size;omega) (by omega) Z⟩ ?_))))))))
 clear E h1
 rintro ⟨k,vo⟩ w2 ⟨E,z2,hk,ho⟩
 refine Yb [(0,vxs),(1,.int .i64 e),(4,.slice none 0 0),(5,vo),(6,.int .i64 ((k : Nat) : Int))] ⟨Z,Z,Z,Z,Z,trivial⟩ ?_
 refine Qh (Qh (Qi [true,true,true,true] Z Z (Qa (Qb Z) Z (Qa (Qb Z) Z (Qa (Ye Tryz.underlying27 Z (hxs.ext E).len) Z (Qa (Xe Z Z) Z (Qd (Qt Z (fun hc1=>?_) (fun hc1=>?_)))))))))
 ·have hc1n : k < xs.length:=by first | (have h:=of_decide_eq_true hc1;omega) | (have h:=hc1;simp at h;omega)
  refine Qy (Qh (Q2 (Qh (Qi [true,true,true,true,true,true,true,true] Z Z (Qa (Qb Z) Z (Qa (Qb Z) Z ?_))))))
  have hi1 : k < xs.length:=(by first | assumption | omega | (simp only [List.length_set];first | assumption | omega) | (simp only [List.getElem_set_self,List.length_set];first | assumption | omega) | (simp only [Y3,Yj,List.length_set];first | assumption | omega) | (simp;done))
  refine Qa (Q5 (i:=k) Xp Z Z (hxs.ext E) hi1) Z (Qa (Q7 X4 Z) Z (Qa (Q7 Uh Z) Z (Qa (Qk Xi Z (((hxs.ext E).get hi1).one 1 Z)) Z (Qa (Qb Z) Z (Qa (Y9 Z Z) Z (Qd (Qt Z (fun hc2=>?_) (fun hc2=>?_))))))))
  ·refine Qi [true,true,true,true,true,false,false,true] Z Z (Qa (Qb Z) Z (Qa (Qb Z) Z (Qa (Qb Z) Z (Qa (Q5 (i:=k) Xp Z Z (hxs.ext E) hi1) Z (Qa (Ql Xq Z ((hxs.ext E).get hi1) Z) Z (Qz (vs:=[.agg (Enc.enc (xs[k]'hi1)).toArray]) (css:=[[.int .i64 ((xs[k]'hi1).op),.int .i64 (((xs[k]'hi1).stamp).epoch),.int .i64 (((xs[k]'hi1).stamp).turn),.int .i64 ((xs[k]'hi1).key),.int .i64 ((xs[k]'hi1).val)]]) Xp Z Z ⟨⟨Z,Z⟩,trivial⟩ Z Z (fun b2 w3 e2 s2 h2=>?_)))))))
   replace h2 : Blk w3 b2 [.int .i64 ((xs[k]'hi1).op),.int .i64 (((xs[k]'hi1).stamp).epoch),.int .i64 (((xs[k]'hi1).stamp).turn),.int .i64 ((xs[k]'hi1).key),.int .i64 ((xs[k]'hi1).val)]:=h2
   have g_b2 : w.heap.size ≤ b2:=by have:=E.size;omega
   have y_b2:=h2.lt
   replace E:=E.trans e2;replace ho:=ho.ext e2
   have z3:=e2.size
   refine Xo Xp Z Z ho (Src.ofBlk h2 Z) Z (by have h:=Hm xs (ofE e) k;simp only [show Enc.sz Record = 5 from Z] at h;simp at h ⊢;omega) (by decide) (by omega) (by omega) Z Z (fun v1 w4 m1 ho1=>?_)
   replace E:=E.step m1 (fun g hg=>by have:=Own.blk ho g hg;omega)
   have z4:=m1.size
   refine Qa (Qe Z) Z (Qd (Q4 (Yn (Qi [true,true,true] Z Z (Qa (Qb Z) Z (Qa (Yu Z Z (Yw hc1n hxs.1)) Z (Qa (Qe Z) Z (Qd (Q4 (Yg (k + 1,v1) (by simp;omega) ⟨Z,Z,Z,Z,Z,trivial⟩ ⟨E,(by omega),(by omega),Own.fin ho1 (Nat.le_refl _) (by omega) (Tu (by assumption) (by simpa [ofE] using hc2))⟩))))))))))
  ·refine Qy (Q4 (Yn (Qi [true,true,true] Z Z (Qa (Qb Z) Z (Qa (Yu Z Z (Yw hc1n hxs.1)) Z (Qa (Qe Z) Z (Qd (Q4 (Yg (k + 1,vo) (by simp;omega) ⟨Z,Z,Z,Z,Z,trivial⟩ ⟨E,(by omega),(by omega),Own.fin ho (Nat.le_refl _) (by omega) (C1 (by assumption) (by simpa [ofE] using hc2))⟩)))))))))
 ·have hc1n : ¬ k < xs.length:=by first | (have h:=of_decide_eq_false hc1;omega) | (have h:=hc1;simp at h;omega)
  refine Y5 (Yc (Q8 ?_))
  refine Qh (Qi [true,true] Z Z (Qa (Qb Z) Z (Qa (Qe Z) Z (Qd (Qx (Qu Z Z E ?_))))))
  exact Own.fin ho (by omega) (by omega) (filt_all (by omega))

set_option maxRecDepth 20000 in
theorem c_OfEpoch (vxs : Value) (xs : List Record) (e : Int) (w : World) (hxs : RdS w vxs xs) (hb : xs.length ≤ 1048576) : Ct Tryz.prog 43 [vxs,.int .i64 e] w (fun v w'=>Own w' w.heap.size w'.heap.size 5 v (List.flatMap (Enc.enc (α:=Record)) (xs.filter (ofE e)))):=by
 refine Yp Tryz.func43 Z Tryz.ntmps43 Z ?_
 refine Yb [(0,vxs),(1,.int .i64 e)] ⟨Z,Z,trivial⟩ ?_
 have E : Ext w w:=Ext.refl w
 refine Qh (Qi [true] Z Z (Qa (Qe Z) Z (Qd (Qh (Qi [true] Z Z (Qa (Qe Z) Z (Qd (Qh (Qh (Qi [true,true,true] Z Z (Qa (Qb Z) Z (Qa (Ye Tryz.underlying27 Z (hxs.ext E).len) Z (Qa (Qb Z) Z (Qd (Q2 (Y6 (fun (xq : Nat × Value)=>let ⟨k,vo⟩:=xq;[(1,.int .i64 e),(4,.slice none 0 0),(5,vo),(8,vxs),(9,.int .i64 ((xs.length : Nat) : Int)),(10,.int .i64 ((k : Nat) : Int))]) (fun (xq : Nat × Value) w'=>let ⟨k,vo⟩:=xq;Ext w w' ∧ w.heap.size ≤ w'.heap.size ∧ k ≤ xs.length ∧ Own w' w.heap.size w'.heap.size 5 vo (List.flatMap (Enc.enc (α:=Record)) ((xs.take k).filter (ofE e)))) (fun (xq : Nat × Value)=>let ⟨k,vo⟩:=xq;xs.length - k) (0,.slice none 0 0) ⟨Z,Z,Z,Z,Z,Z,trivial⟩ ⟨E,Nat.le_refl _,Nat.zero_le _,Own.fin (Own.nil w w.heap.size w.heap.size _) (by have:=E.size;omega) (by omega) Z⟩ ?_))))))))))))))))
 clear E
 rintro ⟨k,vo⟩ w1 ⟨E,z1,hk,ho⟩
 refine Yb [(1,.int .i64 e),(4,.slice none 0 0),(5,vo),(8,vxs),(9,.int .i64 ((xs.length : Nat) : Int)),(10,.int .i64 ((k : Nat) : Int))] ⟨Z,Z,Z,Z,Z,Z,trivial⟩ ?_
 refine Qh (Qi [true] Z Z (Qa (Xe Z Z) Z (Qd (Qh (Qt Z (fun hc1=>?_) (fun hc1=>?_))))))
 ·have hc1n : k < xs.length:=by first | (have h:=of_decide_eq_true hc1;omega) | (have h:=hc1;simp at h;omega)
  refine Qy (Qh (Q2 (Qh (Qi [true,true,false,false] Z Z ?_))))
  have hi1 : k < xs.length:=(by first | assumption | omega | (simp only [List.length_set];first | assumption | omega) | (simp only [List.getElem_set_self,List.length_set];first | assumption | omega) | (simp only [Y3,Yj,List.length_set];first | assumption | omega) | (simp;done))
  refine Qa (Q5 (i:=k) Xp Z Z (hxs.ext E) hi1) Z (Qa (Ql Xq Z ((hxs.ext E).get hi1) Z) Z (Yd Xq Z (fun b1 w2 e1 s1 h1=>?_)))
  have g_b1 : w.heap.size ≤ b1:=by have:=E.size;omega
  have y_b1:=h1.lt
  replace E:=E.trans e1;replace ho:=ho.ext e1
  have z2:=e1.size
  refine Qs (cs':=[.int .i64 ((xs[k]'hi1).op),.int .i64 (((xs[k]'hi1).stamp).epoch),.int .i64 (((xs[k]'hi1).stamp).turn),.int .i64 ((xs[k]'hi1).key),.int .i64 ((xs[k]'hi1).val)]) Xq Z Z Z Z h1 (Nat.le_of_ble_eq_true Z) Z (fun w3 m1 h1'=>?_)
  replace h1:=h1'
  replace E:=E.step m1 (fun g hg=>by cases hg;omega);replace ho:=ho.mod m1 (fun g hg=>by cases hg;omega)
  have z3:=m1.size
  refine Qd (Qh (Qi [true,true,true,true,true] Z Z (Qa (Qf X4 Z) Z (Qa (Q7 Uh Z) Z (Qa (Qk Xi Z (h1.one 1 Z)) Z (Qa (Qb Z) Z (Qa (Y9 Z Z) Z (Qd (Qt Z (fun hc2=>?_) (fun hc2=>?_))))))))))
  ·refine Qi [true,true,false,false,true] Z Z (Qa (Qb Z) Z (Qa (Ql Xq Z h1.at Z) Z (Qz (vs:=[.agg (Enc.enc (xs[k]'hi1)).toArray]) (css:=[[.int .i64 ((xs[k]'hi1).op),.int .i64 (((xs[k]'hi1).stamp).epoch),.int .i64 (((xs[k]'hi1).stamp).turn),.int .i64 ((xs[k]'hi1).key),.int .i64 ((xs[k]'hi1).val)]]) Xp Z Z ⟨⟨Z,Z⟩,trivial⟩ Z Z (fun b2 w4 e2 s2 h2=>?_))))
   replace h2 : Blk w4 b2 [.int .i64 ((xs[k]'hi1).op),.int .i64 (((xs[k]'hi1).stamp).epoch),.int .i64 (((xs[k]'hi1).stamp).turn),.int .i64 ((xs[k]'hi1).key),.int .i64 ((xs[k]'hi1).val)]:=h2
   have g_b2 : w.heap.size ≤ b2:=by have:=E.size;omega
   have y_b2:=h2.lt
   replace E:=E.trans e2;replace ho:=ho.ext e2;replace h1:=h1.ext e2
   have z4:=e2.size
   refine Xo Xp Z Z ho (Src.ofBlk h2 Z) Z (by have h:=Hm xs (ofE e) k;simp only [show Enc.sz Record = 5 from Z] at h;simp at h ⊢;omega) (by decide) (by omega) (by omega) Z Z (fun v1 w5 m2 ho1=>?_)
   replace E:=E.step m2 (fun g hg=>by have:=Own.blk ho g hg;omega);replace h1:=h1.mod m2 (fun g hg=>by have:=Own.blk ho g hg;omega)
   have z5:=m2.size
   refine Qa (Qe Z) Z (Qd (Q4 (Yn (Qi [true,true] Z Z (Qa (Yu Z Z (Yw hc1n hxs.1)) Z (Qa (Qb Z) Z (Qd (Q4 (Yg (k + 1,v1) (by simp;omega) ⟨Z,Z,Z,Z,Z,Z,trivial⟩ ⟨E,(by omega),(by omega),Own.fin ho1 (Nat.le_refl _) (by omega) (Tu (by assumption) (by simpa [ofE] using hc2))⟩)))))))))
  ·refine Qy (Q4 (Yn (Qi [true,true] Z Z (Qa (Yu Z Z (Yw hc1n hxs.1)) Z (Qa (Qb Z) Z (Qd (Q4 (Yg (k + 1,vo) (by simp;omega) ⟨Z,Z,Z,Z,Z,Z,trivial⟩ ⟨E,(by omega),(by omega),Own.fin ho (Nat.le_refl _) (by omega) (C1 (by assumption) (by simpa [ofE] using hc2))⟩))))))))
 ·have hc1n : ¬ k < xs.length:=by first | (have h:=of_decide_eq_false hc1;omega) | (have h:=hc1;simp at h;omega)
  refine Y5 (Yc (Q8 ?_))
  refine Qh (Qi [true,true] Z Z (Qa (Qb Z) Z (Qa (Qe Z) Z (Qd (Qx (Qu Z Z E ?_))))))
  exact Own.fin ho (by omega) (by omega) (filt_all (by omega))

set_option maxRecDepth 20000 in
theorem c_IndexFuncRecord (vxs : Value) (xs : List Record) (fp : Value) (p : Record → Bool) (w : World) (hxs : RdS w vxs xs) (hp : PredF Tryz.prog w fp p) : Ct Tryz.prog 71 [vxs,fp] w (fun v _=>v = .int .i64 (Cr xs p)):=by
 refine Yp Tryz.func71 Z Tryz.ntmps71 Z ?_
 obtain ⟨fid,fs,fc,rfl,hcf,hpf⟩:=hp
 refine Yb [(0,vxs),(1,.func (.func fid) fs.toArray fc.toArray)] ⟨Z,Z,trivial⟩ ?_
 have E : Ext w w:=Ext.refl w
 refine Qh (Qi [true] Z Z (Qa (Qe Z) Z (Qd (Qh (Qh (Qi [true,true,true] Z Z (Qa (Qb Z) Z (Qa (Ye Tryz.underlying27 Z (hxs.ext E).len) Z (Qa (Qb Z) Z (Qd (Q2 (Y6 (fun (k : Nat)=>[(0,vxs),(1,.func (.func fid) fs.toArray fc.toArray),(4,.int .i64 0),(7,.int .i64 ((xs.length : Nat) : Int)),(8,.int .i64 ((k : Nat) : Int))]) (fun (k : Nat) w'=>Ext w w' ∧ w.heap.size ≤ w'.heap.size ∧ k ≤ xs.length ∧ (xs.take k).any p = false) (fun (k : Nat)=>xs.length - k) 0 ⟨Z,Z,Z,Z,Z,trivial⟩ ⟨E,Nat.le_refl _,Nat.zero_le _,Z⟩ ?_))))))))))))
 clear E
 rintro k w1 ⟨E,z1,hk,hI⟩
 refine Qh (Qi [true] Z Z (Qa (Xe Z Z) Z (Qd (Qh (Qt Z (fun hc1=>?_) (fun hc1=>?_))))))
 ·have hc1n : k < xs.length:=by first | (have h:=of_decide_eq_true hc1;omega) | (have h:=hc1;simp at h;omega)
  refine Qy (Qh (Q2 (Qh (Qi [true,true] Z Z (Qa (Qb Z) Z (Qa (Qe Z) Z (Qd (Qh (Qi [true,true,true,true,true,false] Z Z (Qa (Qb Z) Z (Qa (Qb Z) Z (Qa (Qb Z) Z ?_))))))))))))
  have hi1 : k < xs.length:=(by first | assumption | omega | (simp only [List.length_set];first | assumption | omega) | (simp only [List.getElem_set_self,List.length_set];first | assumption | omega) | (simp only [Y3,Yj,List.length_set];first | assumption | omega) | (simp;done))
  refine Qa (Q5 (i:=k) Xp Z Z (hxs.ext E) hi1) Z (Qa (Ql Xq Z ((hxs.ext E).get hi1) Z) Z (J_callV (fs:=fs) (cs:=fc) hcf Z Z (hpf (xs[k]'hi1) _ E) Z (fun _ w2 e1 hv=>?_)))
  subst hv
  replace E:=E.trans e1
  have z2:=e1.size
  refine Qd (Qt Z (fun hc2=>?_) (fun hc2=>?_))
  ·refine Qh (Qi [true,true] Z Z (Qa (Qb Z) Z (Qa (Qe Z) Z (Qd (Qx (Q0 (Yy (Q0 (Qu Z Z E ?_)))))))))
   exact find_yes hI (by assumption) hc2
  ·refine Qy (Q4 (Yn (Qi [true,true] Z Z (Qa (Yu Z Z (Yw hc1n hxs.1)) Z (Qa (Qb Z) Z (Qd (Q4 (Yg (k + 1) (by omega) ⟨Z,Z,Z,Z,Z,trivial⟩ ⟨E,(by omega),(by omega),Hp hI (by assumption) hc2⟩))))))))
 ·have hc1n : ¬ k < xs.length:=by first | (have h:=of_decide_eq_false hc1;omega) | (have h:=hc1;simp at h;omega)
  refine Y5 (Yc (Q8 ?_))
  refine Qh (Qi [true] Z Z (Qa (Qe Z) Z (Qd (Qx (Qu Z Z E ?_)))))
  exact find_no hI (by omega)

set_option maxRecDepth 20000 in
theorem c_ContainsFuncRecord (vxs : Value) (xs : List Record) (fp : Value) (p : Record → Bool) (w : World) (hxs : RdS w vxs xs) (hp : PredF Tryz.prog w fp p) : Ct Tryz.prog 45 [vxs,fp] w (fun v _=>v = .bool (xs.any p)):=by
 refine Yp Tryz.func45 Z Tryz.ntmps45 Z ?_
 obtain ⟨fid,fs,fc,rfl,hcf,hpf⟩:=hp
 refine Yb [(0,vxs),(1,.func (.func fid) fs.toArray fc.toArray)] ⟨Z,Z,trivial⟩ ?_
 have E : Ext w w:=Ext.refl w
 refine Qh (Qi [true] Z Z (Qa (Qe Z) Z (Qd (Qh (Qi [true,true,false,true,true] Z Z (Qa (Qb Z) Z (Qa (Qb Z) Z (Qw Tryz.call71 (by rfl) (c_IndexFuncRecord vxs xs (.func (.func fid) fs.toArray fc.toArray) (p) _ (hxs.ext E) ⟨fid,fs,fc,Z,hcf,fun y w' e=>hpf y w' (E.trans e)⟩) Z (fun _ w1 e1 hv=>?_)))))))))
 subst hv
 replace E:=E.trans e1
 have z1:=e1.size
 refine Qa (Hs Z Z) Z (Qa (Qe Z) Z (Qd (Qx (Qu Z Z E ?_))))
 exact any_find

set_option maxRecDepth 20000 in
theorem c_IndexFuncDone (vxs : Value) (xs : List Done) (fp : Value) (p : Done → Bool) (w : World) (hxs : RdS w vxs xs) (hp : PredF Tryz.prog w fp p) : Ct Tryz.prog 74 [vxs,fp] w (fun v _=>v = .int .i64 (Cr xs p)):=by
 refine Yp Tryz.func74 Z Tryz.ntmps74 Z ?_
 obtain ⟨fid,fs,fc,rfl,hcf,hpf⟩:=hp
 refine Yb [(0,vxs),(1,.func (.func fid) fs.toArray fc.toArray)] ⟨Z,Z,trivial⟩ ?_
 have E : Ext w w:=Ext.refl w
 refine Qh (Qi [true] Z Z (Qa (Qe Z) Z (Qd (Qh (Qh (Qi [true,true,true] Z Z (Qa (Qb Z) Z (Qa (Ye Tryz.underlying31 Z (hxs.ext E).len) Z (Qa (Qb Z) Z (Qd (Q2 (Y6 (fun (k : Nat)=>[(0,vxs),(1,.func (.func fid) fs.toArray fc.toArray),(4,.int .i64 0),(7,.int .i64 ((xs.length : Nat) : Int)),(8,.int .i64 ((k : Nat) : Int))]) (fun (k : Nat) w'=>Ext w w' ∧ w.heap.size ≤ w'.heap.size ∧ k ≤ xs.length ∧ (xs.take k).any p = false) (fun (k : Nat)=>xs.length - k) 0 ⟨Z,Z,Z,Z,Z,trivial⟩ ⟨E,Nat.le_refl _,Nat.zero_le _,Z⟩ ?_))))))))))))
 clear E
 rintro k w1 ⟨E,z1,hk,hI⟩
 refine Qh (Qi [true] Z Z (Qa (Xe Z Z) Z (Qd (Qh (Qt Z (fun hc1=>?_) (fun hc1=>?_))))))
 ·have hc1n : k < xs.length:=by first | (have h:=of_decide_eq_true hc1;omega) | (have h:=hc1;simp at h;omega)
  refine Qy (Qh (Q2 (Qh (Qi [true,true] Z Z (Qa (Qb Z) Z (Qa (Qe Z) Z (Qd (Qh (Qi [true,true,true,true,true,false] Z Z (Qa (Qb Z) Z (Qa (Qb Z) Z (Qa (Qb Z) Z ?_))))))))))))
  have hi1 : k < xs.length:=(by first | assumption | omega | (simp only [List.length_set];first | assumption | omega) | (simp only [List.getElem_set_self,List.length_set];first | assumption | omega) | (simp only [Y3,Yj,List.length_set];first | assumption | omega) | (simp;done))
  refine Qa (Q5 (i:=k) H1 Z Z (hxs.ext E) hi1) Z (Qa (Ql st58 Z ((hxs.ext E).get hi1) Z) Z (J_callV (fs:=fs) (cs:=fc) hcf Z Z (hpf (xs[k]'hi1) _ E) Z (fun _ w2 e1 hv=>?_)))
  subst hv
  replace E:=E.trans e1
  have z2:=e1.size
  refine Qd (Qt Z (fun hc2=>?_) (fun hc2=>?_))
  ·refine Qh (Qi [true,true] Z Z (Qa (Qb Z) Z (Qa (Qe Z) Z (Qd (Qx (Q0 (Yy (Q0 (Qu Z Z E ?_)))))))))
   exact find_yes hI (by assumption) hc2
  ·refine Qy (Q4 (Yn (Qi [true,true] Z Z (Qa (Yu Z Z (Yw hc1n hxs.1)) Z (Qa (Qb Z) Z (Qd (Q4 (Yg (k + 1) (by omega) ⟨Z,Z,Z,Z,Z,trivial⟩ ⟨E,(by omega),(by omega),Hp hI (by assumption) hc2⟩))))))))
 ·have hc1n : ¬ k < xs.length:=by first | (have h:=of_decide_eq_false hc1;omega) | (have h:=hc1;simp at h;omega)
  refine Y5 (Yc (Q8 ?_))
  refine Qh (Qi [true] Z Z (Qa (Qe Z) Z (Qd (Qx (Qu Z Z E ?_)))))
  exact find_no hI (by omega)

set_option maxRecDepth 20000 in
theorem c_ContainsFuncDone (vxs : Value) (xs : List Done) (fp : Value) (p : Done → Bool) (w : World) (hxs : RdS w vxs xs) (hp : PredF Tryz.prog w fp p) : Ct Tryz.prog 59 [vxs,fp] w (fun v _=>v = .bool (xs.any p)):=by
 refine Yp Tryz.func59 Z Tryz.ntmps59 Z ?_
 obtain ⟨fid,fs,fc,rfl,hcf,hpf⟩:=hp
 refine Yb [(0,vxs),(1,.func (.func fid) fs.toArray fc.toArray)] ⟨Z,Z,trivial⟩ ?_
 have E : Ext w w:=Ext.refl w
 refine Qh (Qi [true] Z Z (Qa (Qe Z) Z (Qd (Qh (Qi [true,true,false,true,true] Z Z (Qa (Qb Z) Z (Qa (Qb Z) Z (Qw Tryz.call74 (by rfl) (c_IndexFuncDone vxs xs (.func (.func fid) fs.toArray fc.toArray) (p) _ (hxs.ext E) ⟨fid,fs,fc,Z,hcf,fun y w' e=>hpf y w' (E.trans e)⟩) Z (fun _ w1 e1 hv=>?_)))))))))
 subst hv
 replace E:=E.trans e1
 have z1:=e1.size
 refine Qa (Hs Z Z) Z (Qa (Qe Z) Z (Qd (Qx (Qu Z Z E ?_))))
 exact any_find

set_option maxRecDepth 20000 in
theorem c_OpenAt1 (r : Record) (be : Nat) (e : Int) (w : World) (he : At w be 0 [.int .i64 e]) : Ct Tryz.prog 46 [.agg (Enc.enc r).toArray,.pointer (some ⟨be,0,none⟩)] w (fun v _=>v = .bool (decide (r.stamp.epoch ≤ e))):=by
 refine Yp Tryz.func46 Z Tryz.ntmps46 Z ?_
 refine Yb [(0,.agg (Enc.enc r).toArray),(1,.pointer (some ⟨be,0,none⟩))] ⟨Z,Z,trivial⟩ ?_
 have E : Ext w w:=Ext.refl w
 refine Qh (Qi [false,true] Z Z (Xb Z Z (fun b1 w1 e1 s1 h1=>?_)))
 have g_b1 : w.heap.size ≤ b1:=by have:=E.size;omega
 have y_b1:=h1.lt
 replace E:=E.trans e1
 have z1:=e1.size
 refine Qa (Qe Z) Z (Qd (Qh (Qi [true,true,true,true,true,true] Z Z (Qa (Qf X4 Z) Z (Qa (Q7 Uh Z) Z (Qa (Qk Xi Z (h1.one 1 Z)) Z (Qa (Qk Xi Z ((he.ext E).one 0 Z)) Z (Qa (H8 Z Z) Z (Qa (Qe Z) Z (Qd (Qx (Qu Z Z E ?_))))))))))))
 rfl

set_option maxRecDepth 20000 in
theorem c_doneAt1 (r : Done) (be : Nat) (e : Int) (w : World) (he : At w be 0 [.int .i64 e]) : Ct Tryz.prog 60 [.agg (Enc.enc r).toArray,.pointer (some ⟨be,0,none⟩)] w (fun v _=>v = .bool (r.epoch == e)):=by
 refine Yp Tryz.func60 Z Tryz.ntmps60 Z ?_
 refine Yb [(0,.agg (Enc.enc r).toArray),(1,.pointer (some ⟨be,0,none⟩))] ⟨Z,Z,trivial⟩ ?_
 have E : Ext w w:=Ext.refl w
 refine Qh (Qi [false,true] Z Z (Xb Z Z (fun b1 w1 e1 s1 h1=>?_)))
 have g_b1 : w.heap.size ≤ b1:=by have:=E.size;omega
 have y_b1:=h1.lt
 replace E:=E.trans e1
 have z1:=e1.size
 refine Qa (Qe Z) Z (Qd (Qh (Qi [true,true,true,true,true] Z Z (Qa (Qf Tf Z) Z (Qa (Qk Xi Z (h1.one 0 Z)) Z (Qa (Qk Xi Z ((he.ext E).one 0 Z)) Z (Qa (Y9 Z Z) Z (Qa (Qe Z) Z (Qd (Qx (Qu Z Z E ?_)))))))))))
 rfl

set_option maxRecDepth 20000 in
theorem c_OpenAt (cx : List Value) (x : Worker) (e : Int) (w : World) (hx : Dat.R w 0 w.heap.size cx x) : Ct Tryz.prog 17 [.agg cx.toArray,.int .i64 e] w (fun v _=>v = .bool (Uu x e)):=by
 refine Yp Tryz.func17 Z Tryz.ntmps17 Z ?_
 obtain ⟨o1,o2,o3,o4,o5,o6,o7,o8,rfl,hd1,hd2,hd3,hd4,hd5,hd6,hd7,hd8⟩:=Worker.op hx
 refine Yb [(0,.agg [o1,o2,o3,o4,o5,o6,o7,o8].toArray),(1,.int .i64 e)] ⟨Z,Z,trivial⟩ ?_
 have E : Ext w w:=Ext.refl w
 refine Qh (Qi [false,false,true] Z Z (Xb Z Z (fun b1 w1 e1 s1 h1=>?_)))
 have g_b1 : w.heap.size ≤ b1:=by have:=E.size;omega
 have y_b1:=h1.lt
 replace E:=E.trans e1
 have z1:=e1.size
 refine J_box1 Z Z Z (fun b2 w2 e2 s2 h2=>?_)
 have g_b2 : w.heap.size ≤ b2:=by have:=E.size;omega
 have y_b2:=h2.lt
 replace E:=E.trans e2;replace h1:=h1.ext e2
 have z2:=e2.size
 refine Qa (Qe Z) Z (Qd (Qh (Qi [true,true,true,false,true] Z Z (Qa (Qf X5 Z) Z (Qa (Qk Xv Z (h1.one 2 Z)) Z (Qa (Az Z Z) Z (Qw Tryz.call45 (by rfl) (c_ContainsFuncRecord o3 x.inputs (.func (.func 46) [].toArray [.pointer (some ⟨b2,0,none⟩)].toArray) ((fun (y : Record)=>decide (y.stamp.epoch ≤ e))) _ (hd3.rd.ext E) ⟨46,[],[.pointer (some ⟨b2,0,none⟩)],Z,Tryz.call46,fun y wX eX=>c_OpenAt1 y b2 e wX (At.ext (Blk.at h2) eX)⟩) Z (fun _ w3 e3 hv=>?_))))))))
 subst hv
 replace E:=E.trans e3;replace h1:=h1.ext e3;replace h2:=h2.ext e3
 have z3:=e3.size
 refine Qa (Qe Z) Z (Qd (Qx (Qu Z Z E ?_)))
 rfl

set_option maxRecDepth 20000 in
theorem c_doneAt (vxs : Value) (xs : List Done) (e : Int) (w : World) (hxs : RdS w vxs xs) : Ct Tryz.prog 29 [vxs,.int .i64 e] w (fun v _=>v = .bool (xs.any (fun d=>d.epoch == e))):=by
 refine Yp Tryz.func29 Z Tryz.ntmps29 Z ?_
 refine Yb [(0,vxs),(1,.int .i64 e)] ⟨Z,Z,trivial⟩ ?_
 have E : Ext w w:=Ext.refl w
 refine Qh (Qi [false,true] Z Z (J_box1 Z Z Z (fun b1 w1 e1 s1 h1=>?_)))
 have g_b1 : w.heap.size ≤ b1:=by have:=E.size;omega
 have y_b1:=h1.lt
 replace E:=E.trans e1
 have z1:=e1.size
 refine Qa (Qe Z) Z (Qd (Qh (Qi [true,true,false,true] Z Z (Qa (Qb Z) Z (Qa (Az Z Z) Z (Qw Tryz.call59 (by rfl) (c_ContainsFuncDone vxs xs (.func (.func 60) [].toArray [.pointer (some ⟨b1,0,none⟩)].toArray) ((fun (y : Done)=>y.epoch == e)) _ (hxs.ext E) ⟨60,[],[.pointer (some ⟨b1,0,none⟩)],Z,Tryz.call60,fun y wX eX=>c_doneAt1 y b1 e wX (At.ext (Blk.at h1) eX)⟩) Z (fun _ w2 e2 hv=>?_)))))))
 subst hv
 replace E:=E.trans e2;replace h1:=h1.ext e2
 have z2:=e2.size
 refine Qa (Qe Z) Z (Qd (Qx (Qu Z Z E ?_)))
 rfl

set_option maxRecDepth 20000 in
theorem c_IsDone (cx : List Value) (x : Worker) (e : Int) (w : World) (hx : Dat.R w 0 w.heap.size cx x) : Ct Tryz.prog 19 [.agg cx.toArray,.int .i64 e] w (fun v _=>v = .bool (Ce x e)):=by
 refine Yp Tryz.func19 Z Tryz.ntmps19 Z ?_
 obtain ⟨o1,o2,o3,o4,o5,o6,o7,o8,rfl,hd1,hd2,hd3,hd4,hd5,hd6,hd7,hd8⟩:=Worker.op hx
 refine Yb [(0,.agg [o1,o2,o3,o4,o5,o6,o7,o8].toArray),(1,.int .i64 e)] ⟨Z,Z,trivial⟩ ?_
 have E : Ext w w:=Ext.refl w
 refine Qh (Qi [false,true] Z Z (Xb Z Z (fun b1 w1 e1 s1 h1=>?_)))
 have g_b1 : w.heap.size ≤ b1:=by have:=E.size;omega
 have y_b1:=h1.lt
 replace E:=E.trans e1
 have z1:=e1.size
 refine Qa (Qe Z) Z (Qd (Qh (Qi [true,true,true,false,true] Z Z (Qa (Qf Um Z) Z (Qa (Qk Hh Z (h1.one 7 Z)) Z (Qa (Qb Z) Z (Qw Tryz.call29 Z (c_doneAt o8 x.dones e _ (hd8.rd.ext E)) Z (fun _ w2 e2 hv=>?_))))))))
 subst hv
 replace E:=E.trans e2;replace h1:=h1.ext e2
 have z2:=e2.size
 refine Qa (Qe Z) Z (Qd (Qx (Qu Z Z E ?_)))
 rfl

set_option maxRecDepth 20000 in
theorem c_WorkAt (cx : List Value) (x : Worker) (e : Int) (w : World) (hx : Dat.R w 0 w.heap.size cx x) (hb : Q6 x ≤ 1048576) : Ct Tryz.prog 15 [.agg cx.toArray,.int .i64 e] w (fun v _=>v = .int .i64 (Ul x e)):=by
 unfold Q6 at hb
 refine Yp Tryz.func15 Z Tryz.ntmps15 Z ?_
 obtain ⟨o1,o2,o3,o4,o5,o6,o7,o8,rfl,hd1,hd2,hd3,hd4,hd5,hd6,hd7,hd8⟩:=Worker.op hx
 refine Yb [(0,.agg [o1,o2,o3,o4,o5,o6,o7,o8].toArray),(1,.int .i64 e)] ⟨Z,Z,trivial⟩ ?_
 have E : Ext w w:=Ext.refl w
 refine Qh (Qi [false,true] Z Z (Xb Z Z (fun b1 w1 e1 s1 h1=>?_)))
 have g_b1 : w.heap.size ≤ b1:=by have:=E.size;omega
 have y_b1:=h1.lt
 replace E:=E.trans e1
 have z1:=e1.size
 refine Qa (Qe Z) Z (Qd (Qh (Xk Xd [(0,true),(1,true),(2,true),(5,true),(6,true),(7,true),(3,false),(4,true),(8,false),(9,true),(10,true),(11,true)] (by decide +kernel) Z (fun w2 e2=>?_))))
 replace E:=E.trans e2;replace h1:=h1.ext e2
 have z2:=e2.size
 refine Qa (Qf Kf Z) Z (Qa (Qk Xv Z (h1.one 0 Z)) Z (Qa (Qb Z) Z (Qa (Qf Ui Z) Z (Qa (Qk Xv Z (h1.one 1 Z)) Z (Qa (Qb Z) Z (Qw Tryz.call43 Z (c_OfEpoch o1 x.queue e _ (hd1.rd.ext E) (by first | omega | (simp only [Q1];omega) | (rw [Q1];done) | (simp only [Q1];done))) Z (fun v1 w3 e3 ho1=>?_)))))))
 have g_ho1 : w.heap.size ≤ w2.heap.size:=E.size
 replace E:=E.trans e3;replace h1:=h1.ext e3
 have z3:=e3.size
 refine Qa (Ye Tryz.underlying27 Z (Own.len (by decide) ho1)) Z (Qw Tryz.call43 Z (c_OfEpoch o2 x.staged e _ (hd2.rd.ext E) (by first | omega | (simp only [Q1];omega) | (rw [Q1];done) | (simp only [Q1];done))) Z (fun v2 w4 e4 ho2=>?_))
 have g_ho2 : w.heap.size ≤ w3.heap.size:=E.size
 replace E:=E.trans e4;replace h1:=h1.ext e4;replace ho1:=ho1.ext e4
 have z4:=e4.size
 refine Qa (Ye Tryz.underlying27 Z (Own.len (by decide) ho2)) Z (Qa (Yu Z Z Z) Z (Qa (Qe Z) Z (Qd (Qx (Qu Z Z E ?_)))))
 rfl

set_option maxRecDepth 20000 in
theorem s_WorkAt (cx : List Value) (x : Worker) (e : Int) (w : World) (hx : Dat.R w 0 w.heap.size cx x) (hb : Q6 x ≤ 1048576) : Ct Tryz.prog 16 [.agg cx.toArray,.int .i64 e] w (fun v _=>v = .int .i64 (Ul x e)):=by
 unfold Q6 at hb
 refine Yp Tryz.func16 Z Tryz.ntmps16 Z ?_
 obtain ⟨o1,o2,o3,o4,o5,o6,o7,o8,rfl,hd1,hd2,hd3,hd4,hd5,hd6,hd7,hd8⟩:=Worker.op hx
 refine Yb [(0,.agg [o1,o2,o3,o4,o5,o6,o7,o8].toArray),(1,.int .i64 e)] ⟨Z,Z,trivial⟩ ?_
 have E : Ext w w:=Ext.refl w
 refine Qh (Qi [false,true] Z Z (Xb Z Z (fun b1 w1 e1 s1 h1=>?_)))
 have g_b1 : w.heap.size ≤ b1:=by have:=E.size;omega
 have y_b1:=h1.lt
 replace E:=E.trans e1
 have z1:=e1.size
 refine Qa (Qe Z) Z (Qd (Qh (Xk Xd [(0,true),(1,true),(2,true),(5,true),(6,true),(7,true),(3,false),(4,true),(8,false),(9,true),(10,true),(11,true)] (by decide +kernel) Z (fun w2 e2=>?_))))
 replace E:=E.trans e2;replace h1:=h1.ext e2
 have z2:=e2.size
 refine Qa (Qf Kf Z) Z (Qa (Qk Xv Z (h1.one 0 Z)) Z (Qa (Qb Z) Z (Qa (Qf Ui Z) Z (Qa (Qk Xv Z (h1.one 1 Z)) Z (Qa (Qb Z) Z (Qw Tryz.call44 Z (s_OfEpoch o1 x.queue e _ (hd1.rd.ext E) (by first | omega | (simp only [Q1];omega) | (rw [Q1];done) | (simp only [Q1];done))) Z (fun v1 w3 e3 ho1=>?_)))))))
 have g_ho1 : w.heap.size ≤ w2.heap.size:=E.size
 replace E:=E.trans e3;replace h1:=h1.ext e3
 have z3:=e3.size
 refine Qa (Ye Tryz.underlying27 Z (Own.len (by decide) ho1)) Z (Qw Tryz.call44 Z (s_OfEpoch o2 x.staged e _ (hd2.rd.ext E) (by first | omega | (simp only [Q1];omega) | (rw [Q1];done) | (simp only [Q1];done))) Z (fun v2 w4 e4 ho2=>?_))
 have g_ho2 : w.heap.size ≤ w3.heap.size:=E.size
 replace E:=E.trans e4;replace h1:=h1.ext e4;replace ho1:=ho1.ext e4
 have z4:=e4.size
 refine Qa (Ye Tryz.underlying27 Z (Own.len (by decide) ho2)) Z (Qa (Yu Z Z Z) Z (Qa (Qe Z) Z (Qd (Qx (Qu Z Z E ?_)))))
 rfl

set_option maxRecDepth 20000 in
theorem s_OpenAt (cx : List Value) (x : Worker) (e : Int) (w : World) (hx : Dat.R w 0 w.heap.size cx x) : Ct Tryz.prog 18 [.agg cx.toArray,.int .i64 e] w (fun v _=>v = .bool (Uu x e)):=by
 refine Yp Tryz.func18 Z Tryz.ntmps18 Z ?_
 obtain ⟨o1,o2,o3,o4,o5,o6,o7,o8,rfl,hd1,hd2,hd3,hd4,hd5,hd6,hd7,hd8⟩:=Worker.op hx
 refine Yb [(0,.agg [o1,o2,o3,o4,o5,o6,o7,o8].toArray),(1,.int .i64 e)] ⟨Z,Z,trivial⟩ ?_
 have E : Ext w w:=Ext.refl w
 refine Qh (Qi [false,true] Z Z (Xb Z Z (fun b1 w1 e1 s1 h1=>?_)))
 have g_b1 : w.heap.size ≤ b1:=by have:=E.size;omega
 have y_b1:=h1.lt
 replace E:=E.trans e1
 have z1:=e1.size
 refine Qa (Qe Z) Z (Qd (Qh (Qh (Qi [true] Z Z (Qa (Qe Z) Z (Qd (Q2 (Y6 (fun (k : Nat)=>[(1,.int .i64 e),(2,.pointer (some ⟨b1,0,none⟩)),(4,.bool false),(5,.int .i64 ((k : Nat) : Int))]) (fun (k : Nat) w'=>Ext w w' ∧ w1.heap.size ≤ w'.heap.size ∧ Blk w' b1 ([o1,o2,o3,o4,o5,o6,o7,o8]) ∧ k ≤ x.inputs.length ∧ (x.inputs.take k).any (fun (r : Record)=>decide (r.stamp.epoch ≤ e)) = false) (fun (k : Nat)=>x.inputs.length - k) 0 ⟨Z,Z,Z,Z,trivial⟩ ⟨E,Nat.le_refl _,h1,Nat.zero_le _,Z⟩ ?_))))))))
 clear E h1
 rintro k w2 ⟨E,z2,h1,hk,hI⟩
 refine Qh (Qh (Qi [true,true,true,true,true] Z Z (Qa (Qb Z) Z (Qa (Qf X5 Z) Z (Qa (Qk Xv Z (h1.one 2 Z)) Z (Qa (Ye Tryz.underlying27 Z (hd3.ext E).len) Z (Qa (Xe Z Z) Z (Qd (Qt Z (fun hc1=>?_) (fun hc1=>?_))))))))))
 ·have hc1n : k < x.inputs.length:=by first | (have h:=of_decide_eq_true hc1;omega) | (have h:=hc1;simp at h;omega)
  refine Qy (Qh (Q2 (Qh (Qi [true,true,true,true,true,true,true,true,true] Z Z (Qa (Qf X5 Z) Z (Qa (Qk Xv Z (h1.one 2 Z)) Z (Qa (Qb Z) Z ?_)))))))
  have hi1 : k < x.inputs.length:=(by first | assumption | omega | (simp only [List.length_set];first | assumption | omega) | (simp only [List.getElem_set_self,List.length_set];first | assumption | omega) | (simp only [Y3,Yj,List.length_set];first | assumption | omega) | (simp;done))
  refine Qa (Q5 (i:=k) Xp Z Z (hd3.rd.ext E) hi1) Z (Qa (Q7 X4 Z) Z (Qa (Q7 Uh Z) Z (Qa (Qk Xi Z (((hd3.rd.ext E).get hi1).one 1 Z)) Z (Qa (Qb Z) Z (Qa (H8 Z Z) Z (Qd (Qt Z (fun hc2=>?_) (fun hc2=>?_))))))))
  ·refine Qh (Qi [true] Z Z (Qa (Qe Z) Z (Qd (Qx (Q0 (Yy (Q0 (Qu Z Z E ?_))))))))
   exact any_yes (p:=fun (r : Record)=>decide (r.stamp.epoch ≤ e)) (by assumption) hc2
  ·refine Qy (Q4 (Yn (Qi [true,true,true] Z Z (Qa (Qb Z) Z (Qa (Yu Z Z (Yw hc1n (hd3.ext E).1.1)) Z (Qa (Qe Z) Z (Qd (Q4 (Yg (k + 1) (by omega) ⟨Z,Z,Z,Z,trivial⟩ ⟨E,(by omega),h1,(by omega),Hp hI (by assumption) hc2⟩)))))))))
 ·have hc1n : ¬ k < x.inputs.length:=by first | (have h:=of_decide_eq_false hc1;omega) | (have h:=hc1;simp at h;omega)
  refine Y5 (Yc (Q8 ?_))
  refine Qh (Qi [true] Z Z (Qa (Qe Z) Z (Qd (Qx (Qu Z Z E ?_)))))
  exact any_no hI (by omega)

set_option maxRecDepth 20000 in
theorem s_IsDone (cx : List Value) (x : Worker) (e : Int) (w : World) (hx : Dat.R w 0 w.heap.size cx x) : Ct Tryz.prog 20 [.agg cx.toArray,.int .i64 e] w (fun v _=>v = .bool (Ce x e)):=by
 refine Yp Tryz.func20 Z Tryz.ntmps20 Z ?_
 obtain ⟨o1,o2,o3,o4,o5,o6,o7,o8,rfl,hd1,hd2,hd3,hd4,hd5,hd6,hd7,hd8⟩:=Worker.op hx
 refine Yb [(0,.agg [o1,o2,o3,o4,o5,o6,o7,o8].toArray),(1,.int .i64 e)] ⟨Z,Z,trivial⟩ ?_
 have E : Ext w w:=Ext.refl w
 refine Qh (Qi [false,true] Z Z (Xb Z Z (fun b1 w1 e1 s1 h1=>?_)))
 have g_b1 : w.heap.size ≤ b1:=by have:=E.size;omega
 have y_b1:=h1.lt
 replace E:=E.trans e1
 have z1:=e1.size
 refine Qa (Qe Z) Z (Qd (Qh (Qh (Qi [true] Z Z (Qa (Qe Z) Z (Qd (Q2 (Y6 (fun (k : Nat)=>[(1,.int .i64 e),(2,.pointer (some ⟨b1,0,none⟩)),(4,.bool false),(5,.int .i64 ((k : Nat) : Int))]) (fun (k : Nat) w'=>Ext w w' ∧ w1.heap.size ≤ w'.heap.size ∧ Blk w' b1 ([o1,o2,o3,o4,o5,o6,o7,o8]) ∧ k ≤ x.dones.length ∧ (x.dones.take k).any (fun (d : Done)=>d.epoch == e) = false) (fun (k : Nat)=>x.dones.length - k) 0 ⟨Z,Z,Z,Z,trivial⟩ ⟨E,Nat.le_refl _,h1,Nat.zero_le _,Z⟩ ?_))))))))
 clear E h1
 rintro k w2 ⟨E,z2,h1,hk,hI⟩
 refine Qh (Qh (Qi [true,true,true,true,true] Z Z (Qa (Qb Z) Z (Qa (Qf Um Z) Z (Qa (Qk Hh Z (h1.one 7 Z)) Z (Qa (Ye Tryz.underlying31 Z (hd8.ext E).len) Z (Qa (Xe Z Z) Z (Qd (Qt Z (fun hc1=>?_) (fun hc1=>?_))))))))))
 ·have hc1n : k < x.dones.length:=by first | (have h:=of_decide_eq_true hc1;omega) | (have h:=hc1;simp at h;omega)
  refine Qy (Qh (Q2 (Qh (Qi [true,true,true,true,true,true,true,true] Z Z (Qa (Qf Um Z) Z (Qa (Qk Hh Z (h1.one 7 Z)) Z (Qa (Qb Z) Z ?_)))))))
  have hi1 : k < x.dones.length:=(by first | assumption | omega | (simp only [List.length_set];first | assumption | omega) | (simp only [List.getElem_set_self,List.length_set];first | assumption | omega) | (simp only [Y3,Yj,List.length_set];first | assumption | omega) | (simp;done))
  refine Qa (Q5 (i:=k) H1 Z Z (hd8.rd.ext E) hi1) Z (Qa (Q7 Tf Z) Z (Qa (Qk Xi Z (((hd8.rd.ext E).get hi1).one 0 Z)) Z (Qa (Qb Z) Z (Qa (Y9 Z Z) Z (Qd (Qt Z (fun hc2=>?_) (fun hc2=>?_)))))))
  ·refine Qh (Qi [true] Z Z (Qa (Qe Z) Z (Qd (Qx (Q0 (Yy (Q0 (Qu Z Z E ?_))))))))
   exact any_yes (p:=fun (d : Done)=>d.epoch == e) (by assumption) hc2
  ·refine Qy (Q4 (Yn (Qi [true,true,true] Z Z (Qa (Qb Z) Z (Qa (Yu Z Z (Yw hc1n (hd8.ext E).1.1)) Z (Qa (Qe Z) Z (Qd (Q4 (Yg (k + 1) (by omega) ⟨Z,Z,Z,Z,trivial⟩ ⟨E,(by omega),h1,(by omega),Hp hI (by assumption) hc2⟩)))))))))
 ·have hc1n : ¬ k < x.dones.length:=by first | (have h:=of_decide_eq_false hc1;omega) | (have h:=hc1;simp at h;omega)
  refine Y5 (Yc (Q8 ?_))
  refine Qh (Qi [true] Z Z (Qa (Qe Z) Z (Qd (Qx (Qu Z Z E ?_)))))
  exact any_no hI (by omega)

set_option maxRecDepth 20000 in
theorem c_PassiveAt (cx : List Value) (x : Worker) (e : Int) (w : World) (hx : Dat.R w 0 w.heap.size cx x) (hb : Q6 x ≤ 1048576) : Ct Tryz.prog 23 [.agg cx.toArray,.int .i64 e] w (fun v _=>v = .bool (!Uu x e && (Ul x e == 0))):=by
 refine Yp Tryz.func23 Z Tryz.ntmps23 Z ?_
 obtain ⟨o1,o2,o3,o4,o5,o6,o7,o8,rfl,hd1,hd2,hd3,hd4,hd5,hd6,hd7,hd8⟩:=Worker.op hx
 refine Yb [(0,.agg [o1,o2,o3,o4,o5,o6,o7,o8].toArray),(1,.int .i64 e)] ⟨Z,Z,trivial⟩ ?_
 have E : Ext w w:=Ext.refl w
 refine Qh (Qi [false,true] Z Z (Xb Z Z (fun b1 w1 e1 s1 h1=>?_)))
 have g_b1 : w.heap.size ≤ b1:=by have:=E.size;omega
 have y_b1:=h1.lt
 replace E:=E.trans e1
 have z1:=e1.size
 refine Qa (Qe Z) Z (Qd (Qh (Qi [true,true,false,true,true,true,true,false,true,true,true] Z Z (Qa (Ql Yh Z h1.at Z) Z (Qa (Qb Z) Z (Qw Tryz.call17 Z (c_OpenAt [o1,o2,o3,o4,o5,o6,o7,o8] x e _ (Worker.mkR x (RdD.any (hd1.ext E)) (RdD.any (hd2.ext E)) (RdD.any (hd3.ext E)) (RdD.any (hd4.ext E)) (RdD.any (hd5.ext E)) (RdD.any (hd6.ext E)) (RdD.any (hd7.ext E)) (RdD.any (hd8.ext E)))) Z (fun _ w2 e2 hv=>?_)))))))
 subst hv
 replace E:=E.trans e2;replace h1:=h1.ext e2
 have z2:=e2.size
 refine Qa (Xn Z) Z (Qa (Qb Z) Z (Xr 5 [(0,.agg [o1,o2,o3,o4,o5,o6,o7,o8].toArray),(1,.int .i64 e),(2,.pointer (some ⟨b1,0,none⟩)),(4,.bool false),(14,.bool ((!(Uu x e)) && ((Ul x e) == 0)))] (fun w'=>Ext w w' ∧ w2.heap.size ≤ w'.heap.size ∧ Blk w' b1 ([o1,o2,o3,o4,o5,o6,o7,o8])) ?_ ?_))
 ·refine Yz (gd:=9) Z Z (fun hg1=>?_) (fun hg1=>?_)
  ·refine Qm Z Z (Ql Yh Z h1.at Z) Z (Qm Z Z (Qb Z) Z ?_)
   refine Xa Z Z ?_
   refine Qw Tryz.call15 Z (c_WorkAt [o1,o2,o3,o4,o5,o6,o7,o8] x e _ (Worker.mkR x (RdD.any (hd1.ext E)) (RdD.any (hd2.ext E)) (RdD.any (hd3.ext E)) (RdD.any (hd4.ext E)) (RdD.any (hd5.ext E)) (RdD.any (hd6.ext E)) (RdD.any (hd7.ext E)) (RdD.any (hd8.ext E))) (by first | omega | (simp only [Q1];omega) | (rw [Q1];done) | (simp only [Q1];done))) Z (fun _ w4 e3 hv=>?_)
   subst hv
   replace E:=E.trans e3;replace h1:=h1.ext e3
   have z3:=e3.size
   refine Qm Z Z (Y9 Z Z) Z (Qa (Qr Z Z) Z (Qn ⟨Z,Z,Z,Z,congrArg (fun b=>some (Value.bool b)) (show ((Ul x e) == 0) = ((!(Uu x e)) && ((Ul x e) == 0)) by first | (rw [hg1] <;> rfl) | (simp [hg1];done) | (simp only [Qq] <;> simp)),trivial⟩ ⟨E,(by omega),h1⟩))
  ·refine Qc Z Z Z Z (Qc Z Z Z Z ?_)
   refine Q3 Z Z Z Z ?_
   refine Qc Z Z Z Z (Qa (Qp Z Z) Z (Qn ⟨Z,Z,Z,Z,congrArg (fun b=>some (Value.bool b)) (show false = ((!(Uu x e)) && ((Ul x e) == 0)) by first | (rw [hg1] <;> rfl) | (simp [hg1];done) | (simp only [Qq] <;> simp)),trivial⟩ ⟨E,(by omega),h1⟩))
 clear E h1
 rintro w3 ⟨E,z4,h1⟩
 refine Qa (Qe Z) Z (Qd (Qx (Qu Z Z E ?_)))
 rfl

set_option maxRecDepth 20000 in
theorem c_StampOk (s : Stamp) (w : World)  : Ct Tryz.prog 64 [.agg (Enc.enc s).toArray] w (fun v _=>v = .bool (Yo s)):=by
 refine Yp Tryz.func64 Z Tryz.ntmps64 Z ?_
 refine Yb [(0,.agg (Enc.enc s).toArray)] ⟨Z,trivial⟩ ?_
 have E : Ext w w:=Ext.refl w
 refine Qh (Qi [false,true] Z Z (Xb Z Z (fun b1 w1 e1 s1 h1=>?_)))
 have g_b1 : w.heap.size ≤ b1:=by have:=E.size;omega
 have y_b1:=h1.lt
 replace E:=E.trans e1
 have z1:=e1.size
 refine Qa (Qe Z) Z (Qd (Qh (Qi [true,true,false,true,true,true,false,true,true] Z Z (Qa (Qf Uh Z) Z (Qa (Qk Xi Z (h1.one 0 Z)) Z (Qw Tryz.call28 Z (c_within s.epoch 0 3 _ ) Z (fun _ w2 e2 hv=>?_)))))))
 subst hv
 replace E:=E.trans e2;replace h1:=h1.ext e2
 have z2:=e2.size
 refine Qa (Qb Z) Z (Xr 4 [(0,.agg (Enc.enc s).toArray),(1,.pointer (some ⟨b1,0,none⟩)),(2,.bool false),(10,.bool ((Y2 s.epoch 0 3) && (Y2 s.turn 0 6)))] (fun w'=>Ext w w' ∧ w2.heap.size ≤ w'.heap.size ∧ Blk w' b1 (Enc.enc s)) ?_ ?_)
 ·refine Yz (gd:=6) Z Z (fun hg1=>?_) (fun hg1=>?_)
  ·refine Qm Z Z (Qf U8 Z) Z (Qm Z Z (Qk Xi Z (h1.one 1 Z)) Z ?_)
   refine Xa Z Z ?_
   refine Qw Tryz.call28 Z (c_within s.turn 0 6 _ ) Z (fun _ w4 e3 hv=>?_)
   subst hv
   replace E:=E.trans e3;replace h1:=h1.ext e3
   have z3:=e3.size
   refine Qa (Qr Z Z) Z (Qn ⟨Z,Z,Z,congrArg (fun b=>some (Value.bool b)) (show (Y2 s.turn 0 6) = ((Y2 s.epoch 0 3) && (Y2 s.turn 0 6)) by first | (rw [hg1] <;> rfl) | (simp [hg1];done) | (simp only [Qq] <;> simp)),trivial⟩ ⟨E,(by omega),h1⟩)
  ·refine Qc Z Z Z Z (Qc Z Z Z Z ?_)
   refine Q3 Z Z Z Z ?_
   refine Qa (Qp Z Z) Z (Qn ⟨Z,Z,Z,congrArg (fun b=>some (Value.bool b)) (show false = ((Y2 s.epoch 0 3) && (Y2 s.turn 0 6)) by first | (rw [hg1] <;> rfl) | (simp [hg1];done) | (simp only [Qq] <;> simp)),trivial⟩ ⟨E,(by omega),h1⟩)
 clear E h1
 rintro w3 ⟨E,z4,h1⟩
 refine Qa (Qe Z) Z (Qd (Qx (Qu Z Z E ?_)))
 rfl

set_option maxRecDepth 20000 in
theorem s_StampOk (s : Stamp) (w : World)  : Ct Tryz.prog 75 [.agg (Enc.enc s).toArray] w (fun v _=>v = .bool (Yo s)):=by
 refine Yp Tryz.func75 Z Tryz.ntmps75 Z ?_
 refine Yb [(0,.agg (Enc.enc s).toArray)] ⟨Z,trivial⟩ ?_
 have E : Ext w w:=Ext.refl w
 refine Qh (Qi [false,true] Z Z (Xb Z Z (fun b1 w1 e1 s1 h1=>?_)))
 have g_b1 : w.heap.size ≤ b1:=by have:=E.size;omega
 have y_b1:=h1.lt
 replace E:=E.trans e1
 have z1:=e1.size
 refine Qa (Qe Z) Z (Qd (Qh (Qi [true,true,false,true,true,true,false,true,true] Z Z (Qa (Qf Uh Z) Z (Qa (Qk Xi Z (h1.one 0 Z)) Z (Qw Tryz.call32 Z (s_l01In s.epoch 0 3 _ ) Z (fun _ w2 e2 hv=>?_)))))))
 subst hv
 replace E:=E.trans e2;replace h1:=h1.ext e2
 have z2:=e2.size
 refine Qa (Qb Z) Z (Xr 4 [(0,.agg (Enc.enc s).toArray),(1,.pointer (some ⟨b1,0,none⟩)),(2,.bool false),(10,.bool ((Y2 s.epoch 0 3) && (Y2 s.turn 0 6)))] (fun w'=>Ext w w' ∧ w2.heap.size ≤ w'.heap.size ∧ Blk w' b1 (Enc.enc s)) ?_ ?_)
 ·refine Yz (gd:=6) Z Z (fun hg1=>?_) (fun hg1=>?_)
  ·refine Qm Z Z (Qf U8 Z) Z (Qm Z Z (Qk Xi Z (h1.one 1 Z)) Z ?_)
   refine Xa Z Z ?_
   refine Qw Tryz.call32 Z (s_l01In s.turn 0 6 _ ) Z (fun _ w4 e3 hv=>?_)
   subst hv
   replace E:=E.trans e3;replace h1:=h1.ext e3
   have z3:=e3.size
   refine Qa (Qr Z Z) Z (Qn ⟨Z,Z,Z,congrArg (fun b=>some (Value.bool b)) (show (Y2 s.turn 0 6) = ((Y2 s.epoch 0 3) && (Y2 s.turn 0 6)) by first | (rw [hg1] <;> rfl) | (simp [hg1];done) | (simp only [Qq] <;> simp)),trivial⟩ ⟨E,(by omega),h1⟩)
  ·refine Qc Z Z Z Z (Qc Z Z Z Z ?_)
   refine Q3 Z Z Z Z ?_
   refine Qa (Qp Z Z) Z (Qn ⟨Z,Z,Z,congrArg (fun b=>some (Value.bool b)) (show false = ((Y2 s.epoch 0 3) && (Y2 s.turn 0 6)) by first | (rw [hg1] <;> rfl) | (simp [hg1];done) | (simp only [Qq] <;> simp)),trivial⟩ ⟨E,(by omega),h1⟩)
 clear E h1
 rintro w3 ⟨E,z4,h1⟩
 refine Qa (Qe Z) Z (Qd (Qx (Qu Z Z E ?_)))
 rfl

set_option maxRecDepth 20000 in
theorem c_itemOk (a : Int) (b : Int) (w : World)  : Ct Tryz.prog 72 [.int .i64 a,.int .i64 b] w (fun v _=>v = .bool (Y2 a 0 99 && Y2 b 0 999)):=by
 refine Yp Tryz.func72 Z Tryz.ntmps72 Z ?_
 refine Yb [(0,.int .i64 a),(1,.int .i64 b)] ⟨Z,Z,trivial⟩ ?_
 have E : Ext w w:=Ext.refl w
 refine Qh (Qi [true] Z Z (Qa (Qe Z) Z (Qd (Qh (Qi [true,false,true,true,false,true,true] Z Z (Qa (Qb Z) Z (Qw Tryz.call28 Z (c_within a 0 99 _ ) Z (fun _ w1 e1 hv=>?_))))))))
 subst hv
 replace E:=E.trans e1
 have z1:=e1.size
 refine Qa (Qb Z) Z (Xr 3 [(0,.int .i64 a),(1,.int .i64 b),(4,.bool false),(10,.bool ((Y2 a 0 99) && (Y2 b 0 999)))] (fun w'=>Ext w w' ∧ w1.heap.size ≤ w'.heap.size) ?_ ?_)
 ·refine Yz (gd:=7) Z Z (fun hg1=>?_) (fun hg1=>?_)
  ·refine Qm Z Z (Qb Z) Z ?_
   refine Xa Z Z ?_
   refine Qw Tryz.call28 Z (c_within b 0 999 _ ) Z (fun _ w3 e2 hv=>?_)
   subst hv
   replace E:=E.trans e2
   have z2:=e2.size
   refine Qa (Qr Z Z) Z (Qn ⟨Z,Z,Z,congrArg (fun b=>some (Value.bool b)) (show (Y2 b 0 999) = ((Y2 a 0 99) && (Y2 b 0 999)) by first | (rw [hg1] <;> rfl) | (simp [hg1];done) | (simp only [Qq] <;> simp)),trivial⟩ ⟨E,(by omega)⟩)
  ·refine Qc Z Z Z Z ?_
   refine Q3 Z Z Z Z ?_
   refine Qa (Qp Z Z) Z (Qn ⟨Z,Z,Z,congrArg (fun b=>some (Value.bool b)) (show false = ((Y2 a 0 99) && (Y2 b 0 999)) by first | (rw [hg1] <;> rfl) | (simp [hg1];done) | (simp only [Qq] <;> simp)),trivial⟩ ⟨E,(by omega)⟩)
 clear E
 rintro w2 ⟨E,z3⟩
 refine Qa (Qe Z) Z (Qd (Qx (Qu Z Z E ?_)))
 rfl

set_option maxRecDepth 20000 in
theorem c_RecordOk (r : Record) (w : World)  : Ct Tryz.prog 56 [.agg (Enc.enc r).toArray] w (fun v _=>v = .bool (Yx r)):=by
 refine Yp Tryz.func56 Z Tryz.ntmps56 Z ?_
 refine Yb [(0,.agg (Enc.enc r).toArray)] ⟨Z,trivial⟩ ?_
 have E : Ext w w:=Ext.refl w
 refine Qh (Qi [false,true] Z Z (Xb Z Z (fun b1 w1 e1 s1 h1=>?_)))
 have g_b1 : w.heap.size ≤ b1:=by have:=E.size;omega
 have y_b1:=h1.lt
 replace E:=E.trans e1
 have z1:=e1.size
 refine Qa (Qe Z) Z (Qd (Qh (Qi [true,true,false,true,true,true,false,true,true,true,true,true,true,false,true,true] Z Z (Qa (Qf Ve Z) Z (Qa (Qk Xi Z (h1.one 0 Z)) Z (Qw Tryz.call28 Z (c_within r.op 0 7 _ ) Z (fun _ w2 e2 hv=>?_)))))))
 subst hv
 replace E:=E.trans e2;replace h1:=h1.ext e2
 have z2:=e2.size
 refine Qa (Qb Z) Z (Xr 11 [(0,.agg (Enc.enc r).toArray),(1,.pointer (some ⟨b1,0,none⟩)),(2,.bool false),(17,.bool (((Y2 r.op 0 7) && (Yo r.stamp)) && (Y2 r.key 0 99 && Y2 r.val 0 999)))] (fun w'=>Ext w w' ∧ w2.heap.size ≤ w'.heap.size ∧ Blk w' b1 (Enc.enc r)) ?_ ?_)
 ·refine Yz (gd:=6) Z Z (fun hg1=>?_) (fun hg1=>?_)
  ·refine Qm Z Z (Qf X4 Z) Z (Qm Z Z (Ql Xs Z (h1.part 1 [.int .i64 r.stamp.epoch,.int .i64 r.stamp.turn] Z) Z) Z ?_)
   refine Xa Z Z ?_
   refine Qw Tryz.call64 Z (c_StampOk r.stamp _ ) Z (fun _ w4 e3 hv=>?_)
   subst hv
   replace E:=E.trans e3;replace h1:=h1.ext e3
   have z3:=e3.size
   refine Qa (Qr Z Z) Z (Qa (Qb Z) Z (Yz (gd:=11) Z Z (fun hg2=>?_) (fun hg2=>?_)))
   ·refine Qm Z Z (Qf Th Z) Z (Qm Z Z (Qk Xi Z (h1.one 3 Z)) Z (Qm Z Z (Qf Tg Z) Z (Qm Z Z (Qk Xi Z (h1.one 4 Z)) Z ?_)))
    refine Xa Z Z ?_
    refine Qw Tryz.call72 Z (c_itemOk r.key r.val _ ) Z (fun _ w5 e4 hv=>?_)
    subst hv
    replace E:=E.trans e4;replace h1:=h1.ext e4
    have z4:=e4.size
    refine Qa (Qr Z Z) Z (Qn ⟨Z,Z,Z,congrArg (fun b=>some (Value.bool b)) (show (Y2 r.key 0 99 && Y2 r.val 0 999) = (((Y2 r.op 0 7) && (Yo r.stamp)) && (Y2 r.key 0 99 && Y2 r.val 0 999)) by first | (rw [hg1,hg2] <;> rfl) | (simp [hg1,hg2];done) | (simp only [Qq] <;> simp)),trivial⟩ ⟨E,(by omega),h1⟩)
   ·refine Qc Z Z Z Z (Qc Z Z Z Z (Qc Z Z Z Z (Qc Z Z Z Z ?_)))
    refine Q3 Z Z Z Z ?_
    refine Qa (Qp Z Z) Z (Qn ⟨Z,Z,Z,congrArg (fun b=>some (Value.bool b)) (show false = (((Y2 r.op 0 7) && (Yo r.stamp)) && (Y2 r.key 0 99 && Y2 r.val 0 999)) by first | (rw [hg1,hg2] <;> rfl) | (simp [hg1,hg2];done) | (simp only [Qq] <;> simp)),trivial⟩ ⟨E,(by omega),h1⟩)
  ·refine Qc Z Z Z Z (Qc Z Z Z Z ?_)
   refine Q3 Z Z Z Z ?_
   refine Qa (Qp Z Z) Z (Qa (Qb Z) Z (Qc Z Z Z Z (Qc Z Z Z Z (Qc Z Z Z Z (Qc Z Z Z Z (Q3 Z Z Z Z (Qa (Qp Z Z) Z (Qn ⟨Z,Z,Z,congrArg (fun b=>some (Value.bool b)) (show false = (((Y2 r.op 0 7) && (Yo r.stamp)) && (Y2 r.key 0 99 && Y2 r.val 0 999)) by first | (rw [hg1] <;> rfl) | (simp [hg1];done) | (simp only [Qq] <;> simp)),trivial⟩ ⟨E,(by omega),h1⟩))))))))
 clear E h1
 rintro w3 ⟨E,z5,h1⟩
 refine Qa (Qe Z) Z (Qd (Qx (Qu Z Z E ?_)))
 rfl

set_option maxRecDepth 20000 in
theorem s_RecordOk (r : Record) (w : World)  : Ct Tryz.prog 61 [.agg (Enc.enc r).toArray] w (fun v _=>v = .bool (Yx r)):=by
 refine Yp Tryz.func61 Z Tryz.ntmps61 Z ?_
 refine Yb [(0,.agg (Enc.enc r).toArray)] ⟨Z,trivial⟩ ?_
 have E : Ext w w:=Ext.refl w
 refine Qh (Qi [false,true] Z Z (Xb Z Z (fun b1 w1 e1 s1 h1=>?_)))
 have g_b1 : w.heap.size ≤ b1:=by have:=E.size;omega
 have y_b1:=h1.lt
 replace E:=E.trans e1
 have z1:=e1.size
 refine Qa (Qe Z) Z (Qd (Qh (Qi [true,true,false,true,true,true,false,true,true,true,true,false,true,true,true,true,false,true,true] Z Z (Qa (Qf Ve Z) Z (Qa (Qk Xi Z (h1.one 0 Z)) Z (Qw Tryz.call32 Z (s_l01In r.op 0 7 _ ) Z (fun _ w2 e2 hv=>?_)))))))
 subst hv
 replace E:=E.trans e2;replace h1:=h1.ext e2
 have z2:=e2.size
 refine Qa (Qb Z) Z (Xr 14 [(0,.agg (Enc.enc r).toArray),(1,.pointer (some ⟨b1,0,none⟩)),(2,.bool false),(20,.bool ((((Y2 r.op 0 7) && (Yo r.stamp)) && (Y2 r.key 0 99)) && (Y2 r.val 0 999)))] (fun w'=>Ext w w' ∧ w2.heap.size ≤ w'.heap.size ∧ Blk w' b1 (Enc.enc r)) ?_ ?_)
 ·refine Yz (gd:=6) Z Z (fun hg1=>?_) (fun hg1=>?_)
  ·refine Qm Z Z (Qf X4 Z) Z (Qm Z Z (Ql Xs Z (h1.part 1 [.int .i64 r.stamp.epoch,.int .i64 r.stamp.turn] Z) Z) Z ?_)
   refine Xa Z Z ?_
   refine Qw Tryz.call75 Z (s_StampOk r.stamp _ ) Z (fun _ w4 e3 hv=>?_)
   subst hv
   replace E:=E.trans e3;replace h1:=h1.ext e3
   have z3:=e3.size
   refine Qa (Qr Z Z) Z (Qa (Qb Z) Z (Yz (gd:=11) Z Z (fun hg2=>?_) (fun hg2=>?_)))
   ·refine Qm Z Z (Qf Th Z) Z (Qm Z Z (Qk Xi Z (h1.one 3 Z)) Z ?_)
    refine Xa Z Z ?_
    refine Qw Tryz.call32 Z (s_l01In r.key 0 99 _ ) Z (fun _ w5 e4 hv=>?_)
    subst hv
    replace E:=E.trans e4;replace h1:=h1.ext e4
    have z4:=e4.size
    refine Qa (Qr Z Z) Z (Qa (Qb Z) Z (Yz (gd:=16) Z Z (fun hg3=>?_) (fun hg3=>?_)))
    ·refine Qm Z Z (Qf Tg Z) Z (Qm Z Z (Qk Xi Z (h1.one 4 Z)) Z ?_)
     refine Xa Z Z ?_
     refine Qw Tryz.call32 Z (s_l01In r.val 0 999 _ ) Z (fun _ w6 e5 hv=>?_)
     subst hv
     replace E:=E.trans e5;replace h1:=h1.ext e5
     have z5:=e5.size
     refine Qa (Qr Z Z) Z (Qn ⟨Z,Z,Z,congrArg (fun b=>some (Value.bool b)) (show (Y2 r.val 0 999) = ((((Y2 r.op 0 7) && (Yo r.stamp)) && (Y2 r.key 0 99)) && (Y2 r.val 0 999)) by first | (rw [hg1,hg2,hg3] <;> rfl) | (simp [hg1,hg2,hg3];done) | (simp only [Qq] <;> simp)),trivial⟩ ⟨E,(by omega),h1⟩)
    ·refine Qc Z Z Z Z (Qc Z Z Z Z ?_)
     refine Q3 Z Z Z Z ?_
     refine Qa (Qp Z Z) Z (Qn ⟨Z,Z,Z,congrArg (fun b=>some (Value.bool b)) (show false = ((((Y2 r.op 0 7) && (Yo r.stamp)) && (Y2 r.key 0 99)) && (Y2 r.val 0 999)) by first | (rw [hg1,hg2,hg3] <;> rfl) | (simp [hg1,hg2,hg3];done) | (simp only [Qq] <;> simp)),trivial⟩ ⟨E,(by omega),h1⟩)
   ·refine Qc Z Z Z Z (Qc Z Z Z Z ?_)
    refine Q3 Z Z Z Z ?_
    refine Qa (Qp Z Z) Z (Qa (Qb Z) Z (Qc Z Z Z Z (Qc Z Z Z Z (Q3 Z Z Z Z (Qa (Qp Z Z) Z (Qn ⟨Z,Z,Z,congrArg (fun b=>some (Value.bool b)) (show false = ((((Y2 r.op 0 7) && (Yo r.stamp)) && (Y2 r.key 0 99)) && (Y2 r.val 0 999)) by first | (rw [hg1,hg2] <;> rfl) | (simp [hg1,hg2];done) | (simp only [Qq] <;> simp)),trivial⟩ ⟨E,(by omega),h1⟩))))))
  ·refine Qc Z Z Z Z (Qc Z Z Z Z ?_)
   refine Q3 Z Z Z Z ?_
   refine Qa (Qp Z Z) Z (Qa (Qb Z) Z (Qc Z Z Z Z (Qc Z Z Z Z (Q3 Z Z Z Z (Qa (Qp Z Z) Z (Qa (Qb Z) Z (Qc Z Z Z Z (Qc Z Z Z Z (Q3 Z Z Z Z (Qa (Qp Z Z) Z (Qn ⟨Z,Z,Z,congrArg (fun b=>some (Value.bool b)) (show false = ((((Y2 r.op 0 7) && (Yo r.stamp)) && (Y2 r.key 0 99)) && (Y2 r.val 0 999)) by first | (rw [hg1] <;> rfl) | (simp [hg1];done) | (simp only [Qq] <;> simp)),trivial⟩ ⟨E,(by omega),h1⟩)))))))))))
 clear E h1
 rintro w3 ⟨E,z6,h1⟩
 refine Qa (Qe Z) Z (Qd (Qx (Qu Z Z E ?_)))
 simp [Yx,Bool.and_assoc]

set_option maxRecDepth 20000 in
theorem c_isNode (cg : List Value) (g : Graph) (op : Int) (w : World) (hg : Dat.R w 0 w.heap.size cg g) : Ct Tryz.prog 57 [.agg cg.toArray,.int .i64 op] w (fun v _=>v = .bool (Xw g op)):=by
 refine Yp Tryz.func57 Z Tryz.ntmps57 Z ?_
 obtain ⟨o1,rfl,hd1⟩:=Graph.op hg
 refine Yb [(0,.agg [o1,.int .i64 g.workers,.int .i64 g.cap].toArray),(1,.int .i64 op)] ⟨Z,Z,trivial⟩ ?_
 have E : Ext w w:=Ext.refl w
 refine Qh (Qi [false,true] Z Z (Xb Z Z (fun b1 w1 e1 s1 h1=>?_)))
 have g_b1 : w.heap.size ≤ b1:=by have:=E.size;omega
 have y_b1:=h1.lt
 replace E:=E.trans e1
 have z1:=e1.size
 refine Qa (Qe Z) Z (Qd (Qh (Qi [true,true,true,true,true,false,true] Z Z (Qa (Qb Z) Z (Qa (Qf Uj Z) Z (Qa (Qk G8 Z (h1.one 0 Z)) Z (Qa (Ye Tryz.underlying24 Z (hd1.ext E).len) Z (Qa (Gh Z Z Z) Z (Qw Tryz.call28 Z (c_within op 0 (IntKind.i64.wrap (((g.nodes.length : Nat) : Int) - 1)) _ ) Z (fun _ w2 e2 hv=>?_))))))))))
 subst hv
 replace E:=E.trans e2;replace h1:=h1.ext e2
 have z2:=e2.size
 refine Qa (Qe Z) Z (Qd (Qx (Qu Z Z E ?_)))
 have a1:=hd1.1.1
 unfold maxLen at a1
 rw [Ke (by omega) (by omega)];rfl

set_option maxRecDepth 20000 in
theorem s_NextTurn (s : Stamp) (w : World)  : Ct Tryz.prog 117 [.agg (Enc.enc s).toArray] w (fun v _=>v = .tuple [.agg (Enc.enc ((Y8 s).1)).toArray,.bool ((Y8 s).2)].toArray):=by
 refine Yp Tryz.func117 Z Tryz.ntmps117 Z ?_
 refine Yb [(0,.agg (Enc.enc s).toArray)] ⟨Z,trivial⟩ ?_
 have E : Ext w w:=Ext.refl w
 refine Qh (Qi [false,false,true] Z Z (Xb Z Z (fun b1 w1 e1 s1 h1=>?_)))
 have g_b1 : w.heap.size ≤ b1:=by have:=E.size;omega
 have y_b1:=h1.lt
 replace E:=E.trans e1
 have z1:=e1.size
 refine Yd Xs Z (fun b2 w2 e2 s2 h2=>?_)
 have g_b2 : w.heap.size ≤ b2:=by have:=E.size;omega
 have y_b2:=h2.lt
 replace E:=E.trans e2;replace h1:=h1.ext e2
 have z2:=e2.size
 refine Qa (Qe Z) Z (Qd (Qh (Qh (Qi [true,false,true,true,true,true,true,true] Z Z (Qa (Ql Xs Z h1.at Z) Z (Qw Tryz.call75 Z (s_StampOk s _ ) Z (fun _ w3 e3 hv=>?_)))))))
 subst hv
 replace E:=E.trans e3;replace h1:=h1.ext e3;replace h2:=h2.ext e3
 have z3:=e3.size
 refine Qa (Xn Z) Z (Qa (Qb Z) Z (Xr 4 [(0,.agg (Enc.enc s).toArray),(1,.pointer (some ⟨b1,0,none⟩)),(2,.pointer (some ⟨b2,0,none⟩)),(3,.bool false),(11,.bool ((!(Yo s)) || (decide (6 ≤ s.turn))))] (fun w'=>w3 = w') ?_ ?_))
 ·refine Yz (gd:=7) Z Z (fun hg1=>?_) (fun hg1=>?_)
  ·refine Qc Z Z Z Z (Qc Z Z Z Z (Qc Z Z Z Z (Qa (Qr Z Z) Z (Qn ⟨Z,Z,Z,Z,congrArg (fun b=>some (Value.bool b)) (show true = ((!(Yo s)) || (decide (6 ≤ s.turn))) by first | (rw [hg1] <;> rfl) | (simp [hg1];done) | (simp only [Qq] <;> simp)),trivial⟩ Z))))
  ·refine Qm Z Z (Qf U8 Z) Z (Qm Z Z (Qk Xi Z (h1.one 1 Z)) Z (Qm Z Z (Hs Z Z) Z (Qa (Qp Z Z) Z (Qn ⟨Z,Z,Z,Z,congrArg (fun b=>some (Value.bool b)) (show (decide (6 ≤ s.turn)) = ((!(Yo s)) || (decide (6 ≤ s.turn))) by first | (rw [hg1] <;> rfl) | (simp [hg1];done) | (simp only [Qq] <;> simp)),trivial⟩ Z))))
 rintro _ rfl
 refine Qd (Qt Z (fun hc1=>?_) (fun hc1=>?_))
 ·refine Qh (Qi [true,false,true] Z Z (Qa (Ql Xs Z h1.at Z) Z (Qs (cs':=[.int .i64 s.epoch,.int .i64 s.turn]) Xs Z Z Z Z h2 (Nat.le_of_ble_eq_true Z) Z (fun w5 m1 h2'=>?_))))
  replace h2:=h2'
  replace E:=E.step m1 (fun g hg=>by cases hg;omega);replace h1:=h1.mod m1 (fun g hg=>by cases hg;omega)
  have z4:=m1.size
  refine Qa (Qe Z) Z (Qd (Qx (Y1 (l:=[.cell 2 53,.tmp 3]) (vs:=[.agg (Enc.enc s).toArray,.bool false]) Z ⟨.cell Z (Qv Xs h2.at Z),.tmp Z,trivial⟩ Z E ?_)))
  simp only [Y8,if_pos (nt_ge hc1)]
 ·refine Qy (Qh (Qi [true,true,true,true,false] Z Z (Qa (Qf U8 Z) Z (Qa (Qk Xi Z (h1.one 1 Z)) Z (Qa (Yu Z Z Z) Z (Qa (Qf U8 Z) Z (Xf (cs':=[.int .i64 s.epoch,.int .i64 (IntKind.i64.wrap (s.turn + 1))]) Xi Z Z Z h1 (Nat.le_of_ble_eq_true Z) Z (fun w6 m2 h1'=>?_))))))))
  replace h1:=h1'
  replace E:=E.step m2 (fun g hg=>by cases hg;omega);replace h2:=h2.mod m2 (fun g hg=>by cases hg;omega)
  have z5:=m2.size
  refine Qd (Qh (Qi [true,false,true] Z Z (Qa (Ql Xs Z h1.at Z) Z (Qs (cs':=[.int .i64 ((⟨s.epoch,IntKind.i64.wrap (s.turn + 1)⟩ : Stamp).epoch),.int .i64 ((⟨s.epoch,IntKind.i64.wrap (s.turn + 1)⟩ : Stamp).turn)]) Xs Z Z Z Z h2 (Nat.le_of_ble_eq_true Z) Z (fun w7 m3 h2'=>?_)))))
  replace h2:=h2'
  replace E:=E.step m3 (fun g hg=>by cases hg;omega);replace h1:=h1.mod m3 (fun g hg=>by cases hg;omega)
  have z6:=m3.size
  refine Qa (Qe Z) Z (Qd (Qx (Y1 (l:=[.cell 2 53,.tmp 3]) (vs:=[.agg (Enc.enc (⟨s.epoch,IntKind.i64.wrap (s.turn + 1)⟩ : Stamp)).toArray,.bool true]) Z ⟨.cell Z (Qv Xs h2.at Z),.tmp Z,trivial⟩ Z E ?_)))
  replace hc1:=nt_lt hc1
  simp only [Y8,if_neg (Bool.eq_false_iff.1 hc1)]
  simp only [Bool.or_eq_false_iff,Bool.not_eq_false'] at hc1
  have ht:=win_hi hc1.1
  rw [Ke (by omega) (by omega)]

set_option maxRecDepth 20000 in
theorem c_opsOk (cg : List Value) (g : Graph) (vxs : Value) (xs : List Record) (w : World) (hg : Dat.R w 0 w.heap.size cg g) (hxs : RdS w vxs xs) : Ct Tryz.prog 26 [.agg cg.toArray,vxs] w (fun v _=>v = .bool (xs.all (X0 g))):=by
 refine Yp Tryz.func26 Z Tryz.ntmps26 Z ?_
 obtain ⟨o1,rfl,hd1⟩:=Graph.op hg
 refine Yb [(0,.agg [o1,.int .i64 g.workers,.int .i64 g.cap].toArray),(1,vxs)] ⟨Z,Z,trivial⟩ ?_
 have E : Ext w w:=Ext.refl w
 refine Qh (Qi [false,true] Z Z (Xb Z Z (fun b1 w1 e1 s1 h1=>?_)))
 have g_b1 : w.heap.size ≤ b1:=by have:=E.size;omega
 have y_b1:=h1.lt
 replace E:=E.trans e1
 have z1:=e1.size
 refine Qa (Qe Z) Z (Qd (Qh (Qh (Qi [true,true,true] Z Z (Qa (Qb Z) Z (Qa (Ye Tryz.underlying27 Z (hxs.ext E).len) Z (Qa (Qb Z) Z (Qd (Q2 (Y6 (fun (k : Nat)=>[(2,.pointer (some ⟨b1,0,none⟩)),(4,.bool false),(7,vxs),(8,.int .i64 ((xs.length : Nat) : Int)),(9,.int .i64 ((k : Nat) : Int))]) (fun (k : Nat) w'=>Ext w w' ∧ w1.heap.size ≤ w'.heap.size ∧ Blk w' b1 ([o1,.int .i64 g.workers,.int .i64 g.cap]) ∧ k ≤ xs.length ∧ (xs.take k).all (X0 g) = true) (fun (k : Nat)=>xs.length - k) 0 ⟨Z,Z,Z,Z,Z,trivial⟩ ⟨E,Nat.le_refl _,h1,Nat.zero_le _,Z⟩ ?_))))))))))
 clear E h1
 rintro k w2 ⟨E,z2,h1,hk,hI⟩
 refine Qh (Qi [true] Z Z (Qa (Xe Z Z) Z (Qd (Qh (Qt Z (fun hc1=>?_) (fun hc1=>?_))))))
 ·have hc1n : k < xs.length:=by first | (have h:=of_decide_eq_true hc1;omega) | (have h:=hc1;simp at h;omega)
  refine Qy (Qh (Q2 (Qh (Qi [true,true,false,false] Z Z ?_))))
  have hi1 : k < xs.length:=(by first | assumption | omega | (simp only [List.length_set];first | assumption | omega) | (simp only [List.getElem_set_self,List.length_set];first | assumption | omega) | (simp only [Y3,Yj,List.length_set];first | assumption | omega) | (simp;done))
  refine Qa (Q5 (i:=k) Xp Z Z (hxs.ext E) hi1) Z (Qa (Ql Xq Z ((hxs.ext E).get hi1) Z) Z (Yd Xq Z (fun b2 w3 e2 s2 h2=>?_)))
  have g_b2 : w.heap.size ≤ b2:=by have:=E.size;omega
  have y_b2:=h2.lt
  replace E:=E.trans e2;replace h1:=h1.ext e2
  have z3:=e2.size
  refine Qs (cs':=[.int .i64 ((xs[k]'hi1).op),.int .i64 (((xs[k]'hi1).stamp).epoch),.int .i64 (((xs[k]'hi1).stamp).turn),.int .i64 ((xs[k]'hi1).key),.int .i64 ((xs[k]'hi1).val)]) Xq Z Z Z Z h2 (Nat.le_of_ble_eq_true Z) Z (fun w4 m1 h2'=>?_)
  replace h2:=h2'
  replace E:=E.step m1 (fun g hg=>by cases hg;omega);replace h1:=h1.mod m1 (fun g hg=>by cases hg;omega)
  have z4:=m1.size
  refine Qd (Qh (Qi [true,false,true,true,true,true,true,false,true,true] Z Z (Qa (Ql Xq Z h2.at Z) Z (Qw Tryz.call56 Z (c_RecordOk (xs[k]'hi1) _ ) Z (fun _ w5 e3 hv=>?_)))))
  subst hv
  replace E:=E.trans e3;replace h1:=h1.ext e3;replace h2:=h2.ext e3
  have z5:=e3.size
  refine Qa (Xn Z) Z (Qa (Qb Z) Z (Xr 6 [(2,.pointer (some ⟨b1,0,none⟩)),(4,.bool false),(6,.pointer (some ⟨b2,0,none⟩)),(7,vxs),(8,.int .i64 ((xs.length : Nat) : Int)),(9,.int .i64 ((k : Nat) : Int)),(10,.bool (decide (((k : Nat) : Int) < ((xs.length : Nat) : Int)))),(11,.pointer (some ⟨Kk vxs,Ue vxs + k * 5,none⟩)),(12,.agg (Enc.enc (xs[k]'hi1)).toArray),(22,.bool ((!(Yx (xs[k]'hi1))) || (!(Xw g ((xs[k]'hi1).op)))))] (fun w'=>Ext w w' ∧ w5.heap.size ≤ w'.heap.size ∧ Blk w' b1 ([o1,.int .i64 g.workers,.int .i64 g.cap]) ∧ Blk w' b2 [.int .i64 ((xs[k]'hi1).op),.int .i64 (((xs[k]'hi1).stamp).epoch),.int .i64 (((xs[k]'hi1).stamp).turn),.int .i64 ((xs[k]'hi1).key),.int .i64 ((xs[k]'hi1).val)]) ?_ ?_))
  ·refine Yz (gd:=16) Z Z (fun hg1=>?_) (fun hg1=>?_)
   ·refine Qc Z Z Z Z (Qc Z Z Z Z (Qc Z Z Z Z ?_))
    refine Q3 Z Z Z Z ?_
    refine Qc Z Z Z Z (Qa (Qr Z Z) Z (Qn ⟨Z,Z,Z,Z,Z,Z,Z,Z,Z,congrArg (fun b=>some (Value.bool b)) (show true = ((!(Yx (xs[k]'hi1))) || (!(Xw g ((xs[k]'hi1).op)))) by first | (rw [hg1] <;> rfl) | (simp [hg1];done) | (simp only [Qq] <;> simp)),trivial⟩ ⟨E,(by omega),h1,h2⟩))
   ·refine Qm Z Z (Ql Xz Z h1.at Z) Z (Qm Z Z (Qf Ve Z) Z (Qm Z Z (Qk Xi Z (h2.one 0 Z)) Z ?_))
    refine Xa Z Z ?_
    refine Qw Tryz.call57 Z (c_isNode [o1,.int .i64 g.workers,.int .i64 g.cap] g ((xs[k]'hi1).op) _ (Graph.mkR g (RdD.any (hd1.ext E)))) Z (fun _ w7 e4 hv=>?_)
    subst hv
    replace E:=E.trans e4;replace h1:=h1.ext e4;replace h2:=h2.ext e4
    have z6:=e4.size
    refine Qm Z Z (Xn Z) Z (Qa (Qp Z Z) Z (Qn ⟨Z,Z,Z,Z,Z,Z,Z,Z,Z,congrArg (fun b=>some (Value.bool b)) (show (!(Xw g ((xs[k]'hi1).op))) = ((!(Yx (xs[k]'hi1))) || (!(Xw g ((xs[k]'hi1).op)))) by first | (rw [hg1] <;> rfl) | (simp [hg1];done) | (simp only [Qq] <;> simp)),trivial⟩ ⟨E,(by omega),h1,h2⟩))
  clear E h1 h2
  rintro w6 ⟨E,z7,h1,h2⟩
  refine Qd (Qt Z (fun hc2=>?_) (fun hc2=>?_))
  ·refine Qh (Qi [true] Z Z (Qa (Qe Z) Z (Qd (Qx (Q0 (Yy (Q0 (Qu Z Z E ?_))))))))
   exact all_no (by assumption) (kx hc2)
  ·refine Qy (Q4 (Yn (Qi [true,true] Z Z (Qa (Yu Z Z (Yw hc1n hxs.1)) Z (Qa (Qb Z) Z (Qd (Q4 (Yg (k + 1) (by omega) ⟨Z,Z,Z,Z,Z,trivial⟩ ⟨E,(by omega),h1,(by omega),Vl hI (by assumption) (ky hc2)⟩))))))))
 ·have hc1n : ¬ k < xs.length:=by first | (have h:=of_decide_eq_false hc1;omega) | (have h:=hc1;simp at h;omega)
  refine Y5 (Yc (Q8 ?_))
  refine Qh (Qi [true] Z Z (Qa (Qe Z) Z (Qd (Qx (Qu Z Z E ?_)))))
  exact all_yes hI (by omega)

set_option maxRecDepth 20000 in
theorem s_l12Records (cg : List Value) (g : Graph) (vxs : Value) (xs : List Record) (w : World) (hg : Dat.R w 0 w.heap.size cg g) (hxs : RdS w vxs xs) : Ct Tryz.prog 30 [.agg cg.toArray,vxs] w (fun v _=>v = .bool (xs.all (X0 g))):=by
 refine Yp Tryz.func30 Z Tryz.ntmps30 Z ?_
 obtain ⟨o1,rfl,hd1⟩:=Graph.op hg
 refine Yb [(0,.agg [o1,.int .i64 g.workers,.int .i64 g.cap].toArray),(1,vxs)] ⟨Z,Z,trivial⟩ ?_
 have E : Ext w w:=Ext.refl w
 refine Qh (Qi [false,true] Z Z (Xb Z Z (fun b1 w1 e1 s1 h1=>?_)))
 have g_b1 : w.heap.size ≤ b1:=by have:=E.size;omega
 have y_b1:=h1.lt
 replace E:=E.trans e1
 have z1:=e1.size
 refine Qa (Qe Z) Z (Qd (Qh (Qh (Qi [true] Z Z (Qa (Qe Z) Z (Qd (Q2 (Y6 (fun (k : Nat)=>[(1,vxs),(2,.pointer (some ⟨b1,0,none⟩)),(4,.bool false),(5,.int .i64 ((k : Nat) : Int))]) (fun (k : Nat) w'=>Ext w w' ∧ w1.heap.size ≤ w'.heap.size ∧ Blk w' b1 ([o1,.int .i64 g.workers,.int .i64 g.cap]) ∧ k ≤ xs.length ∧ (xs.take k).all (X0 g) = true) (fun (k : Nat)=>xs.length - k) 0 ⟨Z,Z,Z,Z,trivial⟩ ⟨E,Nat.le_refl _,h1,Nat.zero_le _,Z⟩ ?_))))))))
 clear E h1
 rintro k w2 ⟨E,z2,h1,hk,hI⟩
 refine Qh (Qh (Qi [true,true,true,true] Z Z (Qa (Qb Z) Z (Qa (Qb Z) Z (Qa (Ye Tryz.underlying27 Z (hxs.ext E).len) Z (Qa (Xe Z Z) Z (Qd (Qt Z (fun hc1=>?_) (fun hc1=>?_)))))))))
 ·have hc1n : k < xs.length:=by first | (have h:=of_decide_eq_true hc1;omega) | (have h:=hc1;simp at h;omega)
  refine Qy (Qh (Q2 (Qh (Xk Xd [(0,true),(1,true),(2,true),(3,true),(4,false),(5,true),(6,true),(7,true),(8,true),(9,true),(10,true),(11,true),(12,true),(13,true),(14,true),(15,true),(16,true)] (by decide +kernel) Z (fun w3 e2=>?_)))))
  replace E:=E.trans e2;replace h1:=h1.ext e2
  have z3:=e2.size
  refine Qa (Qb Z) Z (Qa (Qb Z) Z ?_)
  have hi1 : k < xs.length:=(by first | assumption | omega | (simp only [List.length_set];first | assumption | omega) | (simp only [List.getElem_set_self,List.length_set];first | assumption | omega) | (simp only [Y3,Yj,List.length_set];first | assumption | omega) | (simp;done))
  refine Qa (Q5 (i:=k) Xp Z Z (hxs.ext E) hi1) Z (Qa (Ql Xq Z ((hxs.ext E).get hi1) Z) Z (Qw Tryz.call61 Z (s_RecordOk (xs[k]'hi1) _ ) Z (fun _ w4 e3 hv=>?_)))
  subst hv
  replace E:=E.trans e3;replace h1:=h1.ext e3
  have z4:=e3.size
  refine Qa (Xn Z) Z (Qa (Qb Z) Z (Xr 10 [(1,vxs),(2,.pointer (some ⟨b1,0,none⟩)),(4,.bool false),(5,.int .i64 ((k : Nat) : Int)),(6,.int .i64 ((k : Nat) : Int)),(7,vxs),(8,.int .i64 ((xs.length : Nat) : Int)),(9,.bool (decide (((k : Nat) : Int) < ((xs.length : Nat) : Int)))),(28,.bool ((!(Yx (xs[k]'hi1))) || (decide (((g.nodes.length : Nat) : Int) ≤ ((xs[k]'hi1).op)))))] (fun w'=>w4 = w') ?_ ?_))
  ·refine Yz (gd:=18) Z Z (fun hg1=>?_) (fun hg1=>?_)
   ·refine Qc Z Z Z Z (Qc Z Z Z Z (Qc Z Z Z Z (Qc Z Z Z Z (Qc Z Z Z Z (Qc Z Z Z Z (Qc Z Z Z Z (Qc Z Z Z Z (Qc Z Z Z Z (Qa (Qr Z Z) Z (Qn ⟨Z,Z,Z,Z,Z,Z,Z,Z,congrArg (fun b=>some (Value.bool b)) (show true = ((!(Yx (xs[k]'hi1))) || (decide (((g.nodes.length : Nat) : Int) ≤ ((xs[k]'hi1).op)))) by first | (rw [hg1] <;> rfl) | (simp [hg1];done) | (simp only [Qq] <;> simp)),trivial⟩ Z))))))))))
   ·refine Qm Z Z (Qb Z) Z (Qm Z Z (Qb Z) Z (Qm Z Z (Q5 (i:=k) Xp Z Z (hxs.ext E) hi1) Z (Qm Z Z (Q7 Ve Z) Z (Qm Z Z (Qk Xi Z (((hxs.ext E).get hi1).one 0 Z)) Z (Qm Z Z (Qf Uj Z) Z (Qm Z Z (Qk G8 Z (h1.one 0 Z)) Z (Qm Z Z (Ye Tryz.underlying24 Z (hd1.ext E).len) Z (Qm Z Z (Hs Z Z) Z (Qa (Qp Z Z) Z (Qn ⟨Z,Z,Z,Z,Z,Z,Z,Z,congrArg (fun b=>some (Value.bool b)) (show (decide (((g.nodes.length : Nat) : Int) ≤ ((xs[k]'hi1).op))) = ((!(Yx (xs[k]'hi1))) || (decide (((g.nodes.length : Nat) : Int) ≤ ((xs[k]'hi1).op)))) by first | (rw [hg1] <;> rfl) | (simp [hg1];done) | (simp only [Qq] <;> simp)),trivial⟩ Z))))))))))
  rintro _ rfl
  refine Qd (Qt Z (fun hc2=>?_) (fun hc2=>?_))
  ·refine Qh (Qi [true] Z Z (Qa (Qe Z) Z (Qd (Qx (Q0 (Yy (Q0 (Qu Z Z E ?_))))))))
   exact all_no (by assumption) (op_no hc2)
  ·refine Qy (Q4 (Yn (Qi [true,true,true] Z Z (Qa (Qb Z) Z (Qa (Yu Z Z (Yw hc1n hxs.1)) Z (Qa (Qe Z) Z (Qd (Q4 (Yg (k + 1) (by omega) ⟨Z,Z,Z,Z,trivial⟩ ⟨E,(by omega),h1,(by omega),Vl hI (by assumption) (op_yes hc2)⟩)))))))))
 ·have hc1n : ¬ k < xs.length:=by first | (have h:=of_decide_eq_false hc1;omega) | (have h:=hc1;simp at h;omega)
  refine Y5 (Yc (Q8 ?_))
  refine Qh (Qi [true] Z Z (Qa (Qe Z) Z (Qd (Qx (Qu Z Z E ?_)))))
  exact all_yes hI (by omega)

set_option maxRecDepth 20000 in
theorem c_slicesEqualRecord (vxs : Value) (xs : List Record) (vys : Value) (ys : List Record) (w : World) (hxs : RdS w vxs xs) (hys : RdS w vys ys) : Ct Tryz.prog 47 [vxs,vys] w (fun v _=>v = .bool (decide (xs = ys))):=by
 refine Yp Tryz.func47 Z Tryz.ntmps47 Z ?_
 refine Yb [(0,vxs),(1,vys)] ⟨Z,Z,trivial⟩ ?_
 have E : Ext w w:=Ext.refl w
 refine Qh (Qi [true] Z Z (Qa (Qe Z) Z (Qd (Qh (Qh (Qi [true,true,true,true,true] Z Z (Qa (Qb Z) Z (Qa (Ye Tryz.underlying27 Z (hxs.ext E).len) Z (Qa (Qb Z) Z (Qa (Ye Tryz.underlying27 Z (hys.ext E).len) Z (Qa (X1 Z Z) Z (Qd (Qt Z (fun hc1=>?_) (fun hc1=>?_))))))))))))))
 ·have hc1n : ¬ xs.length = ys.length:=by first | (have h:=of_decide_eq_true hc1;omega) | (have h:=hc1;simp at h;omega)
  refine Qh (Qi [true] Z Z (Qa (Qe Z) Z (Qd (Qx (Qu Z Z E ?_)))))
  simp [V6 hc1n]
 ·have hc1n : xs.length = ys.length:=by first | (have h:=of_decide_eq_false hc1;omega) | (have h:=hc1;simp at h;omega)
  refine Qy (Qh (Qh (Qi [true,true,true] Z Z (Qa (Qb Z) Z (Qa (Ye Tryz.underlying27 Z (hxs.ext E).len) Z (Qa (Qb Z) Z (Qd (Q2 (Y6 (fun (k : Nat)=>[(0,vxs),(1,vys),(4,.bool false),(12,.int .i64 ((xs.length : Nat) : Int)),(13,.int .i64 ((k : Nat) : Int))]) (fun (k : Nat) w'=>Ext w w' ∧ w.heap.size ≤ w'.heap.size ∧ k ≤ xs.length ∧ xs.take k = ys.take k) (fun (k : Nat)=>xs.length - k) 0 ⟨Z,Z,Z,Z,Z,trivial⟩ ⟨E,Nat.le_refl _,Nat.zero_le _,Z⟩ ?_)))))))))
  clear E
  rintro k w1 ⟨E,z1,hk,hp⟩
  refine Qh (Qi [true] Z Z (Qa (Xe Z Z) Z (Qd (Qh (Qt Z (fun hc2=>?_) (fun hc2=>?_))))))
  ·have hc2n : k < xs.length:=by first | (have h:=of_decide_eq_true hc2;omega) | (have h:=hc2;simp at h;omega)
   refine Qy (Qh (Q2 (Qh (Qi [true,true] Z Z (Qa (Qb Z) Z (Qa (Qe Z) Z (Qd (Qh (Xk Xd [(0,true),(1,true),(2,true),(3,true),(4,true),(5,true),(6,true),(7,true),(8,true)] (by decide +kernel) Z (fun w2 e1=>?_))))))))))
   replace E:=E.trans e1
   have z2:=e1.size
   refine Qa (Qb Z) Z (Qa (Qb Z) Z ?_)
   have hi1 : k < xs.length:=(by first | assumption | omega | (simp only [List.length_set];first | assumption | omega) | (simp only [List.getElem_set_self,List.length_set];first | assumption | omega) | (simp only [Y3,Yj,List.length_set];first | assumption | omega) | (simp;done))
   refine Qa (Q5 (i:=k) Xp Z Z (hxs.ext E) hi1) Z (Qa (Ql Xq Z ((hxs.ext E).get hi1) Z) Z (Qa (Qb Z) Z (Qa (Qb Z) Z ?_)))
   have hi2 : k < ys.length:=(by first | assumption | omega | (simp only [List.length_set];first | assumption | omega) | (simp only [List.getElem_set_self,List.length_set];first | assumption | omega) | (simp only [Y3,Yj,List.length_set];first | assumption | omega) | (simp;done))
   refine Qa (Q5 (i:=k) Xp Z Z (hys.ext E) hi2) Z (Qa (Ql Xq Z ((hys.ext E).get hi2) Z) Z (Qa (G5 (ne55 (xs[k]'hi1) (ys[k]'hi2)) eqg55 Z Z) Z (Qd (Qt Z (fun hc3=>?_) (fun hc3=>?_)))))
   ·refine Qh (Qi [true] Z Z (Qa (Qe Z) Z (Qd (Qx (Q0 (Yy (Q0 (Qu Z Z E ?_))))))))
    exact V7 (by omega) (by omega) (by simpa using hc3)
   ·refine Qy (Q4 (Yn (Qi [true,true] Z Z (Qa (Yu Z Z (Yw hc2n hxs.1)) Z (Qa (Qb Z) Z (Qd (Q4 (Yg (k + 1) (by omega) ⟨Z,Z,Z,Z,Z,trivial⟩ ⟨E,(by omega),(by omega),Uo hp (by assumption) (by omega) (by simpa using hc3)⟩))))))))
  ·have hc2n : ¬ k < xs.length:=by first | (have h:=of_decide_eq_false hc2;omega) | (have h:=hc2;simp at h;omega)
   refine Y5 (Yc (Q8 ?_))
   refine Qh (Qi [true] Z Z (Qa (Qe Z) Z (Qd (Qx (Qu Z Z E ?_)))))
   exact U9 hp hc1n (by omega)

set_option maxRecDepth 20000 in
theorem c_slicesEqualCell (vxs : Value) (xs : List Cell) (vys : Value) (ys : List Cell) (w : World) (hxs : RdS w vxs xs) (hys : RdS w vys ys) : Ct Tryz.prog 48 [vxs,vys] w (fun v _=>v = .bool (decide (xs = ys))):=by
 refine Yp Tryz.func48 Z Tryz.ntmps48 Z ?_
 refine Yb [(0,vxs),(1,vys)] ⟨Z,Z,trivial⟩ ?_
 have E : Ext w w:=Ext.refl w
 refine Qh (Qi [true] Z Z (Qa (Qe Z) Z (Qd (Qh (Qh (Qi [true,true,true,true,true] Z Z (Qa (Qb Z) Z (Qa (Ye Tryz.underlying28 Z (hxs.ext E).len) Z (Qa (Qb Z) Z (Qa (Ye Tryz.underlying28 Z (hys.ext E).len) Z (Qa (X1 Z Z) Z (Qd (Qt Z (fun hc1=>?_) (fun hc1=>?_))))))))))))))
 ·have hc1n : ¬ xs.length = ys.length:=by first | (have h:=of_decide_eq_true hc1;omega) | (have h:=hc1;simp at h;omega)
  refine Qh (Qi [true] Z Z (Qa (Qe Z) Z (Qd (Qx (Qu Z Z E ?_)))))
  simp [V6 hc1n]
 ·have hc1n : xs.length = ys.length:=by first | (have h:=of_decide_eq_false hc1;omega) | (have h:=hc1;simp at h;omega)
  refine Qy (Qh (Qh (Qi [true,true,true] Z Z (Qa (Qb Z) Z (Qa (Ye Tryz.underlying28 Z (hxs.ext E).len) Z (Qa (Qb Z) Z (Qd (Q2 (Y6 (fun (k : Nat)=>[(0,vxs),(1,vys),(4,.bool false),(12,.int .i64 ((xs.length : Nat) : Int)),(13,.int .i64 ((k : Nat) : Int))]) (fun (k : Nat) w'=>Ext w w' ∧ w.heap.size ≤ w'.heap.size ∧ k ≤ xs.length ∧ xs.take k = ys.take k) (fun (k : Nat)=>xs.length - k) 0 ⟨Z,Z,Z,Z,Z,trivial⟩ ⟨E,Nat.le_refl _,Nat.zero_le _,Z⟩ ?_)))))))))
  clear E
  rintro k w1 ⟨E,z1,hk,hp⟩
  refine Qh (Qi [true] Z Z (Qa (Xe Z Z) Z (Qd (Qh (Qt Z (fun hc2=>?_) (fun hc2=>?_))))))
  ·have hc2n : k < xs.length:=by first | (have h:=of_decide_eq_true hc2;omega) | (have h:=hc2;simp at h;omega)
   refine Qy (Qh (Q2 (Qh (Qi [true,true] Z Z (Qa (Qb Z) Z (Qa (Qe Z) Z (Qd (Qh (Xk Xd [(0,true),(1,true),(2,true),(3,true),(4,true),(5,true),(6,true),(7,true),(8,true)] (by decide +kernel) Z (fun w2 e1=>?_))))))))))
   replace E:=E.trans e1
   have z2:=e1.size
   refine Qa (Qb Z) Z (Qa (Qb Z) Z ?_)
   have hi1 : k < xs.length:=(by first | assumption | omega | (simp only [List.length_set];first | assumption | omega) | (simp only [List.getElem_set_self,List.length_set];first | assumption | omega) | (simp only [Y3,Yj,List.length_set];first | assumption | omega) | (simp;done))
   refine Qa (Q5 (i:=k) K3 Z Z (hxs.ext E) hi1) Z (Qa (Ql Vx Z ((hxs.ext E).get hi1) Z) Z (Qa (Qb Z) Z (Qa (Qb Z) Z ?_)))
   have hi2 : k < ys.length:=(by first | assumption | omega | (simp only [List.length_set];first | assumption | omega) | (simp only [List.getElem_set_self,List.length_set];first | assumption | omega) | (simp only [Y3,Yj,List.length_set];first | assumption | omega) | (simp;done))
   refine Qa (Q5 (i:=k) K3 Z Z (hys.ext E) hi2) Z (Qa (Ql Vx Z ((hys.ext E).get hi2) Z) Z (Qa (G5 (ne76 (xs[k]'hi1) (ys[k]'hi2)) eqg76 Z Z) Z (Qd (Qt Z (fun hc3=>?_) (fun hc3=>?_)))))
   ·refine Qh (Qi [true] Z Z (Qa (Qe Z) Z (Qd (Qx (Q0 (Yy (Q0 (Qu Z Z E ?_))))))))
    exact V7 (by omega) (by omega) (by simpa using hc3)
   ·refine Qy (Q4 (Yn (Qi [true,true] Z Z (Qa (Yu Z Z (Yw hc2n hxs.1)) Z (Qa (Qb Z) Z (Qd (Q4 (Yg (k + 1) (by omega) ⟨Z,Z,Z,Z,Z,trivial⟩ ⟨E,(by omega),(by omega),Uo hp (by assumption) (by omega) (by simpa using hc3)⟩))))))))
  ·have hc2n : ¬ k < xs.length:=by first | (have h:=of_decide_eq_false hc2;omega) | (have h:=hc2;simp at h;omega)
   refine Y5 (Yc (Q8 ?_))
   refine Qh (Qi [true] Z Z (Qa (Qe Z) Z (Qd (Qx (Qu Z Z E ?_)))))
   exact U9 hp hc1n (by omega)

set_option maxRecDepth 20000 in
theorem c_slicesEqualDone (vxs : Value) (xs : List Done) (vys : Value) (ys : List Done) (w : World) (hxs : RdS w vxs xs) (hys : RdS w vys ys) : Ct Tryz.prog 51 [vxs,vys] w (fun v _=>v = .bool (decide (xs = ys))):=by
 refine Yp Tryz.func51 Z Tryz.ntmps51 Z ?_
 refine Yb [(0,vxs),(1,vys)] ⟨Z,Z,trivial⟩ ?_
 have E : Ext w w:=Ext.refl w
 refine Qh (Qi [true] Z Z (Qa (Qe Z) Z (Qd (Qh (Qh (Qi [true,true,true,true,true] Z Z (Qa (Qb Z) Z (Qa (Ye Tryz.underlying31 Z (hxs.ext E).len) Z (Qa (Qb Z) Z (Qa (Ye Tryz.underlying31 Z (hys.ext E).len) Z (Qa (X1 Z Z) Z (Qd (Qt Z (fun hc1=>?_) (fun hc1=>?_))))))))))))))
 ·have hc1n : ¬ xs.length = ys.length:=by first | (have h:=of_decide_eq_true hc1;omega) | (have h:=hc1;simp at h;omega)
  refine Qh (Qi [true] Z Z (Qa (Qe Z) Z (Qd (Qx (Qu Z Z E ?_)))))
  simp [V6 hc1n]
 ·have hc1n : xs.length = ys.length:=by first | (have h:=of_decide_eq_false hc1;omega) | (have h:=hc1;simp at h;omega)
  refine Qy (Qh (Qh (Qi [true,true,true] Z Z (Qa (Qb Z) Z (Qa (Ye Tryz.underlying31 Z (hxs.ext E).len) Z (Qa (Qb Z) Z (Qd (Q2 (Y6 (fun (k : Nat)=>[(0,vxs),(1,vys),(4,.bool false),(12,.int .i64 ((xs.length : Nat) : Int)),(13,.int .i64 ((k : Nat) : Int))]) (fun (k : Nat) w'=>Ext w w' ∧ w.heap.size ≤ w'.heap.size ∧ k ≤ xs.length ∧ xs.take k = ys.take k) (fun (k : Nat)=>xs.length - k) 0 ⟨Z,Z,Z,Z,Z,trivial⟩ ⟨E,Nat.le_refl _,Nat.zero_le _,Z⟩ ?_)))))))))
  clear E
  rintro k w1 ⟨E,z1,hk,hp⟩
  refine Qh (Qi [true] Z Z (Qa (Xe Z Z) Z (Qd (Qh (Qt Z (fun hc2=>?_) (fun hc2=>?_))))))
  ·have hc2n : k < xs.length:=by first | (have h:=of_decide_eq_true hc2;omega) | (have h:=hc2;simp at h;omega)
   refine Qy (Qh (Q2 (Qh (Qi [true,true] Z Z (Qa (Qb Z) Z (Qa (Qe Z) Z (Qd (Qh (Xk Xd [(0,true),(1,true),(2,true),(3,true),(4,true),(5,true),(6,true),(7,true),(8,true)] (by decide +kernel) Z (fun w2 e1=>?_))))))))))
   replace E:=E.trans e1
   have z2:=e1.size
   refine Qa (Qb Z) Z (Qa (Qb Z) Z ?_)
   have hi1 : k < xs.length:=(by first | assumption | omega | (simp only [List.length_set];first | assumption | omega) | (simp only [List.getElem_set_self,List.length_set];first | assumption | omega) | (simp only [Y3,Yj,List.length_set];first | assumption | omega) | (simp;done))
   refine Qa (Q5 (i:=k) H1 Z Z (hxs.ext E) hi1) Z (Qa (Ql st58 Z ((hxs.ext E).get hi1) Z) Z (Qa (Qb Z) Z (Qa (Qb Z) Z ?_)))
   have hi2 : k < ys.length:=(by first | assumption | omega | (simp only [List.length_set];first | assumption | omega) | (simp only [List.getElem_set_self,List.length_set];first | assumption | omega) | (simp only [Y3,Yj,List.length_set];first | assumption | omega) | (simp;done))
   refine Qa (Q5 (i:=k) H1 Z Z (hys.ext E) hi2) Z (Qa (Ql st58 Z ((hys.ext E).get hi2) Z) Z (Qa (G5 (ne58 (xs[k]'hi1) (ys[k]'hi2)) eqg58 Z Z) Z (Qd (Qt Z (fun hc3=>?_) (fun hc3=>?_)))))
   ·refine Qh (Qi [true] Z Z (Qa (Qe Z) Z (Qd (Qx (Q0 (Yy (Q0 (Qu Z Z E ?_))))))))
    exact V7 (by omega) (by omega) (by simpa using hc3)
   ·refine Qy (Q4 (Yn (Qi [true,true] Z Z (Qa (Yu Z Z (Yw hc2n hxs.1)) Z (Qa (Qb Z) Z (Qd (Q4 (Yg (k + 1) (by omega) ⟨Z,Z,Z,Z,Z,trivial⟩ ⟨E,(by omega),(by omega),Uo hp (by assumption) (by omega) (by simpa using hc3)⟩))))))))
  ·have hc2n : ¬ k < xs.length:=by first | (have h:=of_decide_eq_false hc2;omega) | (have h:=hc2;simp at h;omega)
   refine Y5 (Yc (Q8 ?_))
   refine Qh (Qi [true] Z Z (Qa (Qe Z) Z (Qd (Qx (Qu Z Z E ?_)))))
   exact U9 hp hc1n (by omega)

set_option maxRecDepth 20000 in
theorem c_slicesEqualBool (vxs : Value) (xs : List Bool) (vys : Value) (ys : List Bool) (w : World) (hxs : RdS w vxs xs) (hys : RdS w vys ys) : Ct Tryz.prog 50 [vxs,vys] w (fun v _=>v = .bool (decide (xs = ys))):=by
 refine Yp Tryz.func50 Z Tryz.ntmps50 Z ?_
 refine Yb [(0,vxs),(1,vys)] ⟨Z,Z,trivial⟩ ?_
 have E : Ext w w:=Ext.refl w
 refine Qh (Qi [true] Z Z (Qa (Qe Z) Z (Qd (Qh (Qh (Qi [true,true,true,true,true] Z Z (Qa (Qb Z) Z (Qa (Ye Tryz.underlying30 Z (hxs.ext E).len) Z (Qa (Qb Z) Z (Qa (Ye Tryz.underlying30 Z (hys.ext E).len) Z (Qa (X1 Z Z) Z (Qd (Qt Z (fun hc1=>?_) (fun hc1=>?_))))))))))))))
 ·have hc1n : ¬ xs.length = ys.length:=by first | (have h:=of_decide_eq_true hc1;omega) | (have h:=hc1;simp at h;omega)
  refine Qh (Qi [true] Z Z (Qa (Qe Z) Z (Qd (Qx (Qu Z Z E ?_)))))
  simp [V6 hc1n]
 ·have hc1n : xs.length = ys.length:=by first | (have h:=of_decide_eq_false hc1;omega) | (have h:=hc1;simp at h;omega)
  refine Qy (Qh (Qh (Qi [true,true,true] Z Z (Qa (Qb Z) Z (Qa (Ye Tryz.underlying30 Z (hxs.ext E).len) Z (Qa (Qb Z) Z (Qd (Q2 (Y6 (fun (k : Nat)=>[(0,vxs),(1,vys),(4,.bool false),(12,.int .i64 ((xs.length : Nat) : Int)),(13,.int .i64 ((k : Nat) : Int))]) (fun (k : Nat) w'=>Ext w w' ∧ w.heap.size ≤ w'.heap.size ∧ k ≤ xs.length ∧ xs.take k = ys.take k) (fun (k : Nat)=>xs.length - k) 0 ⟨Z,Z,Z,Z,Z,trivial⟩ ⟨E,Nat.le_refl _,Nat.zero_le _,Z⟩ ?_)))))))))
  clear E
  rintro k w1 ⟨E,z1,hk,hp⟩
  refine Qh (Qi [true] Z Z (Qa (Xe Z Z) Z (Qd (Qh (Qt Z (fun hc2=>?_) (fun hc2=>?_))))))
  ·have hc2n : k < xs.length:=by first | (have h:=of_decide_eq_true hc2;omega) | (have h:=hc2;simp at h;omega)
   refine Qy (Qh (Q2 (Qh (Qi [true,true] Z Z (Qa (Qb Z) Z (Qa (Qe Z) Z (Qd (Qh (Xk Xd [(0,true),(1,true),(2,true),(3,true),(4,true),(5,true),(6,true),(7,true),(8,true)] (by decide +kernel) Z (fun w2 e1=>?_))))))))))
   replace E:=E.trans e1
   have z2:=e1.size
   refine Qa (Qb Z) Z (Qa (Qb Z) Z ?_)
   have hi1 : k < xs.length:=(by first | assumption | omega | (simp only [List.length_set];first | assumption | omega) | (simp only [List.getElem_set_self,List.length_set];first | assumption | omega) | (simp only [Y3,Yj,List.length_set];first | assumption | omega) | (simp;done))
   refine Qa (Q5 (i:=k) H2 Z Z (hxs.ext E) hi1) Z (Qa (Qk sc4 Z (((hxs.ext E).get hi1).one 0 Z)) Z (Qa (Qb Z) Z (Qa (Qb Z) Z ?_)))
   have hi2 : k < ys.length:=(by first | assumption | omega | (simp only [List.length_set];first | assumption | omega) | (simp only [List.getElem_set_self,List.length_set];first | assumption | omega) | (simp only [Y3,Yj,List.length_set];first | assumption | omega) | (simp;done))
   refine Qa (Q5 (i:=k) H2 Z Z (hys.ext E) hi2) Z (Qa (Qk sc4 Z (((hys.ext E).get hi2).one 0 Z)) Z (Qa (Tk (Tryz.underlying4) Z Z) Z (Qd (Qt Z (fun hc3=>?_) (fun hc3=>?_)))))
   ·refine Qh (Qi [true] Z Z (Qa (Qe Z) Z (Qd (Qx (Q0 (Yy (Q0 (Qu Z Z E ?_))))))))
    exact V7 (by omega) (by omega) (by simpa using hc3)
   ·refine Qy (Q4 (Yn (Qi [true,true] Z Z (Qa (Yu Z Z (Yw hc2n hxs.1)) Z (Qa (Qb Z) Z (Qd (Q4 (Yg (k + 1) (by omega) ⟨Z,Z,Z,Z,Z,trivial⟩ ⟨E,(by omega),(by omega),Uo hp (by assumption) (by omega) (by simpa using hc3)⟩))))))))
  ·have hc2n : ¬ k < xs.length:=by first | (have h:=of_decide_eq_false hc2;omega) | (have h:=hc2;simp at h;omega)
   refine Y5 (Yc (Q8 ?_))
   refine Qh (Qi [true] Z Z (Qa (Qe Z) Z (Qd (Qx (Qu Z Z E ?_)))))
   exact U9 hp hc1n (by omega)

set_option maxHeartbeats 4000000 in
set_option maxRecDepth 20000 in
theorem c_SameWorker (cx : List Value) (x : Worker) (cy : List Value) (y : Worker) (w : World) (hx : Dat.R w 0 w.heap.size cx x) (hy : Dat.R w 0 w.heap.size cy y) : Ct Tryz.prog 21 [.agg cx.toArray,.agg cy.toArray] w (fun v _=>v = .bool (decide (x = y))):=by
 refine Yp Tryz.func21 Z Tryz.ntmps21 Z ?_
 obtain ⟨o1,o2,o3,o4,o5,o6,o7,o8,rfl,hd1,hd2,hd3,hd4,hd5,hd6,hd7,hd8⟩:=Worker.op hx
 obtain ⟨o9,o10,o11,o12,o13,o14,o15,o16,rfl,hd9,hd10,hd11,hd12,hd13,hd14,hd15,hd16⟩:=Worker.op hy
 refine Yb [(0,.agg [o1,o2,o3,o4,o5,o6,o7,o8].toArray),(1,.agg [o9,o10,o11,o12,o13,o14,o15,o16].toArray)] ⟨Z,Z,trivial⟩ ?_
 have E : Ext w w:=Ext.refl w
 refine Qh (Qi [false,false,true] Z Z (Xb Z Z (fun b1 w1 e1 s1 h1=>?_)))
 have g_b1 : w.heap.size ≤ b1:=by have:=E.size;omega
 have y_b1:=h1.lt
 replace E:=E.trans e1
 have z1:=e1.size
 refine Xb Z Z (fun b2 w2 e2 s2 h2=>?_)
 have g_b2 : w.heap.size ≤ b2:=by have:=E.size;omega
 have y_b2:=h2.lt
 replace E:=E.trans e2;replace h1:=h1.ext e2
 have z2:=e2.size
 refine Qa (Qe Z) Z (Qd (Qh (Qi [true,true,true,true,false,true,true,true,true,true,false,true,true,true,true,true,true,false,true,true,true,true,true,true,false,true,true,true,true,true,true,false,true,true,true,true,true,true,false,true,true,true,true,true,true,false,true,true,true,true,true,true,false,true,true] Z Z (Qa (Qf Kf Z) Z (Qa (Qk Xv Z (h1.one 0 Z)) Z (Qa (Qf Kf Z) Z (Qa (Qk Xv Z (h2.one 0 Z)) Z (Qw Tryz.call47 Z (c_slicesEqualRecord o1 x.queue o9 y.queue _ (hd1.rd.ext E) (hd9.rd.ext E)) Z (fun _ w3 e3 hv=>?_)))))))))
 subst hv
 replace E:=E.trans e3;replace h1:=h1.ext e3;replace h2:=h2.ext e3
 have z3:=e3.size
 refine Qa (Qb Z) Z (Xr 48 [(0,.agg [o1,o2,o3,o4,o5,o6,o7,o8].toArray),(1,.agg [o9,o10,o11,o12,o13,o14,o15,o16].toArray),(2,.pointer (some ⟨b1,0,none⟩)),(3,.pointer (some ⟨b2,0,none⟩)),(4,.bool false),(58,.bool ((((((((decide (x.queue = y.queue)) && (decide (x.staged = y.staged))) && (decide (x.inputs = y.inputs))) && (decide (x.cells = y.cells))) && (decide (x.sums = y.sums))) && (decide (x.black = y.black))) && (decide (x.caps = y.caps))) && (decide (x.dones = y.dones))))] (fun w'=>Ext w w' ∧ w3.heap.size ≤ w'.heap.size ∧ Blk w' b1 ([o1,o2,o3,o4,o5,o6,o7,o8]) ∧ Blk w' b2 ([o9,o10,o11,o12,o13,o14,o15,o16])) ?_ ?_)
 ·refine Yz (gd:=10) Z Z (fun hg1=>?_) (fun hg1=>?_)
  ·refine Qm Z Z (Qf Ui Z) Z (Qm Z Z (Qk Xv Z (h1.one 1 Z)) Z (Qm Z Z (Qf Ui Z) Z (Qm Z Z (Qk Xv Z (h2.one 1 Z)) Z ?_)))
   refine Xa Z Z ?_
   refine Qw Tryz.call47 Z (c_slicesEqualRecord o2 x.staged o10 y.staged _ (hd2.rd.ext E) (hd10.rd.ext E)) Z (fun _ w5 e4 hv=>?_)
   subst hv
   replace E:=E.trans e4;replace h1:=h1.ext e4;replace h2:=h2.ext e4
   have z4:=e4.size
   refine Qa (Qr Z Z) Z (Qa (Qb Z) Z (Yz (gd:=17) Z Z (fun hg2=>?_) (fun hg2=>?_)))
   ·refine Qm Z Z (Qf X5 Z) Z (Qm Z Z (Qk Xv Z (h1.one 2 Z)) Z (Qm Z Z (Qf X5 Z) Z (Qm Z Z (Qk Xv Z (h2.one 2 Z)) Z ?_)))
    refine Xa Z Z ?_
    refine Qw Tryz.call47 Z (c_slicesEqualRecord o3 x.inputs o11 y.inputs _ (hd3.rd.ext E) (hd11.rd.ext E)) Z (fun _ w6 e5 hv=>?_)
    subst hv
    replace E:=E.trans e5;replace h1:=h1.ext e5;replace h2:=h2.ext e5
    have z5:=e5.size
    refine Qa (Qr Z Z) Z (Qa (Qb Z) Z (Yz (gd:=24) Z Z (fun hg3=>?_) (fun hg3=>?_)))
    ·refine Qm Z Z (Qf V5 Z) Z (Qm Z Z (Qk C9 Z (h1.one 3 Z)) Z (Qm Z Z (Qf V5 Z) Z (Qm Z Z (Qk C9 Z (h2.one 3 Z)) Z ?_)))
     refine Xa Z Z ?_
     refine Qw Tryz.call48 Z (c_slicesEqualCell o4 x.cells o12 y.cells _ (hd4.rd.ext E) (hd12.rd.ext E)) Z (fun _ w7 e6 hv=>?_)
     subst hv
     replace E:=E.trans e6;replace h1:=h1.ext e6;replace h2:=h2.ext e6
     have z6:=e6.size
     refine Qa (Qr Z Z) Z (Qa (Qb Z) Z (Yz (gd:=31) Z Z (fun hg4=>?_) (fun hg4=>?_)))
     ·refine Qm Z Z (Qf Un Z) Z (Qm Z Z (Qk Uc Z (h1.one 4 Z)) Z (Qm Z Z (Qf Un Z) Z (Qm Z Z (Qk Uc Z (h2.one 4 Z)) Z ?_)))
      refine Xa Z Z ?_
      refine Qw Tryz.call49 Z (c_slicesEqual o5 x.sums o13 y.sums _ (hd5.rd.ext E) (hd13.rd.ext E)) Z (fun _ w8 e7 hv=>?_)
      subst hv
      replace E:=E.trans e7;replace h1:=h1.ext e7;replace h2:=h2.ext e7
      have z7:=e7.size
      refine Qa (Qr Z Z) Z (Qa (Qb Z) Z (Yz (gd:=38) Z Z (fun hg5=>?_) (fun hg5=>?_)))
      ·refine Qm Z Z (Qf V4 Z) Z (Qm Z Z (Qk Gz Z (h1.one 5 Z)) Z (Qm Z Z (Qf V4 Z) Z (Qm Z Z (Qk Gz Z (h2.one 5 Z)) Z ?_)))
       refine Xa Z Z ?_
       refine Qw Tryz.call50 Z (c_slicesEqualBool o6 x.black o14 y.black _ (hd6.rd.ext E) (hd14.rd.ext E)) Z (fun _ w9 e8 hv=>?_)
       subst hv
       replace E:=E.trans e8;replace h1:=h1.ext e8;replace h2:=h2.ext e8
       have z8:=e8.size
       refine Qa (Qr Z Z) Z (Qa (Qb Z) Z (Yz (gd:=45) Z Z (fun hg6=>?_) (fun hg6=>?_)))
       ·refine Qm Z Z (Qf Hl Z) Z (Qm Z Z (Qk Gz Z (h1.one 6 Z)) Z (Qm Z Z (Qf Hl Z) Z (Qm Z Z (Qk Gz Z (h2.one 6 Z)) Z ?_)))
        refine Xa Z Z ?_
        refine Qw Tryz.call50 Z (c_slicesEqualBool o7 x.caps o15 y.caps _ (hd7.rd.ext E) (hd15.rd.ext E)) Z (fun _ w10 e9 hv=>?_)
        subst hv
        replace E:=E.trans e9;replace h1:=h1.ext e9;replace h2:=h2.ext e9
        have z9:=e9.size
        refine Qa (Qr Z Z) Z (Qa (Qb Z) Z (Yz (gd:=52) Z Z (fun hg7=>?_) (fun hg7=>?_)))
        ·refine Qm Z Z (Qf Um Z) Z (Qm Z Z (Qk Hh Z (h1.one 7 Z)) Z (Qm Z Z (Qf Um Z) Z (Qm Z Z (Qk Hh Z (h2.one 7 Z)) Z ?_)))
         refine Xa Z Z ?_
         refine Qw Tryz.call51 Z (c_slicesEqualDone o8 x.dones o16 y.dones _ (hd8.rd.ext E) (hd16.rd.ext E)) Z (fun _ w11 e10 hv=>?_)
         subst hv
         replace E:=E.trans e10;replace h1:=h1.ext e10;replace h2:=h2.ext e10
         have z10:=e10.size
         refine Qa (Qr Z Z) Z (Qn ⟨Z,Z,Z,Z,Z,congrArg (fun b=>some (Value.bool b)) (show (decide (x.dones = y.dones)) = ((((((((decide (x.queue = y.queue)) && (decide (x.staged = y.staged))) && (decide (x.inputs = y.inputs))) && (decide (x.cells = y.cells))) && (decide (x.sums = y.sums))) && (decide (x.black = y.black))) && (decide (x.caps = y.caps))) && (decide (x.dones = y.dones))) by first | (rw [hg1,hg2,hg3,hg4,hg5,hg6,hg7] <;> rfl) | (simp [hg1,hg2,hg3,hg4,hg5,hg6,hg7];done) | (simp only [Qq] <;> simp)),trivial⟩ ⟨E,(by omega),h1,h2⟩)
        ·refine Qc Z Z Z Z (Qc Z Z Z Z (Qc Z Z Z Z (Qc Z Z Z Z ?_)))
         refine Q3 Z Z Z Z ?_
         refine Qa (Qp Z Z) Z (Qn ⟨Z,Z,Z,Z,Z,congrArg (fun b=>some (Value.bool b)) (show false = ((((((((decide (x.queue = y.queue)) && (decide (x.staged = y.staged))) && (decide (x.inputs = y.inputs))) && (decide (x.cells = y.cells))) && (decide (x.sums = y.sums))) && (decide (x.black = y.black))) && (decide (x.caps = y.caps))) && (decide (x.dones = y.dones))) by first | (rw [hg1,hg2,hg3,hg4,hg5,hg6,hg7] <;> rfl) | (simp [hg1,hg2,hg3,hg4,hg5,hg6,hg7];done) | (simp only [Qq] <;> simp)),trivial⟩ ⟨E,(by omega),h1,h2⟩)
       ·refine Qc Z Z Z Z (Qc Z Z Z Z (Qc Z Z Z Z (Qc Z Z Z Z ?_)))
        refine Q3 Z Z Z Z ?_
        refine Qa (Qp Z Z) Z (Qa (Qb Z) Z (Qc Z Z Z Z (Qc Z Z Z Z (Qc Z Z Z Z (Qc Z Z Z Z (Q3 Z Z Z Z (Qa (Qp Z Z) Z (Qn ⟨Z,Z,Z,Z,Z,congrArg (fun b=>some (Value.bool b)) (show false = ((((((((decide (x.queue = y.queue)) && (decide (x.staged = y.staged))) && (decide (x.inputs = y.inputs))) && (decide (x.cells = y.cells))) && (decide (x.sums = y.sums))) && (decide (x.black = y.black))) && (decide (x.caps = y.caps))) && (decide (x.dones = y.dones))) by first | (rw [hg1,hg2,hg3,hg4,hg5,hg6] <;> rfl) | (simp [hg1,hg2,hg3,hg4,hg5,hg6];done) | (simp only [Qq] <;> simp)),trivial⟩ ⟨E,(by omega),h1,h2⟩))))))))
      ·refine Qc Z Z Z Z (Qc Z Z Z Z (Qc Z Z Z Z (Qc Z Z Z Z ?_)))
       refine Q3 Z Z Z Z ?_
       refine Qa (Qp Z Z) Z (Qa (Qb Z) Z (Qc Z Z Z Z (Qc Z Z Z Z (Qc Z Z Z Z (Qc Z Z Z Z (Q3 Z Z Z Z (Qa (Qp Z Z) Z (Qa (Qb Z) Z (Qc Z Z Z Z (Qc Z Z Z Z (Qc Z Z Z Z (Qc Z Z Z Z (Q3 Z Z Z Z (Qa (Qp Z Z) Z (Qn ⟨Z,Z,Z,Z,Z,congrArg (fun b=>some (Value.bool b)) (show false = ((((((((decide (x.queue = y.queue)) && (decide (x.staged = y.staged))) && (decide (x.inputs = y.inputs))) && (decide (x.cells = y.cells))) && (decide (x.sums = y.sums))) && (decide (x.black = y.black))) && (decide (x.caps = y.caps))) && (decide (x.dones = y.dones))) by first | (rw [hg1,hg2,hg3,hg4,hg5] <;> rfl) | (simp [hg1,hg2,hg3,hg4,hg5];done) | (simp only [Qq] <;> simp)),trivial⟩ ⟨E,(by omega),h1,h2⟩)))))))))))))))
     ·refine Qc Z Z Z Z (Qc Z Z Z Z (Qc Z Z Z Z (Qc Z Z Z Z ?_)))
      refine Q3 Z Z Z Z ?_
      refine Qa (Qp Z Z) Z (Qa (Qb Z) Z (Qc Z Z Z Z (Qc Z Z Z Z (Qc Z Z Z Z (Qc Z Z Z Z (Q3 Z Z Z Z (Qa (Qp Z Z) Z (Qa (Qb Z) Z (Qc Z Z Z Z (Qc Z Z Z Z (Qc Z Z Z Z (Qc Z Z Z Z (Q3 Z Z Z Z (Qa (Qp Z Z) Z (Qa (Qb Z) Z (Qc Z Z Z Z (Qc Z Z Z Z (Qc Z Z Z Z (Qc Z Z Z Z (Q3 Z Z Z Z (Qa (Qp Z Z) Z (Qn ⟨Z,Z,Z,Z,Z,congrArg (fun b=>some (Value.bool b)) (show false = ((((((((decide (x.queue = y.queue)) && (decide (x.staged = y.staged))) && (decide (x.inputs = y.inputs))) && (decide (x.cells = y.cells))) && (decide (x.sums = y.sums))) && (decide (x.black = y.black))) && (decide (x.caps = y.caps))) && (decide (x.dones = y.dones))) by first | (rw [hg1,hg2,hg3,hg4] <;> rfl) | (simp [hg1,hg2,hg3,hg4];done) | (simp only [Qq] <;> simp)),trivial⟩ ⟨E,(by omega),h1,h2⟩))))))))))))))))))))))
    ·refine Qc Z Z Z Z (Qc Z Z Z Z (Qc Z Z Z Z (Qc Z Z Z Z ?_)))
     refine Q3 Z Z Z Z ?_
     refine Qa (Qp Z Z) Z (Qa (Qb Z) Z (Qc Z Z Z Z (Qc Z Z Z Z (Qc Z Z Z Z (Qc Z Z Z Z (Q3 Z Z Z Z (Qa (Qp Z Z) Z (Qa (Qb Z) Z (Qc Z Z Z Z (Qc Z Z Z Z (Qc Z Z Z Z (Qc Z Z Z Z (Q3 Z Z Z Z (Qa (Qp Z Z) Z (Qa (Qb Z) Z (Qc Z Z Z Z (Qc Z Z Z Z (Qc Z Z Z Z (Qc Z Z Z Z (Q3 Z Z Z Z (Qa (Qp Z Z) Z (Qa (Qb Z) Z (Qc Z Z Z Z (Qc Z Z Z Z (Qc Z Z Z Z (Qc Z Z Z Z (Q3 Z Z Z Z (Qa (Qp Z Z) Z (Qn ⟨Z,Z,Z,Z,Z,congrArg (fun b=>some (Value.bool b)) (show false = ((((((((decide (x.queue = y.queue)) && (decide (x.staged = y.staged))) && (decide (x.inputs = y.inputs))) && (decide (x.cells = y.cells))) && (decide (x.sums = y.sums))) && (decide (x.black = y.black))) && (decide (x.caps = y.caps))) && (decide (x.dones = y.dones))) by first | (rw [hg1,hg2,hg3] <;> rfl) | (simp [hg1,hg2,hg3];done) | (simp only [Qq] <;> simp)),trivial⟩ ⟨E,(by omega),h1,h2⟩)))))))))))))))))))))))))))))
   ·refine Qc Z Z Z Z (Qc Z Z Z Z (Qc Z Z Z Z (Qc Z Z Z Z ?_)))
    refine Q3 Z Z Z Z ?_
    refine Qa (Qp Z Z) Z (Qa (Qb Z) Z (Qc Z Z Z Z (Qc Z Z Z Z (Qc Z Z Z Z (Qc Z Z Z Z (Q3 Z Z Z Z (Qa (Qp Z Z) Z (Qa (Qb Z) Z (Qc Z Z Z Z (Qc Z Z Z Z (Qc Z Z Z Z (Qc Z Z Z Z (Q3 Z Z Z Z (Qa (Qp Z Z) Z (Qa (Qb Z) Z (Qc Z Z Z Z (Qc Z Z Z Z (Qc Z Z Z Z (Qc Z Z Z Z (Q3 Z Z Z Z (Qa (Qp Z Z) Z (Qa (Qb Z) Z (Qc Z Z Z Z (Qc Z Z Z Z (Qc Z Z Z Z (Qc Z Z Z Z (Q3 Z Z Z Z (Qa (Qp Z Z) Z (Qa (Qb Z) Z (Qc Z Z Z Z (Qc Z Z Z Z (Qc Z Z Z Z (Qc Z Z Z Z (Q3 Z Z Z Z (Qa (Qp Z Z) Z (Qn ⟨Z,Z,Z,Z,Z,congrArg (fun b=>some (Value.bool b)) (show false = ((((((((decide (x.queue = y.queue)) && (decide (x.staged = y.staged))) && (decide (x.inputs = y.inputs))) && (decide (x.cells = y.cells))) && (decide (x.sums = y.sums))) && (decide (x.black = y.black))) && (decide (x.caps = y.caps))) && (decide (x.dones = y.dones))) by first | (rw [hg1,hg2] <;> rfl) | (simp [hg1,hg2];done) | (simp only [Qq] <;> simp)),trivial⟩ ⟨E,(by omega),h1,h2⟩))))))))))))))))))))))))))))))))))))
  ·refine Qc Z Z Z Z (Qc Z Z Z Z (Qc Z Z Z Z (Qc Z Z Z Z ?_)))
   refine Q3 Z Z Z Z ?_
   refine Qa (Qp Z Z) Z (Qa (Qb Z) Z (Qc Z Z Z Z (Qc Z Z Z Z (Qc Z Z Z Z (Qc Z Z Z Z (Q3 Z Z Z Z (Qa (Qp Z Z) Z (Qa (Qb Z) Z (Qc Z Z Z Z (Qc Z Z Z Z (Qc Z Z Z Z (Qc Z Z Z Z (Q3 Z Z Z Z (Qa (Qp Z Z) Z (Qa (Qb Z) Z (Qc Z Z Z Z (Qc Z Z Z Z (Qc Z Z Z Z (Qc Z Z Z Z (Q3 Z Z Z Z (Qa (Qp Z Z) Z (Qa (Qb Z) Z (Qc Z Z Z Z (Qc Z Z Z Z (Qc Z Z Z Z (Qc Z Z Z Z (Q3 Z Z Z Z (Qa (Qp Z Z) Z (Qa (Qb Z) Z (Qc Z Z Z Z (Qc Z Z Z Z (Qc Z Z Z Z (Qc Z Z Z Z (Q3 Z Z Z Z (Qa (Qp Z Z) Z (Qa (Qb Z) Z (Qc Z Z Z Z (Qc Z Z Z Z (Qc Z Z Z Z (Qc Z Z Z Z (Q3 Z Z Z Z (Qa (Qp Z Z) Z (Qn ⟨Z,Z,Z,Z,Z,congrArg (fun b=>some (Value.bool b)) (show false = ((((((((decide (x.queue = y.queue)) && (decide (x.staged = y.staged))) && (decide (x.inputs = y.inputs))) && (decide (x.cells = y.cells))) && (decide (x.sums = y.sums))) && (decide (x.black = y.black))) && (decide (x.caps = y.caps))) && (decide (x.dones = y.dones))) by first | (rw [hg1] <;> rfl) | (simp [hg1];done) | (simp only [Qq] <;> simp)),trivial⟩ ⟨E,(by omega),h1,h2⟩)))))))))))))))))))))))))))))))))))))))))))
 clear E h1 h2
 rintro w4 ⟨E,z11,h1,h2⟩
 refine Qa (Qe Z) Z (Qd (Qx (Qu Z Z E ?_)))
 refine congrArg Value.bool (Bool.eq_iff_iff.2 ?_);cases x;cases y;simp [and_assoc]

end Go.Proofs.YtcpjlfikdobckaaGreat
