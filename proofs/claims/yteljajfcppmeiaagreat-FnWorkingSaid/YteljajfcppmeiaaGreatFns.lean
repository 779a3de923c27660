/- What the functions that the laws call come to: a contract each; no condition. -/
import Derived.Test.YteljajfcppmeiaaGreatTypes
namespace Go.Proofs.YteljajfcppmeiaaGreat
open Go Go.Proofs.YteljajfcppmeiaaGreat.X Go.Proofs
set_option maxRecDepth 20000 in
theorem c_l02Order (a : Int) (b : Int) (w : World)  : Ct Tryz.prog 91 [.int .i64 a,.int .i64 b] w (fun v _=>v = .int .i64 (Xr a b)):=by
 refine Yx Tryz.func91 Z Tryz.ntmps91 Z ?_
 refine Yh [(0,.int .i64 a),(1,.int .i64 b)] ⟨Z,Z,trivial⟩ ?_
 have E : Ext w w:=Ext.refl w
 refine Qh (Qi [true] Z Z (Qa (Qg Z) Z (Qf (Qh (Q9 (Qh (Qi [true,true,true,true] Z Z (Qa (Qe Z) Z (Qa (Qe Z) Z (Qa (Xn Z Z) Z (Qa (Qg Z) Z (Qf (Qw Z (fun hc1=>?_) (fun hc1=>?_))))))))))))))
 ·refine Qh (Qi [true] Z Z (Qa (Qg Z) Z (Qf (Qx (Qz (Q0 Z Z E (congrArg (Value.int .i64) ?_)))))))
  simp at *
  unfold Xr;(repeat' split) <;> first | rfl | omega
 ·refine Qh (Qi [true,true,true,true] Z Z (Qa (Qe Z) Z (Qa (Qe Z) Z (Qa (Un Z Z) Z (Qa (Qg Z) Z (Qf (Qw Z (fun hc2=>?_) (fun hc2=>?_))))))))
  ·refine Qh (Qi [true] Z Z (Qa (Qg Z) Z (Qf (Qx (Qz (Q0 Z Z E (congrArg (Value.int .i64) ?_)))))))
   simp at *
   unfold Xr;(repeat' split) <;> first | rfl | omega
  ·refine Qy (Yb (Yv (Qh (Qi [true] Z Z (Qa (Qg Z) Z (Qf (Qx (Q0 Z Z E (congrArg (Value.int .i64) ?_)))))))))
   simp at *
   unfold Xr;(repeat' split) <;> first | rfl | omega

set_option maxRecDepth 20000 in
theorem c_isNaN (a : Int) (w : World)  : Ct Tryz.prog 111 [.int .i64 a] w (fun v _=>v = .bool false):=by
 refine Yx Tryz.func111 Z Tryz.ntmps111 Z ?_
 refine Yh [(0,.int .i64 a)] ⟨Z,trivial⟩ ?_
 have E : Ext w w:=Ext.refl w
 refine Qh (Qi [true] Z Z (Qa (Qg Z) Z (Qf (Qh (Qi [true,true,true,true] Z Z (Qa (Qe Z) Z (Qa (Qe Z) Z (Qa (Xs Z Z) Z (Qa (Qg Z) Z (Qf (Qx (Q0 Z Z E ?_))))))))))))
 simp

set_option maxRecDepth 20000 in
theorem c_cmpCompare (a : Int) (b : Int) (w : World)  : Ct Tryz.prog 109 [.int .i64 a,.int .i64 b] w (fun v _=>v = .int .i64 (Xr a b)):=by
 refine Yx Tryz.func109 Z Tryz.ntmps109 Z ?_
 refine Yh [(0,.int .i64 a),(1,.int .i64 b)] ⟨Z,Z,trivial⟩ ?_
 have E : Ext w w:=Ext.refl w
 refine Qh (Qi [true] Z Z (Qa (Qg Z) Z (Qf (Qh (Qi [true,false,true] Z Z (Qa (Qe Z) Z (Qv Tryz.call111 Z (c_isNaN a _ ) Z (fun _ w1 e1 hv=>?_))))))))
 subst hv
 replace E:=E.trans e1
 have z1:=e1.size
 refine Qa (Qg Z) Z (Qf (Qh (Qi [true,false,true] Z Z (Qa (Qe Z) Z (Qv Tryz.call111 Z (c_isNaN b _ ) Z (fun _ w2 e2 hv=>?_))))))
 subst hv
 replace E:=E.trans e2
 have z2:=e2.size
 refine Qa (Qg Z) Z (Qf (Qh (Qh (Qi [true] Z Z (Qa (Qe Z) Z (Qf (S_condF Z (Qy (Qh (Qh (Qi [true] Z Z (Qa (Qe Z) Z (Qf (S_condF Z (Qy (Qh (Qh (Qi [true,true,true] Z Z (Qa (Qe Z) Z (Qa (Qe Z) Z (Qa (Xn Z Z) Z (Qf (Qw Z (fun hc1=>?_) (fun hc1=>?_))))))))))))))))))))))))
 ·refine Qh (Qi [true] Z Z (Qa (Qg Z) Z (Qf (Qx (Q0 Z Z E (congrArg (Value.int .i64) ?_))))))
  simp at *
  unfold Xr;(repeat' split) <;> first | rfl | omega
 ·refine Qy (Qh (Qh (Qi [true,true,true] Z Z (Qa (Qe Z) Z (Qa (Qe Z) Z (Qa (Un Z Z) Z (Qf (Qw Z (fun hc2=>?_) (fun hc2=>?_)))))))))
  ·refine Qh (Qi [true] Z Z (Qa (Qg Z) Z (Qf (Qx (Q0 Z Z E (congrArg (Value.int .i64) ?_))))))
   simp at *
   unfold Xr;(repeat' split) <;> first | rfl | omega
  ·refine Qy (Qh (Qi [true] Z Z (Qa (Qg Z) Z (Qf (Qx (Q0 Z Z E (congrArg (Value.int .i64) ?_)))))))
   simp at *
   unfold Xr;(repeat' split) <;> first | rfl | omega

set_option maxRecDepth 20000 in
theorem c_slicesCompare (vxs : Value) (xs : List Int) (vys : Value) (ys : List Int) (w : World) (hxs : RdS w vxs xs) (hys : RdS w vys ys) : Ct Tryz.prog 104 [vxs,vys] w (fun v _=>v = .int .i64 (Uw xs ys)):=by
 refine Yx Tryz.func104 Z Tryz.ntmps104 Z ?_
 refine Yh [(0,vxs),(1,vys)] ⟨Z,Z,trivial⟩ ?_
 have E : Ext w w:=Ext.refl w
 refine Qh (Qi [true] Z Z (Qa (Qg Z) Z (Qf (Qh (Qh (Qi [true,true,true] Z Z (Qa (Qe Z) Z (Qa (Yg Tryz.underlying29 Z (hxs.ext E).len) Z (Qa (Qe Z) Z (Qf (Q9 (Xk (fun (k : Nat)=>[(0,vxs),(1,vys),(4,.int .i64 0),(9,vxs),(10,.int .i64 ((xs.length : Nat) : Int)),(11,.int .i64 ((k : Nat) : Int))]) (fun (k : Nat) w'=>Ext w w' ∧ w.heap.size ≤ w'.heap.size ∧ k ≤ xs.length ∧ k ≤ ys.length ∧ Uw (xs.drop k) (ys.drop k) = Uw xs ys) (fun (k : Nat)=>xs.length - k) 0 ⟨Z,Z,Z,Z,Z,Z,trivial⟩ ⟨E,Nat.le_refl _,Nat.zero_le _,Nat.zero_le _,Z⟩ ?_))))))))))))
 clear E
 rintro k w1 ⟨E,z1,hk,hky,hI⟩
 refine Qh (Qi [true] Z Z (Qa (Xn Z Z) Z (Qf (Qh (Qw Z (fun hc1=>?_) (fun hc1=>?_))))))
 ·have hc1n : k < xs.length:=by first | (have h:=of_decide_eq_true hc1;omega) | (have h:=hc1;simp at h;omega)
  refine Qy (Qh (Q9 (Qh (Qi [true,true,true,true,true] Z Z (Qa (Qe Z) Z ?_)))))
  have hi1 : k < xs.length:=(by first | assumption | omega | (simp only [List.length_set];first | assumption | omega) | (simp only [List.getElem_set_self,List.length_set];first | assumption | omega) | (simp only [Xc,Yp,List.length_set];first | assumption | omega) | (simp;done))
  refine Qa (Ye (i:=k) Ke Z Z (hxs.ext E) hi1) Z (Qa (Qj Y6 Z (((hxs.ext E).get hi1).one 0 Z)) Z (Qa (Qg Z) Z (Qa (Qg Z) Z (Qf (Qh (Qh (Qi [true,true,true,true] Z Z (Qa (Qe Z) Z (Qa (Qe Z) Z (Qa (Yg Tryz.underlying29 Z (hys.ext E).len) Z (Qa (Hf Z Z) Z (Qf (Qw Z (fun hc2=>?_) (fun hc2=>?_))))))))))))))
  ·have hc2n : k ≥ ys.length:=by first | (have h:=of_decide_eq_true hc2;omega) | (have h:=hc2;simp at h;omega)
   refine Qh (Qi [true] Z Z (Qa (Qg Z) Z (Qf (Qx (Qz (Xb (Qz (Q0 Z Z E ?_))))))))
   exact cmpL_1 hI (by omega) (by omega)
  ·have hc2n : ¬ k ≥ ys.length:=by first | (have h:=of_decide_eq_false hc2;omega) | (have h:=hc2;simp at h;omega)
   refine Qy (Qh (Qi [true,true,true,true,true] Z Z (Qa (Qe Z) Z (Qa (Qe Z) Z ?_))))
   have hi2 : k < ys.length:=(by first | assumption | omega | (simp only [List.length_set];first | assumption | omega) | (simp only [List.getElem_set_self,List.length_set];first | assumption | omega) | (simp only [Xc,Yp,List.length_set];first | assumption | omega) | (simp;done))
   refine Qa (Ye (i:=k) Ke Z Z (hys.ext E) hi2) Z (Qa (Qj Y6 Z (((hys.ext E).get hi2).one 0 Z)) Z (Qa (Qg Z) Z (Qf (Qh (Qi [true,true,false,true] Z Z (Qa (Qe Z) Z (Qa (Qe Z) Z (Qv Tryz.call109 Z (c_cmpCompare (xs[k]'hi1) (ys[k]'hi2) _ ) Z (fun _ w2 e1 hv=>?_)))))))))
   subst hv
   replace E:=E.trans e1
   have z2:=e1.size
   refine Qa (Qg Z) Z (Qf (Qh (Qi [true,true] Z Z (Qa (Qe Z) Z (Qa (Xs Z Z) Z (Qf (Qw Z (fun hc3=>?_) (fun hc3=>?_))))))))
   ·refine Qh (Qi [true,true] Z Z (Qa (Qe Z) Z (Qa (Qg Z) Z (Qf (Qx (Qz (Xb (Qz (Q0 Z Z E ?_)))))))))
    exact cmpL_2 hI (by omega) (by omega) (by simpa using hc3)
   ·refine Qy (Yb (Yv (Qi [true,true] Z Z (Qa (Yw Z Z (Y7 hc1n hxs.1)) Z (Qa (Qe Z) Z (Qf (Yb (Yy (k + 1) (by omega) ⟨Z,Z,Z,Z,Z,Z,trivial⟩ ⟨E,(by omega),(by omega),(by omega),cmpL_step hI (by omega) (by omega) (by simpa using hc3)⟩))))))))
 ·have hc1n : ¬ k < xs.length:=by first | (have h:=of_decide_eq_false hc1;omega) | (have h:=hc1;simp at h;omega)
  refine Xl (Ys (Yj ?_))
  refine Qh (Qh (Qi [true,true,true,true,true] Z Z (Qa (Qe Z) Z (Qa (Yg Tryz.underlying29 Z (hxs.ext E).len) Z (Qa (Qe Z) Z (Qa (Yg Tryz.underlying29 Z (hys.ext E).len) Z (Qa (Xn Z Z) Z (Qf (Qw Z (fun hc4=>?_) (fun hc4=>?_))))))))))
  ·have hc4n : xs.length < ys.length:=by first | (have h:=of_decide_eq_true hc4;omega) | (have h:=hc4;simp at h;omega)
   refine Qh (Qi [true] Z Z (Qa (Qg Z) Z (Qf (Qx (Q0 Z Z E ?_)))))
   exact cmpL_3 hI (by omega) (by omega)
  ·have hc4n : ¬ xs.length < ys.length:=by first | (have h:=of_decide_eq_false hc4;omega) | (have h:=hc4;simp at h;omega)
   refine Qy (Qh (Qi [true] Z Z (Qa (Qg Z) Z (Qf (Qx (Q0 Z Z E ?_))))))
   exact cmpL_4 hI (by omega) (by omega)

set_option maxRecDepth 20000 in
theorem c_orderOf (vxs : Value) (xs : List Int) (vys : Value) (ys : List Int) (w : World) (hxs : RdS w vxs xs) (hys : RdS w vys ys) : Ct Tryz.prog 95 [vxs,vys] w (fun v _=>v = .int .i64 (Uw xs ys)):=by
 refine Yx Tryz.func95 Z Tryz.ntmps95 Z ?_
 refine Yh [(0,vxs),(1,vys)] ⟨Z,Z,trivial⟩ ?_
 have E : Ext w w:=Ext.refl w
 refine Qh (Qi [true] Z Z (Qa (Qg Z) Z (Qf (Qh (Qi [true,true,false,true] Z Z (Qa (Qe Z) Z (Qa (Qe Z) Z (Qv Tryz.call104 Z (c_slicesCompare vxs xs vys ys _ (hxs.ext E) (hys.ext E)) Z (fun _ w1 e1 hv=>?_)))))))))
 subst hv
 replace E:=E.trans e1
 have z1:=e1.size
 refine Qa (Qg Z) Z (Qf (Qx (Q0 Z Z E ?_)))
 rfl

set_option maxRecDepth 20000 in
theorem c_CellOrder (x : Cell) (y : Cell) (w : World)  : Ct Tryz.prog 76 [.agg (Enc.enc x).toArray,.agg (Enc.enc y).toArray] w (fun v _=>v = .int .i64 (X4 x y)):=by
 refine Yx Tryz.func76 Z Tryz.ntmps76 Z ?_
 refine Yh [(0,.agg (Enc.enc x).toArray),(1,.agg (Enc.enc y).toArray)] ⟨Z,Z,trivial⟩ ?_
 have E : Ext w w:=Ext.refl w
 refine Qh (Qi [false,false,true] Z Z (Y5 Z Z (fun b1 w1 e1 s1 h1=>?_)))
 have g_b1 : w.heap.size ≤ b1:=by have:=E.size;omega
 have y_b1:=h1.lt
 replace E:=E.trans e1
 have z1:=e1.size
 refine Y5 Z Z (fun b2 w2 e2 s2 h2=>?_)
 have g_b2 : w.heap.size ≤ b2:=by have:=E.size;omega
 have y_b2:=h2.lt
 replace E:=E.trans e2;replace h1:=h1.ext e2
 have z2:=e2.size
 refine Qa (Qg Z) Z (Qf (Qh (Qi [true,true,true,true,true,true,true,true,false,true,true,true,true,true,true,true,true,false,false,true] Z Z (Qa (Qd Vd Z) Z (Qa (Qj Y6 Z (h1.one 1 Z)) Z (Qa (Qd Ve Z) Z (Qa (Qj Y6 Z (h1.one 0 Z)) Z (Qa (Qd Vc Z) Z (Qa (Qj Y6 Z (h1.one 2 Z)) Z (Qa (Qd V6 Z) Z (Qa (Qj Y6 Z (h1.one 3 Z)) Z (Q8 (vs:=[.int .i64 x.epoch,.int .i64 x.op,.int .i64 x.key,.int .i64 x.val]) (css:=[[.int .i64 x.epoch],[.int .i64 x.op],[.int .i64 x.key],[.int .i64 x.val]]) Ke Z Z ⟨⟨Z,Z⟩,⟨Z,Z⟩,⟨Z,Z⟩,⟨Z,Z⟩,trivial⟩ Z Z (fun b3 w3 e3 s3 h3=>?_)))))))))))))
 replace h3 : Blk w3 b3 [.int .i64 x.epoch,.int .i64 x.op,.int .i64 x.key,.int .i64 x.val]:=h3
 have g_b3 : w.heap.size ≤ b3:=by have:=E.size;omega
 have y_b3:=h3.lt
 replace E:=E.trans e3;replace h1:=h1.ext e3;replace h2:=h2.ext e3
 have z3:=e3.size
 refine Qa (Qd Vd Z) Z (Qa (Qj Y6 Z (h2.one 1 Z)) Z (Qa (Qd Ve Z) Z (Qa (Qj Y6 Z (h2.one 0 Z)) Z (Qa (Qd Vc Z) Z (Qa (Qj Y6 Z (h2.one 2 Z)) Z (Qa (Qd V6 Z) Z (Qa (Qj Y6 Z (h2.one 3 Z)) Z (Q8 (vs:=[.int .i64 y.epoch,.int .i64 y.op,.int .i64 y.key,.int .i64 y.val]) (css:=[[.int .i64 y.epoch],[.int .i64 y.op],[.int .i64 y.key],[.int .i64 y.val]]) Ke Z Z ⟨⟨Z,Z⟩,⟨Z,Z⟩,⟨Z,Z⟩,⟨Z,Z⟩,trivial⟩ Z Z (fun b4 w4 e4 s4 h4=>?_)))))))))
 replace h4 : Blk w4 b4 [.int .i64 y.epoch,.int .i64 y.op,.int .i64 y.key,.int .i64 y.val]:=h4
 have g_b4 : w.heap.size ≤ b4:=by have:=E.size;omega
 have y_b4:=h4.lt
 replace E:=E.trans e4;replace h1:=h1.ext e4;replace h2:=h2.ext e4;replace h3:=h3.ext e4
 have z4:=e4.size
 refine Qv Tryz.call95 Z (c_orderOf (.slice (some ⟨b3,0,none⟩) 4 4) [x.epoch,x.op,x.key,x.val] (.slice (some ⟨b4,0,none⟩) 4 4) [y.epoch,y.op,y.key,y.val] _ (Blk.rd (α:=Int) (xs:=[x.epoch,x.op,x.key,x.val]) (by decide) h3 Z (by simp [maxLen])) (Blk.rd (α:=Int) (xs:=[y.epoch,y.op,y.key,y.val]) (by decide) h4 Z (by simp [maxLen]))) Z (fun _ w5 e5 hv=>?_)
 subst hv
 replace E:=E.trans e5;replace h1:=h1.ext e5;replace h2:=h2.ext e5;replace h3:=h3.ext e5;replace h4:=h4.ext e5
 have z5:=e5.size
 refine Qa (Qg Z) Z (Qf (Qx (Q0 Z Z E ?_)))
 rfl

set_option maxRecDepth 20000 in
theorem s_CellOrder (x : Cell) (y : Cell) (w : World)  : Ct Tryz.prog 71 [.agg (Enc.enc x).toArray,.agg (Enc.enc y).toArray] w (fun v _=>v = .int .i64 (X4 x y)):=by
 refine Yx Tryz.func71 Z Tryz.ntmps71 Z ?_
 refine Yh [(0,.agg (Enc.enc x).toArray),(1,.agg (Enc.enc y).toArray)] ⟨Z,Z,trivial⟩ ?_
 have E : Ext w w:=Ext.refl w
 refine Qh (Qi [false,false,true] Z Z (Y5 Z Z (fun b1 w1 e1 s1 h1=>?_)))
 have g_b1 : w.heap.size ≤ b1:=by have:=E.size;omega
 have y_b1:=h1.lt
 replace E:=E.trans e1
 have z1:=e1.size
 refine Y5 Z Z (fun b2 w2 e2 s2 h2=>?_)
 have g_b2 : w.heap.size ≤ b2:=by have:=E.size;omega
 have y_b2:=h2.lt
 replace E:=E.trans e2;replace h1:=h1.ext e2
 have z2:=e2.size
 refine Qa (Qg Z) Z (Qf (Qh (Xu Xo [(0,true),(1,true),(2,true),(3,true),(5,true),(6,true),(7,true),(8,true),(10,true),(11,true),(12,true),(13,true),(15,true),(16,true),(17,true),(18,true),(4,false),(9,false),(14,false),(19,false),(20,false),(21,true)] (by decide +kernel) Z (fun w3 e3=>?_))))
 replace E:=E.trans e3;replace h1:=h1.ext e3;replace h2:=h2.ext e3
 have z3:=e3.size
 refine Qa (Qd Vd Z) Z (Qa (Qj Y6 Z (h1.one 1 Z)) Z (Qa (Qd Vd Z) Z (Qa (Qj Y6 Z (h2.one 1 Z)) Z (Qa (Qd Ve Z) Z (Qa (Qj Y6 Z (h1.one 0 Z)) Z (Qa (Qd Ve Z) Z (Qa (Qj Y6 Z (h2.one 0 Z)) Z (Qa (Qd Vc Z) Z (Qa (Qj Y6 Z (h1.one 2 Z)) Z (Qa (Qd Vc Z) Z (Qa (Qj Y6 Z (h2.one 2 Z)) Z (Qa (Qd V6 Z) Z (Qa (Qj Y6 Z (h1.one 3 Z)) Z (Qa (Qd V6 Z) Z (Qa (Qj Y6 Z (h2.one 3 Z)) Z (Qv Tryz.call91 Z (c_l02Order x.epoch y.epoch _ ) Z (fun _ w4 e4 hv=>?_)))))))))))))))))
 subst hv
 replace E:=E.trans e4;replace h1:=h1.ext e4;replace h2:=h2.ext e4
 have z4:=e4.size
 refine Qv Tryz.call91 Z (c_l02Order x.op y.op _ ) Z (fun _ w5 e5 hv=>?_)
 subst hv
 replace E:=E.trans e5;replace h1:=h1.ext e5;replace h2:=h2.ext e5
 have z5:=e5.size
 refine Qv Tryz.call91 Z (c_l02Order x.key y.key _ ) Z (fun _ w6 e6 hv=>?_)
 subst hv
 replace E:=E.trans e6;replace h1:=h1.ext e6;replace h2:=h2.ext e6
 have z6:=e6.size
 refine Qv Tryz.call91 Z (c_l02Order x.val y.val _ ) Z (fun _ w7 e7 hv=>?_)
 subst hv
 replace E:=E.trans e7;replace h1:=h1.ext e7;replace h2:=h2.ext e7
 have z7:=e7.size
 refine Q8 (vs:=[.int .i64 (Xr x.epoch y.epoch),.int .i64 (Xr x.op y.op),.int .i64 (Xr x.key y.key),.int .i64 (Xr x.val y.val)]) (css:=[[.int .i64 (Xr x.epoch y.epoch)],[.int .i64 (Xr x.op y.op)],[.int .i64 (Xr x.key y.key)],[.int .i64 (Xr x.val y.val)]]) Ke Z Z ⟨⟨Z,Z⟩,⟨Z,Z⟩,⟨Z,Z⟩,⟨Z,Z⟩,trivial⟩ Z Z (fun b3 w8 e8 s3 h3=>?_)
 replace h3 : Blk w8 b3 [.int .i64 (Xr x.epoch y.epoch),.int .i64 (Xr x.op y.op),.int .i64 (Xr x.key y.key),.int .i64 (Xr x.val y.val)]:=h3
 have g_b3 : w.heap.size ≤ b3:=by have:=E.size;omega
 have y_b3:=h3.lt
 replace E:=E.trans e8;replace h1:=h1.ext e8;replace h2:=h2.ext e8
 have z8:=e8.size
 refine Qa (Qg Z) Z (Qf (Qh (Qh (Qi [true] Z Z (Qa (Qg Z) Z (Qf (Q9 (Xk (fun (k : Nat)=>[(4,.int .i64 0),(5,.slice (some ⟨b3,0,none⟩) 4 4),(6,.int .i64 ((k : Nat) : Int))]) (fun (k : Nat) w'=>Ext w w' ∧ w8.heap.size ≤ w'.heap.size ∧ Blk w' b1 (Enc.enc x) ∧ Blk w' b2 (Enc.enc y) ∧ Blk w' b3 [.int .i64 (Xr x.epoch y.epoch),.int .i64 (Xr x.op y.op),.int .i64 (Xr x.key y.key),.int .i64 (Xr x.val y.val)] ∧ k ≤ 4 ∧ Kk (List.drop k [Xr x.epoch y.epoch,Xr x.op y.op,Xr x.key y.key,Xr x.val y.val]) = Kk [Xr x.epoch y.epoch,Xr x.op y.op,Xr x.key y.key,Xr x.val y.val]) (fun (k : Nat)=>4 - k) 0 ⟨Z,Z,Z,trivial⟩ ⟨E,Nat.le_refl _,h1,h2,h3,Nat.zero_le _,Z⟩ ?_))))))))
 clear E h1 h2 h3
 rintro k w9 ⟨E,z9,h1,h2,h3,hk,hI⟩
 refine Qh (Qh (Qi [true,true] Z Z (Qa (Qe Z) Z (Qa (Xn Z Z) Z (Qf (Qw Z (fun hc1=>?_) (fun hc1=>?_)))))))
 ·have hc1n : k < 4:=by first | (have h:=of_decide_eq_true hc1;omega) | (have h:=hc1;simp at h;omega)
  refine Qy (Qh (Q9 (Qh (Qi [true,true,true,true,true] Z Z (Qa (Qe Z) Z (Qa (Qe Z) Z ?_))))))
  have hi1 : k < [Xr x.epoch y.epoch,Xr x.op y.op,Xr x.key y.key,Xr x.val y.val].length:=(by first | assumption | omega | (simp only [List.length_set];first | assumption | omega) | (simp only [List.getElem_set_self,List.length_set];first | assumption | omega) | (simp only [Xc,Yp,List.length_set];first | assumption | omega) | (simp;done))
  refine Qa (Ye (i:=k) Ke Z Z (Blk.rd (α:=Int) (xs:=[Xr x.epoch y.epoch,Xr x.op y.op,Xr x.key y.key,Xr x.val y.val]) (by decide) h3 Z (by simp [maxLen])) hi1) Z (Qa (Qj Y6 Z (((Blk.rd (α:=Int) (xs:=[Xr x.epoch y.epoch,Xr x.op y.op,Xr x.key y.key,Xr x.val y.val]) (by decide) h3 Z (by simp [maxLen])).get hi1).one 0 Z)) Z (Qa (Xs Z Z) Z (Qf (Qw Z (fun hc2=>?_) (fun hc2=>?_)))))
  ·refine Qh (Qi [true,true,true,true,true] Z Z (Qa (Qe Z) Z (Qa (Qe Z) Z (Qa (Ye (i:=k) Ke Z Z (Blk.rd (α:=Int) (xs:=[Xr x.epoch y.epoch,Xr x.op y.op,Xr x.key y.key,Xr x.val y.val]) (by decide) h3 Z (by simp [maxLen])) hi1) Z (Qa (Qj Y6 Z (((Blk.rd (α:=Int) (xs:=[Xr x.epoch y.epoch,Xr x.op y.op,Xr x.key y.key,Xr x.val y.val]) (by decide) h3 Z (by simp [maxLen])).get hi1).one 0 Z)) Z (Qa (Qg Z) Z (Qf (Qx (Qz (Xb (Qz (Q0 Z Z E ?_))))))))))))
   exact cellOrd_a (firstNZ_yes hI (by simpa using hc1n) (by simpa using hc2))
  ·refine Qy (Yb (Yv (Qi [true,true,true] Z Z (Qa (Qe Z) Z (Qa (Yw Z Z (Y7 hc1n (by first | assumption | (unfold maxLen;omega)))) Z (Qa (Qg Z) Z (Qf (Yb (Yy (k + 1) (by omega) ⟨Z,Z,Z,trivial⟩ ⟨E,(by omega),h1,h2,h3,(by omega),firstNZ_step hI (by simpa using hc1n) (by simpa using hc2)⟩)))))))))
 ·have hc1n : ¬ k < 4:=by first | (have h:=of_decide_eq_false hc1;omega) | (have h:=hc1;simp at h;omega)
  refine Xl (Ys (Yj ?_))
  refine Qh (Qi [true] Z Z (Qa (Qg Z) Z (Qf (Qx (Q0 Z Z E ?_)))))
  exact cellOrd_b (firstNZ_no hI (by simp;omega))

set_option maxRecDepth 20000 in
theorem s_HasCell (vxs : Value) (xs : List Cell) (x : Cell) (w : World) (hxs : RdS w vxs xs) : Ct Tryz.prog 86 [vxs,.agg (Enc.enc x).toArray] w (fun v _=>v = .bool (decide (x ∈ xs))):=by
 refine Yx Tryz.func86 Z Tryz.ntmps86 Z ?_
 refine Yh [(0,vxs),(1,.agg (Enc.enc x).toArray)] ⟨Z,Z,trivial⟩ ?_
 have E : Ext w w:=Ext.refl w
 refine Qh (Qi [false,true] Z Z (Y5 Z Z (fun b1 w1 e1 s1 h1=>?_)))
 have g_b1 : w.heap.size ≤ b1:=by have:=E.size;omega
 have y_b1:=h1.lt
 replace E:=E.trans e1
 have z1:=e1.size
 refine Qa (Qg Z) Z (Qf (Qh (Qh (Qi [true] Z Z (Qa (Qg Z) Z (Qf (Q9 (Xk (fun (k : Nat)=>[(0,vxs),(3,.pointer (some ⟨b1,0,none⟩)),(4,.bool false),(5,.int .i64 ((k : Nat) : Int))]) (fun (k : Nat) w'=>Ext w w' ∧ w1.heap.size ≤ w'.heap.size ∧ Blk w' b1 (Enc.enc x) ∧ k ≤ xs.length ∧ x ∉ xs.take k) (fun (k : Nat)=>xs.length - k) 0 ⟨Z,Z,Z,Z,trivial⟩ ⟨E,Nat.le_refl _,h1,Nat.zero_le _,(by simp)⟩ ?_))))))))
 clear E h1
 rintro k w2 ⟨E,z2,h1,hk,hI⟩
 refine Qh (Qh (Qi [true,true,true,true] Z Z (Qa (Qe Z) Z (Qa (Qe Z) Z (Qa (Yg Tryz.underlying28 Z (hxs.ext E).len) Z (Qa (Xn Z Z) Z (Qf (Qw Z (fun hc1=>?_) (fun hc1=>?_)))))))))
 ·have hc1n : k < xs.length:=by first | (have h:=of_decide_eq_true hc1;omega) | (have h:=hc1;simp at h;omega)
  refine Qy (Qh (Q9 (Qh (Xu Xo [(0,true),(1,true),(2,true),(3,true),(4,true),(5,true)] (by decide +kernel) Z (fun w3 e2=>?_)))))
  replace E:=E.trans e2;replace h1:=h1.ext e2
  have z3:=e2.size
  refine Qa (Qe Z) Z (Qa (Qe Z) Z ?_)
  have hi1 : k < xs.length:=(by first | assumption | omega | (simp only [List.length_set];first | assumption | omega) | (simp only [List.getElem_set_self,List.length_set];first | assumption | omega) | (simp only [Xc,Yp,List.length_set];first | assumption | omega) | (simp;done))
  refine Qa (Ye (i:=k) X0 Z Z (hxs.ext E) hi1) Z (Qa (Qo Ku Z ((hxs.ext E).get hi1) Z) Z (Qa (Qo Ku Z h1.at Z) Z (Qa (R_eqlS (eq87 (xs[k]'hi1) x) eqg87 Z Z) Z (Qf (Qw Z (fun hc2=>?_) (fun hc2=>?_))))))
  ·refine Qh (Qi [true] Z Z (Qa (Qg Z) Z (Qf (Qx (Qz (Xb (Qz (Q0 Z Z E ?_))))))))
   exact has_yes hc1n (by simpa using hc2)
  ·refine Qy (Yb (Yv (Qi [true,true,true] Z Z (Qa (Qe Z) Z (Qa (Yw Z Z (Y7 hc1n hxs.1)) Z (Qa (Qg Z) Z (Qf (Yb (Yy (k + 1) (by omega) ⟨Z,Z,Z,Z,trivial⟩ ⟨E,(by omega),h1,(by omega),has_step hI (by assumption) (by simpa using hc2)⟩)))))))))
 ·have hc1n : ¬ k < xs.length:=by first | (have h:=of_decide_eq_false hc1;omega) | (have h:=hc1;simp at h;omega)
  refine Xl (Ys (Yj ?_))
  refine Qh (Qi [true] Z Z (Qa (Qg Z) Z (Qf (Qx (Q0 Z Z E ?_)))))
  exact has_no hI (by omega)

set_option maxRecDepth 20000 in
theorem c_slicesIndex (vxs : Value) (xs : List Cell) (x : Cell) (w : World) (hxs : RdS w vxs xs) : Ct Tryz.prog 108 [vxs,.agg (Enc.enc x).toArray] w (fun v _=>v = .int .i64 (idxI xs x)):=by
 refine Yx Tryz.func108 Z Tryz.ntmps108 Z ?_
 refine Yh [(0,vxs),(1,.agg (Enc.enc x).toArray)] ⟨Z,Z,trivial⟩ ?_
 have E : Ext w w:=Ext.refl w
 refine Qh (Qi [false,true] Z Z (Y5 Z Z (fun b1 w1 e1 s1 h1=>?_)))
 have g_b1 : w.heap.size ≤ b1:=by have:=E.size;omega
 have y_b1:=h1.lt
 replace E:=E.trans e1
 have z1:=e1.size
 refine Qa (Qg Z) Z (Qf (Qh (Qh (Qi [true,true,true] Z Z (Qa (Qe Z) Z (Qa (Yg Tryz.underlying28 Z (hxs.ext E).len) Z (Qa (Qe Z) Z (Qf (Q9 (Xk (fun (k : Nat)=>[(0,vxs),(3,.pointer (some ⟨b1,0,none⟩)),(4,.int .i64 0),(7,.int .i64 ((xs.length : Nat) : Int)),(8,.int .i64 ((k : Nat) : Int))]) (fun (k : Nat) w'=>Ext w w' ∧ w1.heap.size ≤ w'.heap.size ∧ Blk w' b1 (Enc.enc x) ∧ k ≤ xs.length ∧ x ∉ xs.take k) (fun (k : Nat)=>xs.length - k) 0 ⟨Z,Z,Z,Z,Z,trivial⟩ ⟨E,Nat.le_refl _,h1,Nat.zero_le _,(by simp)⟩ ?_))))))))))
 clear E h1
 rintro k w2 ⟨E,z2,h1,hk,hI⟩
 refine Qh (Qi [true] Z Z (Qa (Xn Z Z) Z (Qf (Qh (Qw Z (fun hc1=>?_) (fun hc1=>?_))))))
 ·have hc1n : k < xs.length:=by first | (have h:=of_decide_eq_true hc1;omega) | (have h:=hc1;simp at h;omega)
  refine Qy (Qh (Q9 (Qh (Qi [true,true] Z Z (Qa (Qe Z) Z (Qa (Qg Z) Z (Qf (Qh (Xu Xo [(0,true),(1,true),(2,true),(3,true),(4,true),(5,true)] (by decide +kernel) Z (fun w3 e2=>?_))))))))))
  replace E:=E.trans e2;replace h1:=h1.ext e2
  have z3:=e2.size
  refine Qa (Qo Ku Z h1.at Z) Z (Qa (Qe Z) Z (Qa (Qe Z) Z ?_))
  have hi1 : k < xs.length:=(by first | assumption | omega | (simp only [List.length_set];first | assumption | omega) | (simp only [List.getElem_set_self,List.length_set];first | assumption | omega) | (simp only [Xc,Yp,List.length_set];first | assumption | omega) | (simp;done))
  refine Qa (Ye (i:=k) X0 Z Z (hxs.ext E) hi1) Z (Qa (Qo Ku Z ((hxs.ext E).get hi1) Z) Z (Qa (R_eqlS (eq87 x (xs[k]'hi1)) eqg87 Z Z) Z (Qf (Qw Z (fun hc2=>?_) (fun hc2=>?_)))))
  ·refine Qh (Qi [true,true] Z Z (Qa (Qe Z) Z (Qa (Qg Z) Z (Qf (Qx (Qz (Xb (Qz (Q0 Z Z E ?_)))))))))
   exact idx_yes hI hc1n (by simpa [eq_comm] using hc2)
  ·refine Qy (Yb (Yv (Qi [true,true] Z Z (Qa (Yw Z Z (Y7 hc1n hxs.1)) Z (Qa (Qe Z) Z (Qf (Yb (Yy (k + 1) (by omega) ⟨Z,Z,Z,Z,Z,trivial⟩ ⟨E,(by omega),h1,(by omega),has_step hI (by assumption) (by simpa [eq_comm] using hc2)⟩))))))))
 ·have hc1n : ¬ k < xs.length:=by first | (have h:=of_decide_eq_false hc1;omega) | (have h:=hc1;simp at h;omega)
  refine Xl (Ys (Yj ?_))
  refine Qh (Qi [true] Z Z (Qa (Qg Z) Z (Qf (Qx (Q0 Z Z E ?_)))))
  exact idx_no hI (by omega)

set_option maxRecDepth 20000 in
theorem c_slicesContains (vxs : Value) (xs : List Cell) (x : Cell) (w : World) (hxs : RdS w vxs xs) : Ct Tryz.prog 102 [vxs,.agg (Enc.enc x).toArray] w (fun v _=>v = .bool (decide (x ∈ xs))):=by
 refine Yx Tryz.func102 Z Tryz.ntmps102 Z ?_
 refine Yh [(0,vxs),(1,.agg (Enc.enc x).toArray)] ⟨Z,Z,trivial⟩ ?_
 have E : Ext w w:=Ext.refl w
 refine Qh (Qi [false,true] Z Z (Y5 Z Z (fun b1 w1 e1 s1 h1=>?_)))
 have g_b1 : w.heap.size ≤ b1:=by have:=E.size;omega
 have y_b1:=h1.lt
 replace E:=E.trans e1
 have z1:=e1.size
 refine Qa (Qg Z) Z (Qf (Qh (Qi [true,true,false,true,true] Z Z (Qa (Qe Z) Z (Qa (Qo Ku Z h1.at Z) Z (Qv Tryz.call108 Z (c_slicesIndex vxs xs x _ (hxs.ext E)) Z (fun _ w2 e2 hv=>?_)))))))
 subst hv
 replace E:=E.trans e2;replace h1:=h1.ext e2
 have z2:=e2.size
 refine Qa (Hf Z Z) Z (Qa (Qg Z) Z (Qf (Qx (Q0 Z Z E ?_))))
 exact has_idx

set_option maxRecDepth 20000 in
theorem c_HasCell (vxs : Value) (xs : List Cell) (x : Cell) (w : World) (hxs : RdS w vxs xs) : Ct Tryz.prog 83 [vxs,.agg (Enc.enc x).toArray] w (fun v _=>v = .bool (decide (x ∈ xs))):=by
 refine Yx Tryz.func83 Z Tryz.ntmps83 Z ?_
 refine Yh [(0,vxs),(1,.agg (Enc.enc x).toArray)] ⟨Z,Z,trivial⟩ ?_
 have E : Ext w w:=Ext.refl w
 refine Qh (Qi [false,true] Z Z (Y5 Z Z (fun b1 w1 e1 s1 h1=>?_)))
 have g_b1 : w.heap.size ≤ b1:=by have:=E.size;omega
 have y_b1:=h1.lt
 replace E:=E.trans e1
 have z1:=e1.size
 refine Qa (Qg Z) Z (Qf (Qh (Qi [true,true,false,true] Z Z (Qa (Qe Z) Z (Qa (Qo Ku Z h1.at Z) Z (Qv Tryz.call102 Z (c_slicesContains vxs xs x _ (hxs.ext E)) Z (fun _ w2 e2 hv=>?_)))))))
 subst hv
 replace E:=E.trans e2;replace h1:=h1.ext e2
 have z2:=e2.size
 refine Qa (Qg Z) Z (Qf (Qx (Q0 Z Z E ?_)))
 rfl

set_option maxRecDepth 20000 in
theorem c_sameSlot (x : Cell) (y : Cell) (w : World)  : Ct Tryz.prog 100 [.agg (Enc.enc x).toArray,.agg (Enc.enc y).toArray] w (fun v _=>v = .bool (Kx x y)):=by
 refine Yx Tryz.func100 Z Tryz.ntmps100 Z ?_
 refine Yh [(0,.agg (Enc.enc x).toArray),(1,.agg (Enc.enc y).toArray)] ⟨Z,Z,trivial⟩ ?_
 have E : Ext w w:=Ext.refl w
 refine Qh (Qi [false,false,true] Z Z (Y5 Z Z (fun b1 w1 e1 s1 h1=>?_)))
 have g_b1 : w.heap.size ≤ b1:=by have:=E.size;omega
 have y_b1:=h1.lt
 replace E:=E.trans e1
 have z1:=e1.size
 refine Y5 Z Z (fun b2 w2 e2 s2 h2=>?_)
 have g_b2 : w.heap.size ≤ b2:=by have:=E.size;omega
 have y_b2:=h2.lt
 replace E:=E.trans e2;replace h1:=h1.ext e2
 have z2:=e2.size
 refine Qa (Qg Z) Z (Qf (Qh (Qi [true,true,true,true,true,true,true,true,true,true,true,true,true,true,true,true,true,true,true,true] Z Z (Qa (Qd Ve Z) Z (Qa (Qj Y6 Z (h1.one 0 Z)) Z (Qa (Qd Ve Z) Z (Qa (Qj Y6 Z (h2.one 0 Z)) Z (Qa (Yq Z Z) Z (Qa (Qe Z) Z (Xg 13 [(0,.agg (Enc.enc x).toArray),(1,.agg (Enc.enc y).toArray),(2,.pointer (some ⟨b1,0,none⟩)),(3,.pointer (some ⟨b2,0,none⟩)),(4,.bool false),(23,.bool (((x.op == y.op) && (x.epoch == y.epoch)) && (x.key == y.key)))] (fun w'=>w2 = w') ?_ ?_))))))))))
 ·refine Ym (gd:=10) Z Z (fun hg1=>?_) (fun hg1=>?_)
  ·refine Qk Z Z (Qd Vd Z) Z (Qk Z Z (Qj Y6 Z (h1.one 1 Z)) Z (Qk Z Z (Qd Vd Z) Z (Qk Z Z (Qj Y6 Z (h2.one 1 Z)) Z (Qk Z Z (Yq Z Z) Z (Qa (Qr Z Z) Z (Qa (Qe Z) Z ?_))))))
   refine Ym (gd:=17) Z Z (fun hg2=>?_) (fun hg2=>?_)
   ·refine Qk Z Z (Qd Vc Z) Z (Qk Z Z (Qj Y6 Z (h1.one 2 Z)) Z (Qk Z Z (Qd Vc Z) Z (Qk Z Z (Qj Y6 Z (h2.one 2 Z)) Z (Qk Z Z (Yq Z Z) Z (Qa (Qr Z Z) Z (Ql ⟨Z,Z,Z,Z,Z,congrArg (fun b=>some (Value.bool b)) (show (x.key == y.key) = (((x.op == y.op) && (x.epoch == y.epoch)) && (x.key == y.key)) by first | (rw [hg1,hg2] <;> rfl) | (simp [hg1,hg2];done) | (simp only [Qp] <;> simp)),trivial⟩ Z))))))
   ·refine Qc Z Z Z Z (Qc Z Z Z Z (Qc Z Z Z Z (Qc Z Z Z Z (Qc Z Z Z Z (Qa (Qq Z Z) Z (Ql ⟨Z,Z,Z,Z,Z,congrArg (fun b=>some (Value.bool b)) (show false = (((x.op == y.op) && (x.epoch == y.epoch)) && (x.key == y.key)) by first | (rw [hg1,hg2] <;> rfl) | (simp [hg1,hg2];done) | (simp only [Qp] <;> simp)),trivial⟩ Z))))))
  ·refine Qc Z Z Z Z (Qc Z Z Z Z (Qc Z Z Z Z (Qc Z Z Z Z (Qc Z Z Z Z (Qa (Qq Z Z) Z (Qa (Qe Z) Z (Qc Z Z Z Z (Qc Z Z Z Z (Qc Z Z Z Z (Qc Z Z Z Z (Qc Z Z Z Z (Qa (Qq Z Z) Z (Ql ⟨Z,Z,Z,Z,Z,congrArg (fun b=>some (Value.bool b)) (show false = (((x.op == y.op) && (x.epoch == y.epoch)) && (x.key == y.key)) by first | (rw [hg1] <;> rfl) | (simp [hg1];done) | (simp only [Qp] <;> simp)),trivial⟩ Z)))))))))))))
 rintro _ rfl
 refine Qa (Qg Z) Z (Qf (Qx (Q0 Z Z E ?_)))
 rfl

set_option maxRecDepth 20000 in
theorem c_LeastOf (vxs : Value) (xs : List Cell) (op : Int) (epoch : Int) (key : Int) (w : World) (hxs : RdS w vxs xs) : Ct Tryz.prog 97 [vxs,.int .i64 op,.int .i64 epoch,.int .i64 key] w (fun v _=>v = .tuple [.int .i64 ((Yk xs op epoch key).1),.bool ((Yk xs op epoch key).2)].toArray):=by
 refine Yx Tryz.func97 Z Tryz.ntmps97 Z ?_
 refine Yh [(0,vxs),(1,.int .i64 op),(2,.int .i64 epoch),(3,.int .i64 key)] ⟨Z,Z,Z,Z,trivial⟩ ?_
 have E : Ext w w:=Ext.refl w
 refine Qh (Qi [true,true] Z Z (Qa (Qg Z) Z (Qa (Qg Z) Z (Qf (Qh (Qi [true,true] Z Z (Qa (Qg Z) Z (Qa (Qg Z) Z (Qf (Qh (Qh (Qi [true,true,true] Z Z (Qa (Qe Z) Z (Qa (Yg Tryz.underlying28 Z (hxs.ext E).len) Z (Qa (Qe Z) Z (Qf (Q9 (Xk (fun (xq : Nat × Int × Bool)=>let ⟨k,n,s⟩:=xq;[(1,.int .i64 op),(2,.int .i64 epoch),(3,.int .i64 key),(8,.int .i64 0),(9,.bool false),(10,.int .i64 n),(11,.bool s),(14,vxs),(15,.int .i64 ((xs.length : Nat) : Int)),(16,.int .i64 ((k : Nat) : Int))]) (fun (xq : Nat × Int × Bool) w'=>let ⟨k,n,s⟩:=xq;Ext w w' ∧ w.heap.size ≤ w'.heap.size ∧ k ≤ xs.length ∧ Kj op epoch key (xs.drop k) n s = Yk xs op epoch key) (fun (xq : Nat × Int × Bool)=>let ⟨k,n,s⟩:=xq;xs.length - k) (0,0,false) ⟨Z,Z,Z,Z,Z,Z,Z,Z,Z,Z,trivial⟩ ⟨E,Nat.le_refl _,Nat.zero_le _,Z⟩ ?_))))))))))))))))))
 clear E
 rintro ⟨k,n,s⟩ w1 ⟨E,z1,hk,hI⟩
 refine Yh [(1,.int .i64 op),(2,.int .i64 epoch),(3,.int .i64 key),(8,.int .i64 0),(9,.bool false),(10,.int .i64 n),(11,.bool s),(14,vxs),(15,.int .i64 ((xs.length : Nat) : Int)),(16,.int .i64 ((k : Nat) : Int))] ⟨Z,Z,Z,Z,Z,Z,Z,Z,Z,Z,trivial⟩ ?_
 refine Qh (Qi [true] Z Z (Qa (Xn Z Z) Z (Qf (Qh (Qw Z (fun hc1=>?_) (fun hc1=>?_))))))
 ·have hc1n : k < xs.length:=by first | (have h:=of_decide_eq_true hc1;omega) | (have h:=hc1;simp at h;omega)
  refine Qy (Qh (Q9 (Qh (Qi [true,true,false,false] Z Z ?_))))
  have hi1 : k < xs.length:=(by first | assumption | omega | (simp only [List.length_set];first | assumption | omega) | (simp only [List.getElem_set_self,List.length_set];first | assumption | omega) | (simp only [Xc,Yp,List.length_set];first | assumption | omega) | (simp;done))
  refine Qa (Ye (i:=k) X0 Z Z (hxs.ext E) hi1) Z (Qa (Qo Ku Z ((hxs.ext E).get hi1) Z) Z (Q6 Ku Z (fun b1 w2 e1 s1 h1=>?_)))
  have g_b1 : w.heap.size ≤ b1:=by have:=E.size;omega
  have y_b1:=h1.lt
  replace E:=E.trans e1
  have z2:=e1.size
  refine Qs (cs':=[.int .i64 ((xs[k]'hi1).op),.int .i64 ((xs[k]'hi1).epoch),.int .i64 ((xs[k]'hi1).key),.int .i64 ((xs[k]'hi1).val)]) Ku Z Z Z Z h1 (Nat.le_of_ble_eq_true Z) Z (fun w3 m1 h1'=>?_)
  replace h1:=h1'
  replace E:=E.step m1 (fun g hg=>by cases hg;omega)
  have z3:=m1.size
  refine Qf (Qh (Qi [true,true,true,true,true,false,true,true,true,true,true,true,true,true,true,true] Z Z (Qa (Qo Ku Z h1.at Z) Z (Qa (Qe Z) Z (Qa (Qe Z) Z (Qa (Qe Z) Z (Qa (Kl (⟨op,epoch,key,0⟩ : Cell) Z (fun _=>by kernel_rfl)) Z (Qv Tryz.call100 Z (c_sameSlot (xs[k]'hi1) (⟨op,epoch,key,0⟩ : Cell) _ ) Z (fun _ w4 e2 hv=>?_)))))))))
  subst hv
  replace E:=E.trans e2;replace h1:=h1.ext e2
  have z4:=e2.size
  refine Qa (Qe Z) Z (Xg 9 [(1,.int .i64 op),(2,.int .i64 epoch),(3,.int .i64 key),(8,.int .i64 0),(9,.bool false),(10,.int .i64 n),(11,.bool s),(13,.pointer (some ⟨b1,0,none⟩)),(14,vxs),(15,.int .i64 ((xs.length : Nat) : Int)),(16,.int .i64 ((k : Nat) : Int)),(17,.bool (decide (((k : Nat) : Int) < ((xs.length : Nat) : Int)))),(18,.pointer (some ⟨X8 vxs,Ko vxs + k * 4,none⟩)),(19,.agg (Enc.enc (xs[k]'hi1)).toArray),(35,.bool ((Kx (xs[k]'hi1) (⟨op,epoch,key,0⟩ : Cell)) && ((!s) || (decide (((xs[k]'hi1).val) < n)))))] (fun w'=>w4 = w') ?_ ?_)
  ·refine Ym (gd:=26) Z Z (fun hg1=>?_) (fun hg1=>?_)
   ·refine Qk Z Z (Qe Z) Z (Qk Z Z (Y1 Z) Z (Qk Z Z (Qe Z) Z ?_))
    refine Ym (gd:=29) Z Z (fun hg2=>?_) (fun hg2=>?_)
    ·refine Qc Z Z Z Z (Qc Z Z Z Z (Qc Z Z Z Z (Qc Z Z Z Z (Qk Z Z (Qr Z Z) Z (Qa (Qr Z Z) Z (Ql ⟨Z,Z,Z,Z,Z,Z,Z,Z,Z,Z,Z,Z,Z,Z,congrArg (fun b=>some (Value.bool b)) (show true = ((Kx (xs[k]'hi1) (⟨op,epoch,key,0⟩ : Cell)) && ((!s) || (decide (((xs[k]'hi1).val) < n)))) by first | (rw [hg1,hg2] <;> rfl) | (simp [hg1,hg2];done) | (simp only [Qp] <;> simp)),trivial⟩ Z))))))
    ·refine Qk Z Z (Qd V6 Z) Z (Qk Z Z (Qj Y6 Z (h1.one 3 Z)) Z (Qk Z Z (Qe Z) Z (Qk Z Z (Xn Z Z) Z (Qk Z Z (Qq Z Z) Z (Qa (Qr Z Z) Z (Ql ⟨Z,Z,Z,Z,Z,Z,Z,Z,Z,Z,Z,Z,Z,Z,congrArg (fun b=>some (Value.bool b)) (show (decide (((xs[k]'hi1).val) < n)) = ((Kx (xs[k]'hi1) (⟨op,epoch,key,0⟩ : Cell)) && ((!s) || (decide (((xs[k]'hi1).val) < n)))) by first | (rw [hg1,hg2] <;> rfl) | (simp [hg1,hg2];done) | (simp only [Qp] <;> simp)),trivial⟩ Z))))))
   ·refine Qc Z Z Z Z (Qc Z Z Z Z (Qc Z Z Z Z (Q3 Z Z Z (Q3 Z Z Z (Q3 Z Z Z (Q3 Z Z Z (Qc Z Z Z Z (Qa (Qq Z Z) Z (Ql ⟨Z,Z,Z,Z,Z,Z,Z,Z,Z,Z,Z,Z,Z,Z,congrArg (fun b=>some (Value.bool b)) (show false = ((Kx (xs[k]'hi1) (⟨op,epoch,key,0⟩ : Cell)) && ((!s) || (decide (((xs[k]'hi1).val) < n)))) by first | (rw [hg1] <;> rfl) | (simp [hg1];done) | (simp only [Qp] <;> simp)),trivial⟩ Z)))))))))
  rintro _ rfl
  refine Qf (Qw Z (fun hc2=>?_) (fun hc2=>?_))
  ·refine Qi [true,true,true,true] Z Z (Qa (Qd V6 Z) Z (Qa (Qj Y6 Z (h1.one 3 Z)) Z (Qa (Qg Z) Z (Qa (Qg Z) Z (Qf (Yb (Yv (Qi [true,true] Z Z (Qa (Yw Z Z (Y7 hc1n hxs.1)) Z (Qa (Qe Z) Z (Qf (Yb (Yy (k + 1,(xs[k]'hi1).val,true) (by simp;omega) ⟨Z,Z,Z,Z,Z,Z,Z,Z,Z,Z,trivial⟩ ⟨E,(by omega),(by omega),Cb hI hc1n (by simpa [Kx] using hc2)⟩)))))))))))))
  ·refine Qy (Yb (Yv (Qi [true,true] Z Z (Qa (Yw Z Z (Y7 hc1n hxs.1)) Z (Qa (Qe Z) Z (Qf (Yb (Yy (k + 1,n,s) (by simp;omega) ⟨Z,Z,Z,Z,Z,Z,Z,Z,Z,Z,trivial⟩ ⟨E,(by omega),(by omega),C0 hI hc1n (by simpa [Kx] using hc2)⟩))))))))
 ·have hc1n : ¬ k < xs.length:=by first | (have h:=of_decide_eq_false hc1;omega) | (have h:=hc1;simp at h;omega)
  refine Xl (Ys (Yj ?_))
  refine Qh (Qi [true,true,true,true] Z Z (Qa (Qe Z) Z (Qa (Qe Z) Z (Qa (Qg Z) Z (Qa (Qg Z) Z (Qf (Qx (Yo (l:=[.tmp 8,.tmp 9]) (vs:=[.int .i64 n,.bool s]) Z ⟨.tmp Z,.tmp Z,trivial⟩ Z E ?_))))))))
  simp only [← hI,List.drop_of_length_le (show xs.length ≤ k by omega),Kj]

set_option maxRecDepth 20000 in
theorem s_LeastOf (vxs : Value) (xs : List Cell) (op : Int) (epoch : Int) (key : Int) (w : World) (hxs : RdS w vxs xs) : Ct Tryz.prog 88 [vxs,.int .i64 op,.int .i64 epoch,.int .i64 key] w (fun v _=>v = .tuple [.int .i64 ((Yk xs op epoch key).1),.bool ((Yk xs op epoch key).2)].toArray):=by
 refine Yx Tryz.func88 Z Tryz.ntmps88 Z ?_
 refine Yh [(0,vxs),(1,.int .i64 op),(2,.int .i64 epoch),(3,.int .i64 key)] ⟨Z,Z,Z,Z,trivial⟩ ?_
 have E : Ext w w:=Ext.refl w
 refine Qh (Qi [true,true] Z Z (Qa (Qg Z) Z (Qa (Qg Z) Z (Qf (Qh (Qi [true] Z Z (Qa (Qg Z) Z (Qf (Qh (Qi [true] Z Z (Qa (Qg Z) Z (Qf (Qh (Qh (Qi [true] Z Z (Qa (Qg Z) Z (Qf (Q9 (Xk (fun (xq : Nat × Int × Bool)=>let ⟨k,n,s⟩:=xq;[(0,vxs),(1,.int .i64 op),(2,.int .i64 epoch),(3,.int .i64 key),(8,.int .i64 0),(9,.bool false),(10,.int .i64 n),(11,.bool s),(12,.int .i64 ((k : Nat) : Int))]) (fun (xq : Nat × Int × Bool) w'=>let ⟨k,n,s⟩:=xq;Ext w w' ∧ w.heap.size ≤ w'.heap.size ∧ k ≤ xs.length ∧ Kj op epoch key (xs.drop k) n s = Yk xs op epoch key) (fun (xq : Nat × Int × Bool)=>let ⟨k,n,s⟩:=xq;xs.length - k) (0,0,false) ⟨Z,Z,Z,Z,Z,Z,Z,Z,Z,trivial⟩ ⟨E,Nat.le_refl _,Nat.zero_le _,Z⟩ ?_)))))))))))))))))))
 clear E
 rintro ⟨k,n,s⟩ w1 ⟨E,z1,hk,hI⟩
 refine Yh [(0,vxs),(1,.int .i64 op),(2,.int .i64 epoch),(3,.int .i64 key),(8,.int .i64 0),(9,.bool false),(10,.int .i64 n),(11,.bool s),(12,.int .i64 ((k : Nat) : Int))] ⟨Z,Z,Z,Z,Z,Z,Z,Z,Z,trivial⟩ ?_
 refine Qh (Qh (Qi [true,true,true,true] Z Z (Qa (Qe Z) Z (Qa (Qe Z) Z (Qa (Yg Tryz.underlying28 Z (hxs.ext E).len) Z (Qa (Xn Z Z) Z (Qf (Qw Z (fun hc1=>?_) (fun hc1=>?_)))))))))
 ·have hc1n : k < xs.length:=by first | (have h:=of_decide_eq_true hc1;omega) | (have h:=hc1;simp at h;omega)
  refine Qy (Qh (Q9 (Qh (Qi [true,true,true,true,false,false] Z Z (Qa (Qe Z) Z (Qa (Qe Z) Z ?_))))))
  have hi1 : k < xs.length:=(by first | assumption | omega | (simp only [List.length_set];first | assumption | omega) | (simp only [List.getElem_set_self,List.length_set];first | assumption | omega) | (simp only [Xc,Yp,List.length_set];first | assumption | omega) | (simp;done))
  refine Qa (Ye (i:=k) X0 Z Z (hxs.ext E) hi1) Z (Qa (Qo Ku Z ((hxs.ext E).get hi1) Z) Z (Q6 Ku Z (fun b1 w2 e1 s1 h1=>?_)))
  have g_b1 : w.heap.size ≤ b1:=by have:=E.size;omega
  have y_b1:=h1.lt
  replace E:=E.trans e1
  have z2:=e1.size
  refine Qs (cs':=[.int .i64 ((xs[k]'hi1).op),.int .i64 ((xs[k]'hi1).epoch),.int .i64 ((xs[k]'hi1).key),.int .i64 ((xs[k]'hi1).val)]) Ku Z Z Z Z h1 (Nat.le_of_ble_eq_true Z) Z (fun w3 m1 h1'=>?_)
  replace h1:=h1'
  replace E:=E.step m1 (fun g hg=>by cases hg;omega)
  have z3:=m1.size
  refine Qf (Qh (Qi [true,true,true,true,true,true,true,true,true,true,true,true,true,true,true,true,true,true,true,true,true,true,true,true,true,true] Z Z (Qa (Qd Ve Z) Z (Qa (Qj Y6 Z (h1.one 0 Z)) Z (Qa (Qe Z) Z (Qa (Yq Z Z) Z (Qa (Qe Z) Z (Xg 21 [(0,vxs),(1,.int .i64 op),(2,.int .i64 epoch),(3,.int .i64 key),(8,.int .i64 0),(9,.bool false),(10,.int .i64 n),(11,.bool s),(12,.int .i64 ((k : Nat) : Int)),(13,.pointer (some ⟨b1,0,none⟩)),(14,.int .i64 ((k : Nat) : Int)),(15,vxs),(16,.int .i64 ((xs.length : Nat) : Int)),(17,.bool (decide (((k : Nat) : Int) < ((xs.length : Nat) : Int)))),(20,vxs),(21,.int .i64 ((k : Nat) : Int)),(22,.pointer (some ⟨X8 vxs,Ko vxs + k * 4,none⟩)),(23,.agg (Enc.enc (xs[k]'hi1)).toArray),(49,.bool ((((((xs[k]'hi1).op) == op) && (((xs[k]'hi1).epoch) == epoch)) && (((xs[k]'hi1).key) == key)) && ((!s) || (decide (((xs[k]'hi1).val) < n)))))] (fun w'=>w3 = w') ?_ ?_))))))))
  ·refine Ym (gd:=28) Z Z (fun hg1=>?_) (fun hg1=>?_)
   ·refine Qk Z Z (Qd Vd Z) Z (Qk Z Z (Qj Y6 Z (h1.one 1 Z)) Z (Qk Z Z (Qe Z) Z (Qk Z Z (Yq Z Z) Z (Qa (Qr Z Z) Z (Qa (Qe Z) Z ?_)))))
    refine Ym (gd:=34) Z Z (fun hg2=>?_) (fun hg2=>?_)
    ·refine Qk Z Z (Qd Vc Z) Z (Qk Z Z (Qj Y6 Z (h1.one 2 Z)) Z (Qk Z Z (Qe Z) Z (Qk Z Z (Yq Z Z) Z (Qa (Qr Z Z) Z (Qa (Qe Z) Z ?_)))))
     refine Ym (gd:=40) Z Z (fun hg3=>?_) (fun hg3=>?_)
     ·refine Qk Z Z (Qe Z) Z (Qk Z Z (Y1 Z) Z (Qk Z Z (Qe Z) Z ?_))
      refine Ym (gd:=43) Z Z (fun hg4=>?_) (fun hg4=>?_)
      ·refine Qc Z Z Z Z (Qc Z Z Z Z (Qc Z Z Z Z (Qc Z Z Z Z (Qk Z Z (Qr Z Z) Z (Qa (Qr Z Z) Z (Ql ⟨Z,Z,Z,Z,Z,Z,Z,Z,Z,Z,Z,Z,Z,Z,Z,Z,Z,Z,congrArg (fun b=>some (Value.bool b)) (show true = ((((((xs[k]'hi1).op) == op) && (((xs[k]'hi1).epoch) == epoch)) && (((xs[k]'hi1).key) == key)) && ((!s) || (decide (((xs[k]'hi1).val) < n)))) by first | (rw [hg1,hg2,hg3,hg4] <;> rfl) | (simp [hg1,hg2,hg3,hg4];done) | (simp only [Qp] <;> simp)),trivial⟩ Z))))))
      ·refine Qk Z Z (Qd V6 Z) Z (Qk Z Z (Qj Y6 Z (h1.one 3 Z)) Z (Qk Z Z (Qe Z) Z (Qk Z Z (Xn Z Z) Z (Qk Z Z (Qq Z Z) Z (Qa (Qr Z Z) Z (Ql ⟨Z,Z,Z,Z,Z,Z,Z,Z,Z,Z,Z,Z,Z,Z,Z,Z,Z,Z,congrArg (fun b=>some (Value.bool b)) (show (decide (((xs[k]'hi1).val) < n)) = ((((((xs[k]'hi1).op) == op) && (((xs[k]'hi1).epoch) == epoch)) && (((xs[k]'hi1).key) == key)) && ((!s) || (decide (((xs[k]'hi1).val) < n)))) by first | (rw [hg1,hg2,hg3,hg4] <;> rfl) | (simp [hg1,hg2,hg3,hg4];done) | (simp only [Qp] <;> simp)),trivial⟩ Z))))))
     ·refine Qc Z Z Z Z (Qc Z Z Z Z (Qc Z Z Z Z (Q3 Z Z Z (Q3 Z Z Z (Q3 Z Z Z (Q3 Z Z Z (Qc Z Z Z Z (Qa (Qq Z Z) Z (Ql ⟨Z,Z,Z,Z,Z,Z,Z,Z,Z,Z,Z,Z,Z,Z,Z,Z,Z,Z,congrArg (fun b=>some (Value.bool b)) (show false = ((((((xs[k]'hi1).op) == op) && (((xs[k]'hi1).epoch) == epoch)) && (((xs[k]'hi1).key) == key)) && ((!s) || (decide (((xs[k]'hi1).val) < n)))) by first | (rw [hg1,hg2,hg3] <;> rfl) | (simp [hg1,hg2,hg3];done) | (simp only [Qp] <;> simp)),trivial⟩ Z)))))))))
    ·refine Qc Z Z Z Z (Qc Z Z Z Z (Qc Z Z Z Z (Qc Z Z Z Z (Qa (Qq Z Z) Z (Qa (Qe Z) Z (Qc Z Z Z Z (Qc Z Z Z Z (Qc Z Z Z Z (Q3 Z Z Z (Q3 Z Z Z (Q3 Z Z Z (Q3 Z Z Z (Qc Z Z Z Z (Qa (Qq Z Z) Z (Ql ⟨Z,Z,Z,Z,Z,Z,Z,Z,Z,Z,Z,Z,Z,Z,Z,Z,Z,Z,congrArg (fun b=>some (Value.bool b)) (show false = ((((((xs[k]'hi1).op) == op) && (((xs[k]'hi1).epoch) == epoch)) && (((xs[k]'hi1).key) == key)) && ((!s) || (decide (((xs[k]'hi1).val) < n)))) by first | (rw [hg1,hg2] <;> rfl) | (simp [hg1,hg2];done) | (simp only [Qp] <;> simp)),trivial⟩ Z)))))))))))))))
   ·refine Qc Z Z Z Z (Qc Z Z Z Z (Qc Z Z Z Z (Qc Z Z Z Z (Qa (Qq Z Z) Z (Qa (Qe Z) Z (Qc Z Z Z Z (Qc Z Z Z Z (Qc Z Z Z Z (Qc Z Z Z Z (Qa (Qq Z Z) Z (Qa (Qe Z) Z (Qc Z Z Z Z (Qc Z Z Z Z (Qc Z Z Z Z (Q3 Z Z Z (Q3 Z Z Z (Q3 Z Z Z (Q3 Z Z Z (Qc Z Z Z Z (Qa (Qq Z Z) Z (Ql ⟨Z,Z,Z,Z,Z,Z,Z,Z,Z,Z,Z,Z,Z,Z,Z,Z,Z,Z,congrArg (fun b=>some (Value.bool b)) (show false = ((((((xs[k]'hi1).op) == op) && (((xs[k]'hi1).epoch) == epoch)) && (((xs[k]'hi1).key) == key)) && ((!s) || (decide (((xs[k]'hi1).val) < n)))) by first | (rw [hg1] <;> rfl) | (simp [hg1];done) | (simp only [Qp] <;> simp)),trivial⟩ Z)))))))))))))))))))))
  rintro _ rfl
  refine Qf (Qw Z (fun hc2=>?_) (fun hc2=>?_))
  ·refine Qh (Qi [true,true,true] Z Z (Qa (Qd V6 Z) Z (Qa (Qj Y6 Z (h1.one 3 Z)) Z (Qa (Qg Z) Z (Qf (Qi [true] Z Z (Qa (Qg Z) Z (Qf (Yb (Yv (Qi [true,true,true] Z Z (Qa (Qe Z) Z (Qa (Yw Z Z (Y7 hc1n hxs.1)) Z (Qa (Qg Z) Z (Qf (Yb (Yy (k + 1,(xs[k]'hi1).val,true) (by simp;omega) ⟨Z,Z,Z,Z,Z,Z,Z,Z,Z,trivial⟩ ⟨E,(by omega),(by omega),Cb hI hc1n (by simpa [Kx] using hc2)⟩)))))))))))))))))
  ·refine Qy (Yb (Yv (Qi [true,true,true] Z Z (Qa (Qe Z) Z (Qa (Yw Z Z (Y7 hc1n hxs.1)) Z (Qa (Qg Z) Z (Qf (Yb (Yy (k + 1,n,s) (by simp;omega) ⟨Z,Z,Z,Z,Z,Z,Z,Z,Z,trivial⟩ ⟨E,(by omega),(by omega),C0 hI hc1n (by simpa [Kx] using hc2)⟩)))))))))
 ·have hc1n : ¬ k < xs.length:=by first | (have h:=of_decide_eq_false hc1;omega) | (have h:=hc1;simp at h;omega)
  refine Xl (Ys (Yj ?_))
  refine Qh (Qi [true,true,true,true] Z Z (Qa (Qe Z) Z (Qa (Qe Z) Z (Qa (Qg Z) Z (Qa (Qg Z) Z (Qf (Qx (Yo (l:=[.tmp 8,.tmp 9]) (vs:=[.int .i64 n,.bool s]) Z ⟨.tmp Z,.tmp Z,trivial⟩ Z E ?_))))))))
  simp only [← hI,List.drop_of_length_le (show xs.length ≤ k by omega),Kj]

set_option maxRecDepth 20000 in
theorem s_CellsOk (vxs : Value) (xs : List Cell) (w : World) (hxs : RdS w vxs xs) : Ct Tryz.prog 47 [vxs] w (fun v _=>v = .bool ((Gg xs).all Xm)):=by
 refine Yx Tryz.func47 Z Tryz.ntmps47 Z ?_
 refine Yh [(0,vxs)] ⟨Z,trivial⟩ ?_
 have E : Ext w w:=Ext.refl w
 refine Qh (Qi [true] Z Z (Qa (Qg Z) Z (Qf (Qh (Qh (Qi [true] Z Z (Qa (Qg Z) Z (Qf (Q9 (Xk (fun (j : Nat)=>[(0,vxs),(2,.bool false),(3,.int .i64 ((j + 1 : Nat) : Int))]) (fun (j : Nat) w'=>Ext w w' ∧ w.heap.size ≤ w'.heap.size ∧ ((Gg xs).take j).all Xm = true) (fun (j : Nat)=>xs.length - j) 0 ⟨Z,Z,Z,trivial⟩ ⟨E,Nat.le_refl _,Z⟩ ?_))))))))))
 clear E
 rintro j w1 ⟨E,z1,hI⟩
 have hlm:=hxs.1
 unfold maxLen at hlm
 refine Qh (Qh (Qi [true,true,true,true] Z Z (Qa (Qe Z) Z (Qa (Qe Z) Z (Qa (Yg Tryz.underlying28 Z (hxs.ext E).len) Z (Qa (Xn Z Z) Z (Qf (Qw Z (fun hc1=>?_) (fun hc1=>?_)))))))))
 ·have hc1n : j + 1 < xs.length:=by first | (have h:=of_decide_eq_true hc1;omega) | (have h:=hc1;simp at h;omega)
  refine Qy (Qh (Q9 (Qh (Xu Xo [(0,true),(1,true),(2,true),(3,true),(4,true),(5,true),(6,true),(7,true),(8,true),(9,false),(10,true)] (by decide +kernel) Z (fun w2 e1=>?_)))))
  replace E:=E.trans e1
  have z2:=e1.size
  refine Qa (Qe Z) Z (Qa (Qe Z) Z (Qa (U5 Z Z (sub_one (m:=j) (by unfold maxLen;omega))) Z ?_))
  have hi1 : j < xs.length:=(by first | assumption | omega | (simp only [List.length_set];first | assumption | omega) | (simp only [List.getElem_set_self,List.length_set];first | assumption | omega) | (simp only [Xc,Yp,List.length_set];first | assumption | omega) | (simp;done))
  refine Qa (Ye (i:=j) X0 Z Z (hxs.ext E) hi1) Z (Qa (Qo Ku Z ((hxs.ext E).get hi1) Z) Z (Qa (Qe Z) Z (Qa (Qe Z) Z ?_)))
  have hi2 : j + 1 < xs.length:=(by first | assumption | omega | (simp only [List.length_set];first | assumption | omega) | (simp only [List.getElem_set_self,List.length_set];first | assumption | omega) | (simp only [Xc,Yp,List.length_set];first | assumption | omega) | (simp;done))
  refine Qa (Ye (i:=j + 1) X0 Z Z (hxs.ext E) hi2) Z (Qa (Qo Ku Z ((hxs.ext E).get hi2) Z) Z (Qv Tryz.call71 Z (s_CellOrder (xs[j]'hi1) (xs[j + 1]'hi2) _ ) Z (fun _ w3 e2 hv=>?_)))
  subst hv
  replace E:=E.trans e2
  have z3:=e2.size
  refine Qa (Hf Z Z) Z (Qf (Qw Z (fun hc2=>?_) (fun hc2=>?_)))
  ·refine Qh (Qi [true] Z Z (Qa (Qg Z) Z (Qf (Qx (Qz (Xb (Qz (Q0 Z Z E ?_))))))))
   exact adj_no hc1n (by simpa [Xm] using hc2)
  ·refine Qy (Yb (Yv (Qi [true,true,true] Z Z (Qa (Qe Z) Z (Qa (Yw Z Z (Y7 hc1n hxs.1)) Z (Qa (Qg Z) Z (Qf (Yb (Yy (j + 1) (by omega) ⟨Z,Z,Z,trivial⟩ ⟨E,(by omega),adj_step hI (by assumption) (by simpa [Xm] using hc2)⟩)))))))))
 ·have hc1n : ¬ j + 1 < xs.length:=by first | (have h:=of_decide_eq_false hc1;omega) | (have h:=hc1;simp at h;omega)
  refine Xl (Ys (Yj ?_))
  refine Qh (Qi [true] Z Z (Qa (Qg Z) Z (Qf (Qx (Q0 Z Z E ?_)))))
  exact adj_yes hI (by omega)

set_option maxRecDepth 20000 in
theorem c_CellsOk (vxs : Value) (xs : List Cell) (w : World) (hxs : RdS w vxs xs) : Ct Tryz.prog 55 [vxs] w (fun v _=>v = .bool ((Gg xs).all Xm)):=by
 refine Yx Tryz.func55 Z Tryz.ntmps55 Z ?_
 refine Yh [(0,vxs)] ⟨Z,trivial⟩ ?_
 have E : Ext w w:=Ext.refl w
 refine Qh (Qi [true] Z Z (Qa (Qg Z) Z (Qf (Qh (Qh (Qi [true] Z Z (Qa (Qg Z) Z (Qf (Q9 (Xk (fun (j : Nat)=>[(0,vxs),(2,.bool false),(3,.int .i64 ((j + 1 : Nat) : Int))]) (fun (j : Nat) w'=>Ext w w' ∧ w.heap.size ≤ w'.heap.size ∧ ((Gg xs).take j).all Xm = true) (fun (j : Nat)=>xs.length - j) 0 ⟨Z,Z,Z,trivial⟩ ⟨E,Nat.le_refl _,Z⟩ ?_))))))))))
 clear E
 rintro j w1 ⟨E,z1,hI⟩
 have hlm:=hxs.1
 unfold maxLen at hlm
 refine Qh (Qh (Qi [true,true,true,true] Z Z (Qa (Qe Z) Z (Qa (Qe Z) Z (Qa (Yg Tryz.underlying28 Z (hxs.ext E).len) Z (Qa (Xn Z Z) Z (Qf (Qw Z (fun hc1=>?_) (fun hc1=>?_)))))))))
 ·have hc1n : j + 1 < xs.length:=by first | (have h:=of_decide_eq_true hc1;omega) | (have h:=hc1;simp at h;omega)
  refine Qy (Qh (Q9 (Qh (Xu Xo [(0,true),(1,true),(2,true),(3,true),(4,true),(5,true),(6,true),(7,true),(8,true),(9,false),(10,true)] (by decide +kernel) Z (fun w2 e1=>?_)))))
  replace E:=E.trans e1
  have z2:=e1.size
  refine Qa (Qe Z) Z (Qa (Qe Z) Z (Qa (U5 Z Z (sub_one (m:=j) (by unfold maxLen;omega))) Z ?_))
  have hi1 : j < xs.length:=(by first | assumption | omega | (simp only [List.length_set];first | assumption | omega) | (simp only [List.getElem_set_self,List.length_set];first | assumption | omega) | (simp only [Xc,Yp,List.length_set];first | assumption | omega) | (simp;done))
  refine Qa (Ye (i:=j) X0 Z Z (hxs.ext E) hi1) Z (Qa (Qo Ku Z ((hxs.ext E).get hi1) Z) Z (Qa (Qe Z) Z (Qa (Qe Z) Z ?_)))
  have hi2 : j + 1 < xs.length:=(by first | assumption | omega | (simp only [List.length_set];first | assumption | omega) | (simp only [List.getElem_set_self,List.length_set];first | assumption | omega) | (simp only [Xc,Yp,List.length_set];first | assumption | omega) | (simp;done))
  refine Qa (Ye (i:=j + 1) X0 Z Z (hxs.ext E) hi2) Z (Qa (Qo Ku Z ((hxs.ext E).get hi2) Z) Z (Qv Tryz.call76 Z (c_CellOrder (xs[j]'hi1) (xs[j + 1]'hi2) _ ) Z (fun _ w3 e2 hv=>?_)))
  subst hv
  replace E:=E.trans e2
  have z3:=e2.size
  refine Qa (Hf Z Z) Z (Qf (Qw Z (fun hc2=>?_) (fun hc2=>?_)))
  ·refine Qh (Qi [true] Z Z (Qa (Qg Z) Z (Qf (Qx (Qz (Xb (Qz (Q0 Z Z E ?_))))))))
   exact adj_no hc1n (by simpa [Xm] using hc2)
  ·refine Qy (Yb (Yv (Qi [true,true,true] Z Z (Qa (Qe Z) Z (Qa (Yw Z Z (Y7 hc1n hxs.1)) Z (Qa (Qg Z) Z (Qf (Yb (Yy (j + 1) (by omega) ⟨Z,Z,Z,trivial⟩ ⟨E,(by omega),adj_step hI (by assumption) (by simpa [Xm] using hc2)⟩)))))))))
 ·have hc1n : ¬ j + 1 < xs.length:=by first | (have h:=of_decide_eq_false hc1;omega) | (have h:=hc1;simp at h;omega)
  refine Xl (Ys (Yj ?_))
  refine Qh (Qi [true] Z Z (Qa (Qg Z) Z (Qf (Qx (Q0 Z Z E ?_)))))
  exact adj_yes hI (by omega)

set_option maxRecDepth 20000 in
theorem s_l01In (x : Int) (lo : Int) (hi : Int) (w : World)  : Ct Tryz.prog 45 [.int .i64 x,.int .i64 lo,.int .i64 hi] w (fun v _=>v = .bool (Y0 x lo hi)):=by
 refine Yx Tryz.func45 Z Tryz.ntmps45 Z ?_
 refine Yh [(0,.int .i64 x),(1,.int .i64 lo),(2,.int .i64 hi)] ⟨Z,Z,Z,trivial⟩ ?_
 have E : Ext w w:=Ext.refl w
 refine Qh (Qi [true] Z Z (Qa (Qg Z) Z (Qf (Qh (Qi [true,true,true,true,true,true,true,true,true] Z Z (Qa (Qe Z) Z (Qa (Qe Z) Z (Qa (Hf Z Z) Z (Qa (Qe Z) Z (Xg 4 [(0,.int .i64 x),(1,.int .i64 lo),(2,.int .i64 hi),(6,.bool false),(14,.bool ((decide (lo ≤ x)) && (decide (x ≤ hi))))] (fun w'=>w = w') ?_ ?_))))))))))
 ·refine Ym (gd:=10) Z Z (fun hg1=>?_) (fun hg1=>?_)
  ·refine Qk Z Z (Qe Z) Z (Qk Z Z (Qe Z) Z (Qk Z Z (He Z Z) Z (Qa (Qr Z Z) Z (Ql ⟨Z,Z,Z,Z,congrArg (fun b=>some (Value.bool b)) (show (decide (x ≤ hi)) = ((decide (lo ≤ x)) && (decide (x ≤ hi))) by first | (rw [hg1] <;> rfl) | (simp [hg1];done) | (simp only [Qp] <;> simp)),trivial⟩ Z))))
  ·refine Qc Z Z Z Z (Qc Z Z Z Z (Qc Z Z Z Z (Qa (Qq Z Z) Z (Ql ⟨Z,Z,Z,Z,congrArg (fun b=>some (Value.bool b)) (show false = ((decide (lo ≤ x)) && (decide (x ≤ hi))) by first | (rw [hg1] <;> rfl) | (simp [hg1];done) | (simp only [Qp] <;> simp)),trivial⟩ Z))))
 rintro _ rfl
 refine Qa (Qg Z) Z (Qf (Qx (Q0 Z Z E ?_)))
 rfl

set_option maxRecDepth 20000 in
theorem c_within (x : Int) (lo : Int) (hi : Int) (w : World)  : Ct Tryz.prog 42 [.int .i64 x,.int .i64 lo,.int .i64 hi] w (fun v _=>v = .bool (Y0 x lo hi)):=by
 refine Yx Tryz.func42 Z Tryz.ntmps42 Z ?_
 refine Yh [(0,.int .i64 x),(1,.int .i64 lo),(2,.int .i64 hi)] ⟨Z,Z,Z,trivial⟩ ?_
 have E : Ext w w:=Ext.refl w
 refine Qh (Qi [true] Z Z (Qa (Qg Z) Z (Qf (Qh (Qi [true,true,true,true,true,true,true,true,true] Z Z (Qa (Qe Z) Z (Qa (Qe Z) Z (Qa (Hf Z Z) Z (Qa (Qe Z) Z (Xg 4 [(0,.int .i64 x),(1,.int .i64 lo),(2,.int .i64 hi),(6,.bool false),(14,.bool ((decide (lo ≤ x)) && (decide (x ≤ hi))))] (fun w'=>w = w') ?_ ?_))))))))))
 ·refine Ym (gd:=10) Z Z (fun hg1=>?_) (fun hg1=>?_)
  ·refine Qk Z Z (Qe Z) Z (Qk Z Z (Qe Z) Z (Qk Z Z (He Z Z) Z (Qa (Qr Z Z) Z (Ql ⟨Z,Z,Z,Z,congrArg (fun b=>some (Value.bool b)) (show (decide (x ≤ hi)) = ((decide (lo ≤ x)) && (decide (x ≤ hi))) by first | (rw [hg1] <;> rfl) | (simp [hg1];done) | (simp only [Qp] <;> simp)),trivial⟩ Z))))
  ·refine Qc Z Z Z Z (Qc Z Z Z Z (Qc Z Z Z Z (Qa (Qq Z Z) Z (Ql ⟨Z,Z,Z,Z,congrArg (fun b=>some (Value.bool b)) (show false = ((decide (lo ≤ x)) && (decide (x ≤ hi))) by first | (rw [hg1] <;> rfl) | (simp [hg1];done) | (simp only [Qp] <;> simp)),trivial⟩ Z))))
 rintro _ rfl
 refine Qa (Qg Z) Z (Qf (Qx (Q0 Z Z E ?_)))
 rfl

set_option maxHeartbeats 4000000 in
set_option maxRecDepth 20000 in
theorem c_NodeOk (cx : List Value) (x : Node) (w : World) (hx : Dat.R w 0 w.heap.size cx x) : Ct Tryz.prog 53 [.agg cx.toArray] w (fun v _=>v = .bool (Y9 x)):=by
 refine Yx Tryz.func53 Z Tryz.ntmps53 Z ?_
 obtain ⟨o1,rfl,hd1⟩:=Node.op hx
 refine Yh [(0,.agg [.int .i64 x.kind,.int .i64 x.a,.int .i64 x.b,o1].toArray)] ⟨Z,trivial⟩ ?_
 have E : Ext w w:=Ext.refl w
 refine Qh (Qi [false,true] Z Z (Y5 Z Z (fun b1 w1 e1 s1 h1=>?_)))
 have g_b1 : w.heap.size ≤ b1:=by have:=E.size;omega
 have y_b1:=h1.lt
 replace E:=E.trans e1
 have z1:=e1.size
 refine Qa (Qg Z) Z (Qf (Qh (Qh (Qi [true,true] Z Z (Qa (Qd X7 Z) Z (Qa (Qj Y6 Z (h1.one 0 Z)) Z (Qf (S_cutG (fun (_ : Unit)=>[(1,.pointer (some ⟨b1,0,none⟩)),(2,.bool false)]) (fun (_ : Unit) w'=>Ext w w' ∧ w1.heap.size ≤ w'.heap.size ∧ Blk w' b1 ([.int .i64 x.kind,.int .i64 x.a,.int .i64 x.b,o1]) ∧ Uj x = true) ?_ ?_))))))))
 ·refine Q9 (Qh (Qi [true,true] Z Z (Qa (Yq Z Z) Z (Qa (Qg Z) Z (Qf (Qw Z (fun hc1=>?_) (fun hc1=>?_)))))))
  ·refine Qh (Qi [true,true,false,true,true,true,true,true,true] Z Z (Qa (Qd Uf Z) Z (Qa (Qj Y6 Z (h1.one 1 Z)) Z (Qv Tryz.call42 Z (c_within x.a 0 999 _ ) Z (fun _ w2 e2 hv=>?_)))))
   subst hv
   replace E:=E.trans e2;replace h1:=h1.ext e2
   have z3:=e2.size
   refine Qa (Y1 Z) Z (Qa (Qe Z) Z (Xg 4 [(0,.agg [.int .i64 x.kind,.int .i64 x.a,.int .i64 x.b,o1].toArray),(1,.pointer (some ⟨b1,0,none⟩)),(2,.bool false),(5,.pointer (some ⟨b1,0,none⟩)),(6,.int .i64 x.kind),(7,.bool (x.kind == 2)),(8,.bool (x.kind == 2)),(17,.bool ((!(Y0 x.a 0 999)) || (x.b != 0)))] (fun w'=>w2 = w') ?_ ?_))
   ·refine Ym (gd:=13) Z Z (fun hg1=>?_) (fun hg1=>?_)
    ·refine Qc Z Z Z Z (Qc Z Z Z Z (Qc Z Z Z Z (Qa (Qr Z Z) Z (Ql ⟨Z,Z,Z,Z,Z,Z,Z,congrArg (fun b=>some (Value.bool b)) (show true = ((!(Y0 x.a 0 999)) || (x.b != 0)) by first | (rw [hg1] <;> rfl) | (simp [hg1];done) | (simp only [Qp] <;> simp)),trivial⟩ Z))))
    ·refine Qk Z Z (Qd Vu Z) Z (Qk Z Z (Qj Y6 Z (h1.one 2 Z)) Z (Qk Z Z (Xs Z Z) Z (Qa (Qq Z Z) Z (Ql ⟨Z,Z,Z,Z,Z,Z,Z,congrArg (fun b=>some (Value.bool b)) (show (x.b != 0) = ((!(Y0 x.a 0 999)) || (x.b != 0)) by first | (rw [hg1] <;> rfl) | (simp [hg1];done) | (simp only [Qp] <;> simp)),trivial⟩ Z))))
   rintro _ rfl
   refine Qf (Qw Z (fun hc2=>?_) (fun hc2=>?_))
   ·refine Qh (Qi [true] Z Z (Qa (Qg Z) Z (Qf (Qx (Qz (Us (Q0 Z Z E ?_)))))))
    exact Gh (by rw [node_2 (by assumption)];exact kx (by assumption))
   ·refine Qy (Yb (Yv (Yb (Vh () ⟨Z,Z,trivial⟩ ⟨E,(by omega),h1,(by rw [node_2 (by assumption)];exact ky (by assumption))⟩))))
  ·refine Qh (Qi [true,true] Z Z (Qa (Yq Z Z) Z (Qa (Qg Z) Z (Qf (Qw Z (fun hc3=>?_) (fun hc3=>?_))))))
   ·refine Qh (Qi [true,true,false,true,true,true,true,true,true,true,false,true,true] Z Z (Qa (Qd Uf Z) Z (Qa (Qj Y6 Z (h1.one 1 Z)) Z (Qv Tryz.call42 Z (c_within x.a 1 10 _ ) Z (fun _ w4 e3 hv=>?_)))))
    subst hv
    replace E:=E.trans e3;replace h1:=h1.ext e3
    have z4:=e3.size
    refine Qa (Y1 Z) Z (Qa (Qe Z) Z (Xg 8 [(0,.agg [.int .i64 x.kind,.int .i64 x.a,.int .i64 x.b,o1].toArray),(1,.pointer (some ⟨b1,0,none⟩)),(2,.bool false),(5,.pointer (some ⟨b1,0,none⟩)),(6,.int .i64 x.kind),(7,.bool (x.kind == 2)),(8,.bool (x.kind == 2)),(18,.bool (x.kind == 3)),(19,.bool (x.kind == 3)),(32,.bool ((!(Y0 x.a 1 10)) || (!(Y0 x.b 0 (IntKind.i64.wrap (x.a - 1))))))] (fun w'=>Ext w w' ∧ w4.heap.size ≤ w'.heap.size ∧ Blk w' b1 ([.int .i64 x.kind,.int .i64 x.a,.int .i64 x.b,o1])) ?_ ?_))
    ·refine Ym (gd:=24) Z Z (fun hg2=>?_) (fun hg2=>?_)
     ·refine Qc Z Z Z Z (Qc Z Z Z Z (Qc Z Z Z Z (Qc Z Z Z Z (Qc Z Z Z Z ?_))))
      refine Q1 Z Z Z Z ?_
      refine Qc Z Z Z Z (Qa (Qr Z Z) Z (Ql ⟨Z,Z,Z,Z,Z,Z,Z,Z,Z,congrArg (fun b=>some (Value.bool b)) (show true = ((!(Y0 x.a 1 10)) || (!(Y0 x.b 0 (IntKind.i64.wrap (x.a - 1))))) by first | (rw [hg2] <;> rfl) | (simp [hg2];done) | (simp only [Qp] <;> simp)),trivial⟩ ⟨E,(by omega),h1⟩))
     ·refine Qk Z Z (Qd Vu Z) Z (Qk Z Z (Qj Y6 Z (h1.one 2 Z)) Z (Qk Z Z (Qd Uf Z) Z (Qk Z Z (Qj Y6 Z (h1.one 1 Z)) Z (Qk Z Z (U5 Z Z Z) Z ?_))))
      refine Y3 Z Z ?_
      refine Qv Tryz.call42 Z (c_within x.b 0 (IntKind.i64.wrap (x.a - 1)) _ ) Z (fun _ w6 e4 hv=>?_)
      subst hv
      replace E:=E.trans e4;replace h1:=h1.ext e4
      have z5:=e4.size
      refine Qk Z Z (Y1 Z) Z (Qa (Qq Z Z) Z (Ql ⟨Z,Z,Z,Z,Z,Z,Z,Z,Z,congrArg (fun b=>some (Value.bool b)) (show (!(Y0 x.b 0 (IntKind.i64.wrap (x.a - 1)))) = ((!(Y0 x.a 1 10)) || (!(Y0 x.b 0 (IntKind.i64.wrap (x.a - 1))))) by first | (rw [hg2] <;> rfl) | (simp [hg2];done) | (simp only [Qp] <;> simp)),trivial⟩ ⟨E,(by omega),h1⟩))
    clear E h1
    rintro w5 ⟨E,z6,h1⟩
    refine Qf (Qw Z (fun hc4=>?_) (fun hc4=>?_))
    ·refine Qh (Qi [true] Z Z (Qa (Qg Z) Z (Qf (Qx (Qz (Us (Q0 Z Z E ?_)))))))
     exact Gh (by rw [node_3 (by assumption)];exact kx (by assumption))
    ·refine Qy (Yb (Yv (Yb (Vh () ⟨Z,Z,trivial⟩ ⟨E,(by omega),h1,(by rw [node_3 (by assumption)];exact ky (by assumption))⟩))))
   ·refine Qh (Qi [true,true] Z Z (Qa (Yq Z Z) Z (Qa (Qg Z) Z (Qf (Qw Z (fun hc5=>?_) (fun hc5=>?_))))))
    ·refine Qh (Qi [true,true,false,true,true,true,true,true,true] Z Z (Qa (Qd Uf Z) Z (Qa (Qj Y6 Z (h1.one 1 Z)) Z (Qv Tryz.call42 Z (c_within x.a 0 99 _ ) Z (fun _ w7 e5 hv=>?_)))))
     subst hv
     replace E:=E.trans e5;replace h1:=h1.ext e5
     have z7:=e5.size
     refine Qa (Y1 Z) Z (Qa (Qe Z) Z (Xg 4 [(0,.agg [.int .i64 x.kind,.int .i64 x.a,.int .i64 x.b,o1].toArray),(1,.pointer (some ⟨b1,0,none⟩)),(2,.bool false),(5,.pointer (some ⟨b1,0,none⟩)),(6,.int .i64 x.kind),(7,.bool (x.kind == 2)),(8,.bool (x.kind == 2)),(18,.bool (x.kind == 3)),(19,.bool (x.kind == 3)),(33,.bool (x.kind == 4)),(34,.bool (x.kind == 4)),(43,.bool ((!(Y0 x.a 0 99)) || (x.b != 0)))] (fun w'=>w7 = w') ?_ ?_))
     ·refine Ym (gd:=39) Z Z (fun hg3=>?_) (fun hg3=>?_)
      ·refine Qc Z Z Z Z (Qc Z Z Z Z (Qc Z Z Z Z (Qa (Qr Z Z) Z (Ql ⟨Z,Z,Z,Z,Z,Z,Z,Z,Z,Z,Z,congrArg (fun b=>some (Value.bool b)) (show true = ((!(Y0 x.a 0 99)) || (x.b != 0)) by first | (rw [hg3] <;> rfl) | (simp [hg3];done) | (simp only [Qp] <;> simp)),trivial⟩ Z))))
      ·refine Qk Z Z (Qd Vu Z) Z (Qk Z Z (Qj Y6 Z (h1.one 2 Z)) Z (Qk Z Z (Xs Z Z) Z (Qa (Qq Z Z) Z (Ql ⟨Z,Z,Z,Z,Z,Z,Z,Z,Z,Z,Z,congrArg (fun b=>some (Value.bool b)) (show (x.b != 0) = ((!(Y0 x.a 0 99)) || (x.b != 0)) by first | (rw [hg3] <;> rfl) | (simp [hg3];done) | (simp only [Qp] <;> simp)),trivial⟩ Z))))
     rintro _ rfl
     refine Qf (Qw Z (fun hc6=>?_) (fun hc6=>?_))
     ·refine Qh (Qi [true] Z Z (Qa (Qg Z) Z (Qf (Qx (Qz (Us (Q0 Z Z E ?_)))))))
      exact Gh (by rw [node_4 (by assumption)];exact kx (by assumption))
     ·refine Qy (Yb (Yv (Yb (Vh () ⟨Z,Z,trivial⟩ ⟨E,(by omega),h1,(by rw [node_4 (by assumption)];exact ky (by assumption))⟩))))
    ·refine Qh (Qh (Qi [true,true] Z Z (Qa (Yq Z Z) Z (Qa (Qg Z) Z (Qf (Qw Z (fun hc7=>?_) (fun hc7=>?_)))))))
     ·refine Qy (V8 Z hc7 (Qh (Qi [true,true,true,true,true,true,true,true] Z Z (Qa (Qd Uf Z) Z (Qa (Qj Y6 Z (h1.one 1 Z)) Z (Qa (Xs Z Z) Z (Qa (Qe Z) Z (Xg 4 [(0,.agg [.int .i64 x.kind,.int .i64 x.a,.int .i64 x.b,o1].toArray),(1,.pointer (some ⟨b1,0,none⟩)),(2,.bool false),(5,.pointer (some ⟨b1,0,none⟩)),(6,.int .i64 x.kind),(7,.bool (x.kind == 2)),(8,.bool (x.kind == 2)),(18,.bool (x.kind == 3)),(19,.bool (x.kind == 3)),(33,.bool (x.kind == 4)),(34,.bool (x.kind == 4)),(44,.bool (x.kind == 1)),(45,.bool (x.kind == 1)),(57,.bool ((x.a != 0) || (x.b != 0)))] (fun w'=>w1 = w') ?_ ?_))))))))
      ·refine Ym (gd:=53) Z Z (fun hg4=>?_) (fun hg4=>?_)
       ·refine Qc Z Z Z Z (Qc Z Z Z Z (Qc Z Z Z Z (Qa (Qr Z Z) Z (Ql ⟨Z,Z,Z,Z,Z,Z,Z,Z,Z,Z,Z,Z,Z,congrArg (fun b=>some (Value.bool b)) (show true = ((x.a != 0) || (x.b != 0)) by first | (rw [hg4] <;> rfl) | (simp [hg4];done) | (simp only [Qp] <;> simp)),trivial⟩ Z))))
       ·refine Qk Z Z (Qd Vu Z) Z (Qk Z Z (Qj Y6 Z (h1.one 2 Z)) Z (Qk Z Z (Xs Z Z) Z (Qa (Qq Z Z) Z (Ql ⟨Z,Z,Z,Z,Z,Z,Z,Z,Z,Z,Z,Z,Z,congrArg (fun b=>some (Value.bool b)) (show (x.b != 0) = ((x.a != 0) || (x.b != 0)) by first | (rw [hg4] <;> rfl) | (simp [hg4];done) | (simp only [Qp] <;> simp)),trivial⟩ Z))))
      rintro _ rfl
      refine Qf (Qw Z (fun hc8=>?_) (fun hc8=>?_))
      ·refine Qh (Qi [true] Z Z (Qa (Qg Z) Z (Qf (Qx (Qz (Us (Q0 Z Z E ?_)))))))
       exact Gh (by rw [Vt (by assumption) (by assumption) (by assumption)];exact kx0 (by assumption))
      ·refine Qy (Yb (Yv (Yb (Vh () ⟨Z,Z,trivial⟩ ⟨E,(by omega),h1,(by rw [Vt (by assumption) (by assumption) (by assumption)];exact ky0 (by assumption) (Vo (by simp at *;omega)))⟩))))
     ·refine Qh (Qi [true,true] Z Z (Qa (Yq Z Z) Z (Qa (Qg Z) Z (Qf (Qw Z (fun hc9=>?_) (fun hc9=>?_))))))
      ·refine Qy (V8 Z hc9 (Qh (Qi [true,true,true,true,true,true,true,true] Z Z (Qa (Qd Uf Z) Z (Qa (Qj Y6 Z (h1.one 1 Z)) Z (Qa (Xs Z Z) Z (Qa (Qe Z) Z (Xg 4 [(0,.agg [.int .i64 x.kind,.int .i64 x.a,.int .i64 x.b,o1].toArray),(1,.pointer (some ⟨b1,0,none⟩)),(2,.bool false),(5,.pointer (some ⟨b1,0,none⟩)),(6,.int .i64 x.kind),(7,.bool (x.kind == 2)),(8,.bool (x.kind == 2)),(18,.bool (x.kind == 3)),(19,.bool (x.kind == 3)),(33,.bool (x.kind == 4)),(34,.bool (x.kind == 4)),(44,.bool (x.kind == 5)),(45,.bool (x.kind == 1)),(46,.bool (x.kind == 5)),(57,.bool ((x.a != 0) || (x.b != 0)))] (fun w'=>w1 = w') ?_ ?_))))))))
       ·refine Ym (gd:=53) Z Z (fun hg5=>?_) (fun hg5=>?_)
        ·refine Qc Z Z Z Z (Qc Z Z Z Z (Qc Z Z Z Z (Qa (Qr Z Z) Z (Ql ⟨Z,Z,Z,Z,Z,Z,Z,Z,Z,Z,Z,Z,Z,Z,congrArg (fun b=>some (Value.bool b)) (show true = ((x.a != 0) || (x.b != 0)) by first | (rw [hg5] <;> rfl) | (simp [hg5];done) | (simp only [Qp] <;> simp)),trivial⟩ Z))))
        ·refine Qk Z Z (Qd Vu Z) Z (Qk Z Z (Qj Y6 Z (h1.one 2 Z)) Z (Qk Z Z (Xs Z Z) Z (Qa (Qq Z Z) Z (Ql ⟨Z,Z,Z,Z,Z,Z,Z,Z,Z,Z,Z,Z,Z,Z,congrArg (fun b=>some (Value.bool b)) (show (x.b != 0) = ((x.a != 0) || (x.b != 0)) by first | (rw [hg5] <;> rfl) | (simp [hg5];done) | (simp only [Qp] <;> simp)),trivial⟩ Z))))
       rintro _ rfl
       refine Qf (Qw Z (fun hc10=>?_) (fun hc10=>?_))
       ·refine Qh (Qi [true] Z Z (Qa (Qg Z) Z (Qf (Qx (Qz (Us (Q0 Z Z E ?_)))))))
        exact Gh (by rw [Vt (by assumption) (by assumption) (by assumption)];exact kx0 (by assumption))
       ·refine Qy (Yb (Yv (Yb (Vh () ⟨Z,Z,trivial⟩ ⟨E,(by omega),h1,(by rw [Vt (by assumption) (by assumption) (by assumption)];exact ky0 (by assumption) (Vo (by simp at *;omega)))⟩))))
      ·refine Qh (Qi [true,true] Z Z (Qa (Yq Z Z) Z (Qa (Qg Z) Z (Qf (Qw Z (fun hc11=>?_) (fun hc11=>?_))))))
       ·refine Qy (V8 Z hc11 (Qh (Qi [true,true,true,true,true,true,true,true] Z Z (Qa (Qd Uf Z) Z (Qa (Qj Y6 Z (h1.one 1 Z)) Z (Qa (Xs Z Z) Z (Qa (Qe Z) Z (Xg 4 [(0,.agg [.int .i64 x.kind,.int .i64 x.a,.int .i64 x.b,o1].toArray),(1,.pointer (some ⟨b1,0,none⟩)),(2,.bool false),(5,.pointer (some ⟨b1,0,none⟩)),(6,.int .i64 x.kind),(7,.bool (x.kind == 2)),(8,.bool (x.kind == 2)),(18,.bool (x.kind == 3)),(19,.bool (x.kind == 3)),(33,.bool (x.kind == 4)),(34,.bool (x.kind == 4)),(44,.bool (x.kind == 6)),(45,.bool (x.kind == 1)),(46,.bool (x.kind == 5)),(47,.bool (x.kind == 6)),(57,.bool ((x.a != 0) || (x.b != 0)))] (fun w'=>w1 = w') ?_ ?_))))))))
        ·refine Ym (gd:=53) Z Z (fun hg6=>?_) (fun hg6=>?_)
         ·refine Qc Z Z Z Z (Qc Z Z Z Z (Qc Z Z Z Z (Qa (Qr Z Z) Z (Ql ⟨Z,Z,Z,Z,Z,Z,Z,Z,Z,Z,Z,Z,Z,Z,Z,congrArg (fun b=>some (Value.bool b)) (show true = ((x.a != 0) || (x.b != 0)) by first | (rw [hg6] <;> rfl) | (simp [hg6];done) | (simp only [Qp] <;> simp)),trivial⟩ Z))))
         ·refine Qk Z Z (Qd Vu Z) Z (Qk Z Z (Qj Y6 Z (h1.one 2 Z)) Z (Qk Z Z (Xs Z Z) Z (Qa (Qq Z Z) Z (Ql ⟨Z,Z,Z,Z,Z,Z,Z,Z,Z,Z,Z,Z,Z,Z,Z,congrArg (fun b=>some (Value.bool b)) (show (x.b != 0) = ((x.a != 0) || (x.b != 0)) by first | (rw [hg6] <;> rfl) | (simp [hg6];done) | (simp only [Qp] <;> simp)),trivial⟩ Z))))
        rintro _ rfl
        refine Qf (Qw Z (fun hc12=>?_) (fun hc12=>?_))
        ·refine Qh (Qi [true] Z Z (Qa (Qg Z) Z (Qf (Qx (Qz (Us (Q0 Z Z E ?_)))))))
         exact Gh (by rw [Vt (by assumption) (by assumption) (by assumption)];exact kx0 (by assumption))
        ·refine Qy (Yb (Yv (Yb (Vh () ⟨Z,Z,trivial⟩ ⟨E,(by omega),h1,(by rw [Vt (by assumption) (by assumption) (by assumption)];exact ky0 (by assumption) (Vo (by simp at *;omega)))⟩))))
       ·refine Qh (Qi [true,true] Z Z (Qa (Yq Z Z) Z (Qa (Qg Z) Z (Qf (Qw Z (fun hc13=>?_) (fun hc13=>?_))))))
        ·refine Qy (V8 Z hc13 (Qh (Qi [true,true,true,true,true,true,true,true] Z Z (Qa (Qd Uf Z) Z (Qa (Qj Y6 Z (h1.one 1 Z)) Z (Qa (Xs Z Z) Z (Qa (Qe Z) Z (Xg 4 [(0,.agg [.int .i64 x.kind,.int .i64 x.a,.int .i64 x.b,o1].toArray),(1,.pointer (some ⟨b1,0,none⟩)),(2,.bool false),(5,.pointer (some ⟨b1,0,none⟩)),(6,.int .i64 x.kind),(7,.bool (x.kind == 2)),(8,.bool (x.kind == 2)),(18,.bool (x.kind == 3)),(19,.bool (x.kind == 3)),(33,.bool (x.kind == 4)),(34,.bool (x.kind == 4)),(44,.bool (x.kind == 7)),(45,.bool (x.kind == 1)),(46,.bool (x.kind == 5)),(47,.bool (x.kind == 6)),(48,.bool (x.kind == 7)),(57,.bool ((x.a != 0) || (x.b != 0)))] (fun w'=>w1 = w') ?_ ?_))))))))
         ·refine Ym (gd:=53) Z Z (fun hg7=>?_) (fun hg7=>?_)
          ·refine Qc Z Z Z Z (Qc Z Z Z Z (Qc Z Z Z Z (Qa (Qr Z Z) Z (Ql ⟨Z,Z,Z,Z,Z,Z,Z,Z,Z,Z,Z,Z,Z,Z,Z,Z,congrArg (fun b=>some (Value.bool b)) (show true = ((x.a != 0) || (x.b != 0)) by first | (rw [hg7] <;> rfl) | (simp [hg7];done) | (simp only [Qp] <;> simp)),trivial⟩ Z))))
          ·refine Qk Z Z (Qd Vu Z) Z (Qk Z Z (Qj Y6 Z (h1.one 2 Z)) Z (Qk Z Z (Xs Z Z) Z (Qa (Qq Z Z) Z (Ql ⟨Z,Z,Z,Z,Z,Z,Z,Z,Z,Z,Z,Z,Z,Z,Z,Z,congrArg (fun b=>some (Value.bool b)) (show (x.b != 0) = ((x.a != 0) || (x.b != 0)) by first | (rw [hg7] <;> rfl) | (simp [hg7];done) | (simp only [Qp] <;> simp)),trivial⟩ Z))))
         rintro _ rfl
         refine Qf (Qw Z (fun hc14=>?_) (fun hc14=>?_))
         ·refine Qh (Qi [true] Z Z (Qa (Qg Z) Z (Qf (Qx (Qz (Us (Q0 Z Z E ?_)))))))
          exact Gh (by rw [Vt (by assumption) (by assumption) (by assumption)];exact kx0 (by assumption))
         ·refine Qy (Yb (Yv (Yb (Vh () ⟨Z,Z,trivial⟩ ⟨E,(by omega),h1,(by rw [Vt (by assumption) (by assumption) (by assumption)];exact ky0 (by assumption) (Vo (by simp at *;omega)))⟩))))
        ·refine Qi [true,true] Z Z (Qa (Yq Z Z) Z (Qa (Qg Z) Z (Qf (Qw Z (fun hc15=>?_) (fun hc15=>?_)))))
         ·refine Qh (Qi [true,true,true,true,true,true,true,true] Z Z (Qa (Qd Uf Z) Z (Qa (Qj Y6 Z (h1.one 1 Z)) Z (Qa (Xs Z Z) Z (Qa (Qe Z) Z (Xg 4 [(0,.agg [.int .i64 x.kind,.int .i64 x.a,.int .i64 x.b,o1].toArray),(1,.pointer (some ⟨b1,0,none⟩)),(2,.bool false),(5,.pointer (some ⟨b1,0,none⟩)),(6,.int .i64 x.kind),(7,.bool (x.kind == 2)),(8,.bool (x.kind == 2)),(18,.bool (x.kind == 3)),(19,.bool (x.kind == 3)),(33,.bool (x.kind == 4)),(34,.bool (x.kind == 4)),(44,.bool (x.kind == 8)),(45,.bool (x.kind == 1)),(46,.bool (x.kind == 5)),(47,.bool (x.kind == 6)),(48,.bool (x.kind == 7)),(49,.bool (x.kind == 8)),(57,.bool ((x.a != 0) || (x.b != 0)))] (fun w'=>w1 = w') ?_ ?_))))))
          ·refine Ym (gd:=53) Z Z (fun hg8=>?_) (fun hg8=>?_)
           ·refine Qc Z Z Z Z (Qc Z Z Z Z (Qc Z Z Z Z (Qa (Qr Z Z) Z (Ql ⟨Z,Z,Z,Z,Z,Z,Z,Z,Z,Z,Z,Z,Z,Z,Z,Z,Z,congrArg (fun b=>some (Value.bool b)) (show true = ((x.a != 0) || (x.b != 0)) by first | (rw [hg8] <;> rfl) | (simp [hg8];done) | (simp only [Qp] <;> simp)),trivial⟩ Z))))
           ·refine Qk Z Z (Qd Vu Z) Z (Qk Z Z (Qj Y6 Z (h1.one 2 Z)) Z (Qk Z Z (Xs Z Z) Z (Qa (Qq Z Z) Z (Ql ⟨Z,Z,Z,Z,Z,Z,Z,Z,Z,Z,Z,Z,Z,Z,Z,Z,Z,congrArg (fun b=>some (Value.bool b)) (show (x.b != 0) = ((x.a != 0) || (x.b != 0)) by first | (rw [hg8] <;> rfl) | (simp [hg8];done) | (simp only [Qp] <;> simp)),trivial⟩ Z))))
          rintro _ rfl
          refine Qf (Qw Z (fun hc16=>?_) (fun hc16=>?_))
          ·refine Qh (Qi [true] Z Z (Qa (Qg Z) Z (Qf (Qx (Qz (Us (Q0 Z Z E ?_)))))))
           exact Gh (by rw [Vt (by assumption) (by assumption) (by assumption)];exact kx0 (by assumption))
          ·refine Qy (Yb (Yv (Yb (Vh () ⟨Z,Z,trivial⟩ ⟨E,(by omega),h1,(by rw [Vt (by assumption) (by assumption) (by assumption)];exact ky0 (by assumption) (Vo (by simp at *;omega)))⟩))))
         ·refine Qh (Qi [true] Z Z (Qa (Qg Z) Z (Qf (Qx (Qz (Us (Q0 Z Z E ?_)))))))
          exact Gh (by rw [Vt (by assumption) (by assumption) (by assumption),win_not (by simp at *;omega)];rfl)
 ·clear E h1
  rintro _ w14 ⟨E,z2,h1,hkk⟩
  refine Qh (Qh (Xu Xo [(0,true),(1,true),(2,true),(3,true),(4,true),(5,true),(6,true),(7,true),(8,true),(9,true),(10,true),(11,true),(12,true),(13,true),(14,true),(15,true),(16,true),(17,true),(18,true),(19,true),(20,true),(21,true),(22,true),(23,true),(24,true),(25,true),(26,true),(27,true),(28,true),(29,true),(30,true),(31,true)] (by decide +kernel) Z (fun w15 e6=>?_)))
  replace E:=E.trans e6;replace h1:=h1.ext e6
  have z8:=e6.size
  refine Qa (Qd Xz Z) Z (Qa (Qj Kg Z (h1.one 3 Z)) Z (Qa (Yg Tryz.underlying29 Z (hd1.ext E).len) Z (Qa (Un Z Z) Z (Qa (Qe Z) Z (Xg 27 [(1,.pointer (some ⟨b1,0,none⟩)),(2,.bool false),(89,.bool (((decide (2 < ((x.outs.length : Nat) : Int))) || ((x.kind == 8) && (decide (0 < ((x.outs.length : Nat) : Int))))) || ((((x.outs.length : Nat) : Int) == 2) && ((List.getD x.outs 0 default) == (List.getD x.outs 1 default)))))] (fun w'=>w15 = w') ?_ ?_)))))
  ·refine Ym (gd:=62) Z Z (fun hg9=>?_) (fun hg9=>?_)
   ·have hg9n : x.outs.length > 2:=by first | (have h:=of_decide_eq_true hg9;omega) | (have h:=hg9;simp at h;omega)
    refine Qc Z Z Z Z (Qc Z Z Z Z (Qc Z Z Z Z (Qc Z Z Z Z (Q3 Z Z Z (Q3 Z Z Z (Q3 Z Z Z (Q3 Z Z Z (Qc Z Z Z Z (Qa (Qr Z Z) Z (Qa (Qe Z) Z (Qc Z Z Z Z (Qc Z Z Z Z (Qc Z Z Z Z (Qc Z Z Z Z (Qc Z Z Z Z (Q3 Z Z Z (Q3 Z Z Z (Q3 Z Z Z (Q3 Z Z Z (Q3 Z Z Z (Q3 Z Z Z (Q3 Z Z Z (Q3 Z Z Z (Q3 Z Z Z (Qc Z Z Z Z (Qa (Qr Z Z) Z (Ql ⟨Z,Z,congrArg (fun b=>some (Value.bool b)) (show true = (((decide (2 < ((x.outs.length : Nat) : Int))) || ((x.kind == 8) && (decide (0 < ((x.outs.length : Nat) : Int))))) || ((((x.outs.length : Nat) : Int) == 2) && ((List.getD x.outs 0 default) == (List.getD x.outs 1 default)))) by first | (rw [hg9] <;> rfl) | (simp [hg9];done) | (simp only [Qp] <;> simp)),trivial⟩ Z)))))))))))))))))))))))))))
   ·have hg9n : ¬ x.outs.length > 2:=by first | (have h:=of_decide_eq_false hg9;omega) | (have h:=hg9;simp at h;omega)
    refine Qk Z Z (Qd X7 Z) Z (Qk Z Z (Qj Y6 Z (h1.one 0 Z)) Z (Qk Z Z (Yq Z Z) Z (Qk Z Z (Qe Z) Z ?_)))
    refine Ym (gd:=66) Z Z (fun hg10=>?_) (fun hg10=>?_)
    ·refine Qk Z Z (Qd Xz Z) Z (Qk Z Z (Qj Kg Z (h1.one 3 Z)) Z (Qk Z Z (Yg Tryz.underlying29 Z (hd1.ext E).len) Z (Qk Z Z (Un Z Z) Z (Qk Z Z (Qr Z Z) Z (Qa (Qq Z Z) Z (Qa (Qe Z) Z ?_))))))
     refine Ym (gd:=73) Z Z (fun hg11=>?_) (fun hg11=>?_)
     ·have hg11n : x.outs.length > 0:=by first | (have h:=of_decide_eq_true hg11;omega) | (have h:=hg11;simp at h;omega)
      refine Qc Z Z Z Z (Qc Z Z Z Z (Qc Z Z Z Z (Qc Z Z Z Z (Qc Z Z Z Z (Q3 Z Z Z (Q3 Z Z Z (Q3 Z Z Z (Q3 Z Z Z (Q3 Z Z Z (Q3 Z Z Z (Q3 Z Z Z (Q3 Z Z Z (Q3 Z Z Z (Qc Z Z Z Z (Qa (Qr Z Z) Z (Ql ⟨Z,Z,congrArg (fun b=>some (Value.bool b)) (show true = (((decide (2 < ((x.outs.length : Nat) : Int))) || ((x.kind == 8) && (decide (0 < ((x.outs.length : Nat) : Int))))) || ((((x.outs.length : Nat) : Int) == 2) && ((List.getD x.outs 0 default) == (List.getD x.outs 1 default)))) by first | (rw [hg9,hg10,hg11] <;> rfl) | (simp [hg9,hg10,hg11];done) | (simp only [Qp] <;> simp)),trivial⟩ Z))))))))))))))))
     ·have hg11n : ¬ x.outs.length > 0:=by first | (have h:=of_decide_eq_false hg11;omega) | (have h:=hg11;simp at h;omega)
      refine Qk Z Z (Qd Xz Z) Z (Qk Z Z (Qj Kg Z (h1.one 3 Z)) Z (Qk Z Z (Yg Tryz.underlying29 Z (hd1.ext E).len) Z (Qk Z Z (Yq Z Z) Z (Qk Z Z (Qe Z) Z ?_))))
      refine Ym (gd:=78) Z Z (fun hg12=>?_) (fun hg12=>?_)
      ·have hg12n : x.outs.length = 2:=by first | (have h:=of_decide_eq_true hg12;omega) | (have h:=hg12;simp at h;omega)
       refine Qk Z Z (Qd Xz Z) Z (Qk Z Z (Qj Kg Z (h1.one 3 Z)) Z (Qk Z Z (Ye (i:=0) Ke Z Z (hd1.rd.ext E) (by first | assumption | omega | (simp only [List.length_set];first | assumption | omega) | (simp only [List.getElem_set_self,List.length_set];first | assumption | omega) | (simp only [Xc,Yp,List.length_set];first | assumption | omega) | (simp;done))) Z (Qk Z Z (Qj Y6 Z ((RdS.getD (hd1.rd.ext E) (i:=0) (by first | assumption | omega | (simp only [List.length_set];first | assumption | omega) | (simp only [List.getElem_set_self,List.length_set];first | assumption | omega) | (simp only [Xc,Yp,List.length_set];first | assumption | omega) | (simp;done))).one 0 Z)) Z (Qk Z Z (Qd Xz Z) Z (Qk Z Z (Qj Kg Z (h1.one 3 Z)) Z (Qk Z Z (Ye (i:=1) Ke Z Z (hd1.rd.ext E) (by first | assumption | omega | (simp only [List.length_set];first | assumption | omega) | (simp only [List.getElem_set_self,List.length_set];first | assumption | omega) | (simp only [Xc,Yp,List.length_set];first | assumption | omega) | (simp;done))) Z (Qk Z Z (Qj Y6 Z ((RdS.getD (hd1.rd.ext E) (i:=1) (by first | assumption | omega | (simp only [List.length_set];first | assumption | omega) | (simp only [List.getElem_set_self,List.length_set];first | assumption | omega) | (simp only [Xc,Yp,List.length_set];first | assumption | omega) | (simp;done))).one 0 Z)) Z (Qk Z Z (Yq Z Z) Z (Qk Z Z (Qr Z Z) Z (Qa (Qq Z Z) Z (Ql ⟨Z,Z,congrArg (fun b=>some (Value.bool b)) (show ((List.getD x.outs 0 default) == (List.getD x.outs 1 default)) = (((decide (2 < ((x.outs.length : Nat) : Int))) || ((x.kind == 8) && (decide (0 < ((x.outs.length : Nat) : Int))))) || ((((x.outs.length : Nat) : Int) == 2) && ((List.getD x.outs 0 default) == (List.getD x.outs 1 default)))) by first | (rw [hg9,hg10,hg11,hg12] <;> rfl) | (simp [hg9,hg10,hg11,hg12];done) | (simp only [Qp] <;> simp)),trivial⟩ Z)))))))))))
      ·have hg12n : ¬ x.outs.length = 2:=by first | (have h:=of_decide_eq_false hg12;omega) | (have h:=hg12;simp at h;omega)
       refine Qc Z Z Z Z (Qc Z Z Z Z (Qc Z Z Z Z (Qc Z Z Z Z (Qc Z Z Z Z (Qc Z Z Z Z (Qc Z Z Z Z (Qc Z Z Z Z (Qc Z Z Z Z (Qk Z Z (Qq Z Z) Z (Qa (Qq Z Z) Z (Ql ⟨Z,Z,congrArg (fun b=>some (Value.bool b)) (show false = (((decide (2 < ((x.outs.length : Nat) : Int))) || ((x.kind == 8) && (decide (0 < ((x.outs.length : Nat) : Int))))) || ((((x.outs.length : Nat) : Int) == 2) && ((List.getD x.outs 0 default) == (List.getD x.outs 1 default)))) by first | (rw [hg9,hg10,hg11,hg12] <;> rfl) | (simp [hg9,hg10,hg11,hg12];done) | (simp only [Qp] <;> simp)),trivial⟩ Z)))))))))))
    ·refine Qc Z Z Z Z (Qc Z Z Z Z (Qc Z Z Z Z (Qc Z Z Z Z (Qk Z Z (Qq Z Z) Z (Qa (Qq Z Z) Z (Qa (Qe Z) Z (Qk Z Z (Qd Xz Z) Z (Qk Z Z (Qj Kg Z (h1.one 3 Z)) Z (Qk Z Z (Yg Tryz.underlying29 Z (hd1.ext E).len) Z (Qk Z Z (Yq Z Z) Z (Qk Z Z (Qe Z) Z ?_)))))))))))
     refine Ym (gd:=78) Z Z (fun hg13=>?_) (fun hg13=>?_)
     ·have hg13n : x.outs.length = 2:=by first | (have h:=of_decide_eq_true hg13;omega) | (have h:=hg13;simp at h;omega)
      refine Qk Z Z (Qd Xz Z) Z (Qk Z Z (Qj Kg Z (h1.one 3 Z)) Z (Qk Z Z (Ye (i:=0) Ke Z Z (hd1.rd.ext E) (by first | assumption | omega | (simp only [List.length_set];first | assumption | omega) | (simp only [List.getElem_set_self,List.length_set];first | assumption | omega) | (simp only [Xc,Yp,List.length_set];first | assumption | omega) | (simp;done))) Z (Qk Z Z (Qj Y6 Z ((RdS.getD (hd1.rd.ext E) (i:=0) (by first | assumption | omega | (simp only [List.length_set];first | assumption | omega) | (simp only [List.getElem_set_self,List.length_set];first | assumption | omega) | (simp only [Xc,Yp,List.length_set];first | assumption | omega) | (simp;done))).one 0 Z)) Z (Qk Z Z (Qd Xz Z) Z (Qk Z Z (Qj Kg Z (h1.one 3 Z)) Z (Qk Z Z (Ye (i:=1) Ke Z Z (hd1.rd.ext E) (by first | assumption | omega | (simp only [List.length_set];first | assumption | omega) | (simp only [List.getElem_set_self,List.length_set];first | assumption | omega) | (simp only [Xc,Yp,List.length_set];first | assumption | omega) | (simp;done))) Z (Qk Z Z (Qj Y6 Z ((RdS.getD (hd1.rd.ext E) (i:=1) (by first | assumption | omega | (simp only [List.length_set];first | assumption | omega) | (simp only [List.getElem_set_self,List.length_set];first | assumption | omega) | (simp only [Xc,Yp,List.length_set];first | assumption | omega) | (simp;done))).one 0 Z)) Z (Qk Z Z (Yq Z Z) Z (Qk Z Z (Qr Z Z) Z (Qa (Qq Z Z) Z (Ql ⟨Z,Z,congrArg (fun b=>some (Value.bool b)) (show ((List.getD x.outs 0 default) == (List.getD x.outs 1 default)) = (((decide (2 < ((x.outs.length : Nat) : Int))) || ((x.kind == 8) && (decide (0 < ((x.outs.length : Nat) : Int))))) || ((((x.outs.length : Nat) : Int) == 2) && ((List.getD x.outs 0 default) == (List.getD x.outs 1 default)))) by first | (rw [hg9,hg10,hg13] <;> rfl) | (simp [hg9,hg10,hg13];done) | (simp only [Qp] <;> simp)),trivial⟩ Z)))))))))))
     ·have hg13n : ¬ x.outs.length = 2:=by first | (have h:=of_decide_eq_false hg13;omega) | (have h:=hg13;simp at h;omega)
      refine Qc Z Z Z Z (Qc Z Z Z Z (Qc Z Z Z Z (Qc Z Z Z Z (Qc Z Z Z Z (Qc Z Z Z Z (Qc Z Z Z Z (Qc Z Z Z Z (Qc Z Z Z Z (Qk Z Z (Qq Z Z) Z (Qa (Qq Z Z) Z (Ql ⟨Z,Z,congrArg (fun b=>some (Value.bool b)) (show false = (((decide (2 < ((x.outs.length : Nat) : Int))) || ((x.kind == 8) && (decide (0 < ((x.outs.length : Nat) : Int))))) || ((((x.outs.length : Nat) : Int) == 2) && ((List.getD x.outs 0 default) == (List.getD x.outs 1 default)))) by first | (rw [hg9,hg10,hg13] <;> rfl) | (simp [hg9,hg10,hg13];done) | (simp only [Qp] <;> simp)),trivial⟩ Z)))))))))))
  rintro _ rfl
  refine Qf (Qw Z (fun hc17=>?_) (fun hc17=>?_))
  ·refine Qh (Qi [true] Z Z (Qa (Qg Z) Z (Qf (Qx (Q0 Z Z E ?_)))))
   exact node_t (by assumption)
  ·refine Qy (Qh (Qh (Qi [true,true,true,true] Z Z (Qa (Qd Xz Z) Z (Qa (Qj Kg Z (h1.one 3 Z)) Z (Qa (Yg Tryz.underlying29 Z (hd1.ext E).len) Z (Qa (Qe Z) Z (Qf (Q9 (Xk (fun (k : Nat)=>[(2,.bool false),(91,o1),(92,.int .i64 ((x.outs.length : Nat) : Int)),(93,.int .i64 ((k : Nat) : Int))]) (fun (k : Nat) w'=>Ext w w' ∧ w15.heap.size ≤ w'.heap.size ∧ Blk w' b1 ([.int .i64 x.kind,.int .i64 x.a,.int .i64 x.b,o1]) ∧ k ≤ x.outs.length ∧ (x.outs.take k).all (Y0 · 0 7) = true) (fun (k : Nat)=>x.outs.length - k) 0 ⟨Z,Z,Z,Z,trivial⟩ ⟨E,Nat.le_refl _,h1,Nat.zero_le _,Z⟩ ?_))))))))))
   clear E h1
   rintro k w17 ⟨E,z9,h1,hk,hI⟩
   refine Qh (Qi [true] Z Z (Qa (Xn Z Z) Z (Qf (Qh (Qw Z (fun hc18=>?_) (fun hc18=>?_))))))
   ·have hc18n : k < x.outs.length:=by first | (have h:=of_decide_eq_true hc18;omega) | (have h:=hc18;simp at h;omega)
    refine Qy (Qh (Q9 (Qh (Qi [true,true,true] Z Z ?_))))
    have hi1 : k < x.outs.length:=(by first | assumption | omega | (simp only [List.length_set];first | assumption | omega) | (simp only [List.getElem_set_self,List.length_set];first | assumption | omega) | (simp only [Xc,Yp,List.length_set];first | assumption | omega) | (simp;done))
    refine Qa (Ye (i:=k) Ke Z Z (hd1.rd.ext E) hi1) Z (Qa (Qj Y6 Z (((hd1.rd.ext E).get hi1).one 0 Z)) Z (Qa (Qg Z) Z (Qf (Qh (Qi [true,false,true] Z Z (Qa (Qe Z) Z (Qv Tryz.call42 Z (c_within (x.outs[k]'hi1) 0 7 _ ) Z (fun _ w18 e7 hv=>?_))))))))
    subst hv
    replace E:=E.trans e7;replace h1:=h1.ext e7
    have z10:=e7.size
    refine Qa (Y1 Z) Z (Qf (Qw Z (fun hc19=>?_) (fun hc19=>?_)))
    ·refine Qh (Qi [true] Z Z (Qa (Qg Z) Z (Qf (Qx (Qz (Xb (Qz (Q0 Z Z E ?_))))))))
     exact node_l (by assumption)
    ·refine Qy (Yb (Yv (Qi [true,true] Z Z (Qa (Yw Z Z (Y7 hc18n (hd1.ext E).1.1)) Z (Qa (Qe Z) Z (Qf (Yb (Yy (k + 1) (by omega) ⟨Z,Z,Z,Z,trivial⟩ ⟨E,(by omega),h1,(by omega),Ux hI (by assumption) (by simpa using (show (!(Y0 x.outs[k] 0 7)) = false by assumption))⟩))))))))
   ·have hc18n : ¬ k < x.outs.length:=by first | (have h:=of_decide_eq_false hc18;omega) | (have h:=hc18;simp at h;omega)
    refine Xl (Ys (Yj ?_))
    refine Qh (Qi [true] Z Z (Qa (Qg Z) Z (Qf (Qx (Q0 Z Z E ?_)))))
    exact node_y hkk (by assumption) hI (by omega)

set_option maxHeartbeats 4000000 in
set_option maxRecDepth 20000 in
theorem s_NodeOk (cx : List Value) (x : Node) (w : World) (hx : Dat.R w 0 w.heap.size cx x) : Ct Tryz.prog 62 [.agg cx.toArray] w (fun v _=>v = .bool (Y9 x)):=by
 refine Yx Tryz.func62 Z Tryz.ntmps62 Z ?_
 obtain ⟨o1,rfl,hd1⟩:=Node.op hx
 refine Yh [(0,.agg [.int .i64 x.kind,.int .i64 x.a,.int .i64 x.b,o1].toArray)] ⟨Z,trivial⟩ ?_
 have E : Ext w w:=Ext.refl w
 refine Qh (Qi [false,true] Z Z (Y5 Z Z (fun b1 w1 e1 s1 h1=>?_)))
 have g_b1 : w.heap.size ≤ b1:=by have:=E.size;omega
 have y_b1:=h1.lt
 replace E:=E.trans e1
 have z1:=e1.size
 refine Qa (Qg Z) Z (Qf (Qh (Qi [true,true,true,true] Z Z (Qa (Qd Uf Z) Z (Qa (Qj Y6 Z (h1.one 1 Z)) Z (Qa (Yq Z Z) Z (Qa (Qg Z) Z (Qf (Qh (Qi [true,true,true,true] Z Z (Qa (Qd Vu Z) Z (Qa (Qj Y6 Z (h1.one 2 Z)) Z (Qa (Yq Z Z) Z (Qa (Qg Z) Z (Qf (Qh (Qh (Qi [true,true] Z Z (Qa (Qd X7 Z) Z (Qa (Qj Y6 Z (h1.one 0 Z)) Z (Qf (S_cutG (fun (xq : Bool × Bool)=>let ⟨p0,q0⟩:=xq;[(1,.pointer (some ⟨b1,0,none⟩)),(2,.bool false),(3,.bool p0),(4,.bool q0)]) (fun (xq : Bool × Bool) w'=>let ⟨p0,q0⟩:=xq;Ext w w' ∧ w1.heap.size ≤ w'.heap.size ∧ Blk w' b1 ([.int .i64 x.kind,.int .i64 x.a,.int .i64 x.b,o1]) ∧ Uj x = (Y0 x.kind 1 8 && p0 && q0)) ?_ ?_))))))))))))))))))))))
 ·refine Q9 (Qh (Qi [true,true] Z Z (Qa (Yq Z Z) Z (Qa (Qg Z) Z (Qf (Qw Z (fun hc1=>?_) (fun hc1=>?_)))))))
  ·refine Qi [true,true,false,true] Z Z (Qa (Qd Uf Z) Z (Qa (Qj Y6 Z (h1.one 1 Z)) Z (Qv Tryz.call45 Z (s_l01In x.a 0 999 _ ) Z (fun _ w2 e2 hv=>?_))))
   subst hv
   replace E:=E.trans e2;replace h1:=h1.ext e2
   have z3:=e2.size
   refine Qa (Qg Z) Z (Qf (Yb (Yv (Yb (Vh (Y0 x.a 0 999,x.b == 0) ⟨Z,Z,Z,Z,trivial⟩ ⟨E,(by omega),h1,(by rw [node_2 (by assumption),Vo (n:=x.kind) (by have:=eq_of_beq (show (x.kind == 2) = true by assumption);omega),Bool.true_and])⟩)))))
  ·refine Qh (Qi [true,true] Z Z (Qa (Yq Z Z) Z (Qa (Qg Z) Z (Qf (Qw Z (fun hc2=>?_) (fun hc2=>?_))))))
   ·refine Qh (Qi [true,true,false,true] Z Z (Qa (Qd Uf Z) Z (Qa (Qj Y6 Z (h1.one 1 Z)) Z (Qv Tryz.call45 Z (s_l01In x.a 1 10 _ ) Z (fun _ w3 e3 hv=>?_)))))
    subst hv
    replace E:=E.trans e3;replace h1:=h1.ext e3
    have z4:=e3.size
    refine Qa (Qg Z) Z (Qf (Qi [true,true,true,true,true,false,true] Z Z (Qa (Qd Vu Z) Z (Qa (Qj Y6 Z (h1.one 2 Z)) Z (Qa (Qd Uf Z) Z (Qa (Qj Y6 Z (h1.one 1 Z)) Z (Qa (U5 Z Z Z) Z (Qv Tryz.call45 Z (s_l01In x.b 0 (IntKind.i64.wrap (x.a - 1)) _ ) Z (fun _ w4 e4 hv=>?_)))))))))
    subst hv
    replace E:=E.trans e4;replace h1:=h1.ext e4
    have z5:=e4.size
    refine Qa (Qg Z) Z (Qf (Yb (Yv (Yb (Vh (Y0 x.a 1 10,Y0 x.b 0 (IntKind.i64.wrap (x.a - 1))) ⟨Z,Z,Z,Z,trivial⟩ ⟨E,(by omega),h1,(by rw [node_3 (by assumption),Vo (n:=x.kind) (by have:=eq_of_beq (show (x.kind == 3) = true by assumption);omega),Bool.true_and])⟩)))))
   ·refine Qh (Qi [true,true] Z Z (Qa (Yq Z Z) Z (Qa (Qg Z) Z (Qf (Qw Z (fun hc3=>?_) (fun hc3=>?_))))))
    ·refine Qi [true,true,false,true] Z Z (Qa (Qd Uf Z) Z (Qa (Qj Y6 Z (h1.one 1 Z)) Z (Qv Tryz.call45 Z (s_l01In x.a 0 99 _ ) Z (fun _ w5 e5 hv=>?_))))
     subst hv
     replace E:=E.trans e5;replace h1:=h1.ext e5
     have z6:=e5.size
     refine Qa (Qg Z) Z (Qf (Yb (Yv (Yb (Vh (Y0 x.a 0 99,x.b == 0) ⟨Z,Z,Z,Z,trivial⟩ ⟨E,(by omega),h1,(by rw [node_4 (by assumption),Vo (n:=x.kind) (by have:=eq_of_beq (show (x.kind == 4) = true by assumption);omega),Bool.true_and])⟩)))))
    ·refine Qy (Yb (Yv (Yb (Vh (x.a == 0,x.b == 0) ⟨Z,Z,Z,Z,trivial⟩ ⟨E,(by omega),h1,(Vt (by assumption) (by assumption) (by assumption))⟩))))
 ·clear E h1
  rintro ⟨p0,q0⟩ w6 ⟨E,z2,h1,hpq⟩
  refine Yh [(1,.pointer (some ⟨b1,0,none⟩)),(2,.bool false),(3,.bool p0),(4,.bool q0)] ⟨Z,Z,Z,Z,trivial⟩ ?_
  refine Qh (Qh (Qi [true,true,false,true,true,true,true,true,true,true,true,true,true,true,true,true,true,true,true,true,true,true,true,true,true,true,true,true,true] Z Z (Qa (Qd X7 Z) Z (Qa (Qj Y6 Z (h1.one 0 Z)) Z (Qv Tryz.call45 Z (s_l01In x.kind 1 8 _ ) Z (fun _ w7 e6 hv=>?_))))))
  subst hv
  replace E:=E.trans e6;replace h1:=h1.ext e6
  have z7:=e6.size
  refine Qa (Y1 Z) Z (Qa (Qe Z) Z (Xg 24 [(1,.pointer (some ⟨b1,0,none⟩)),(2,.bool false),(3,.bool p0),(4,.bool q0),(63,.bool (((((!(Y0 x.kind 1 8)) || (!p0)) || (!q0)) || (decide (2 < ((x.outs.length : Nat) : Int)))) || ((x.kind == 8) && (decide (0 < ((x.outs.length : Nat) : Int))))))] (fun w'=>w7 = w') ?_ ?_))
  ·refine Ym (gd:=39) Z Z (fun hg1=>?_) (fun hg1=>?_)
   ·refine Qc Z Z Z Z (Qc Z Z Z Z (Qa (Qr Z Z) Z (Qa (Qe Z) Z (Qc Z Z Z Z (Qc Z Z Z Z (Qa (Qr Z Z) Z (Qa (Qe Z) Z (Qc Z Z Z Z (Qc Z Z Z Z (Qc Z Z Z Z (Qc Z Z Z Z (Qa (Qr Z Z) Z (Qa (Qe Z) Z (Qc Z Z Z Z (Qc Z Z Z Z (Qc Z Z Z Z (Qc Z Z Z Z (Q3 Z Z Z (Q3 Z Z Z (Q3 Z Z Z (Q3 Z Z Z (Qc Z Z Z Z (Qa (Qr Z Z) Z (Ql ⟨Z,Z,Z,Z,congrArg (fun b=>some (Value.bool b)) (show true = (((((!(Y0 x.kind 1 8)) || (!p0)) || (!q0)) || (decide (2 < ((x.outs.length : Nat) : Int)))) || ((x.kind == 8) && (decide (0 < ((x.outs.length : Nat) : Int))))) by first | (rw [hg1] <;> rfl) | (simp [hg1];done) | (simp only [Qp] <;> simp)),trivial⟩ Z))))))))))))))))))))))))
   ·refine Qk Z Z (Qe Z) Z (Qk Z Z (Y1 Z) Z (Qa (Qq Z Z) Z (Qa (Qe Z) Z ?_)))
    refine Ym (gd:=43) Z Z (fun hg2=>?_) (fun hg2=>?_)
    ·refine Qc Z Z Z Z (Qc Z Z Z Z (Qa (Qr Z Z) Z (Qa (Qe Z) Z (Qc Z Z Z Z (Qc Z Z Z Z (Qc Z Z Z Z (Qc Z Z Z Z (Qa (Qr Z Z) Z (Qa (Qe Z) Z (Qc Z Z Z Z (Qc Z Z Z Z (Qc Z Z Z Z (Qc Z Z Z Z (Q3 Z Z Z (Q3 Z Z Z (Q3 Z Z Z (Q3 Z Z Z (Qc Z Z Z Z (Qa (Qr Z Z) Z (Ql ⟨Z,Z,Z,Z,congrArg (fun b=>some (Value.bool b)) (show true = (((((!(Y0 x.kind 1 8)) || (!p0)) || (!q0)) || (decide (2 < ((x.outs.length : Nat) : Int)))) || ((x.kind == 8) && (decide (0 < ((x.outs.length : Nat) : Int))))) by first | (rw [hg1,hg2] <;> rfl) | (simp [hg1,hg2];done) | (simp only [Qp] <;> simp)),trivial⟩ Z))))))))))))))))))))
    ·refine Qk Z Z (Qe Z) Z (Qk Z Z (Y1 Z) Z (Qa (Qq Z Z) Z (Qa (Qe Z) Z ?_)))
     refine Ym (gd:=47) Z Z (fun hg3=>?_) (fun hg3=>?_)
     ·refine Qc Z Z Z Z (Qc Z Z Z Z (Qc Z Z Z Z (Qc Z Z Z Z (Qa (Qr Z Z) Z (Qa (Qe Z) Z (Qc Z Z Z Z (Qc Z Z Z Z (Qc Z Z Z Z (Qc Z Z Z Z (Q3 Z Z Z (Q3 Z Z Z (Q3 Z Z Z (Q3 Z Z Z (Qc Z Z Z Z (Qa (Qr Z Z) Z (Ql ⟨Z,Z,Z,Z,congrArg (fun b=>some (Value.bool b)) (show true = (((((!(Y0 x.kind 1 8)) || (!p0)) || (!q0)) || (decide (2 < ((x.outs.length : Nat) : Int)))) || ((x.kind == 8) && (decide (0 < ((x.outs.length : Nat) : Int))))) by first | (rw [hg1,hg2,hg3] <;> rfl) | (simp [hg1,hg2,hg3];done) | (simp only [Qp] <;> simp)),trivial⟩ Z))))))))))))))))
     ·refine Qk Z Z (Qd Xz Z) Z (Qk Z Z (Qj Kg Z (h1.one 3 Z)) Z (Qk Z Z (Yg Tryz.underlying29 Z (hd1.ext E).len) Z (Qk Z Z (Un Z Z) Z (Qa (Qq Z Z) Z (Qa (Qe Z) Z ?_)))))
      refine Ym (gd:=53) Z Z (fun hg4=>?_) (fun hg4=>?_)
      ·have hg4n : x.outs.length > 2:=by first | (have h:=of_decide_eq_true hg4;omega) | (have h:=hg4;simp at h;omega)
       refine Qc Z Z Z Z (Qc Z Z Z Z (Qc Z Z Z Z (Qc Z Z Z Z (Q3 Z Z Z (Q3 Z Z Z (Q3 Z Z Z (Q3 Z Z Z (Qc Z Z Z Z (Qa (Qr Z Z) Z (Ql ⟨Z,Z,Z,Z,congrArg (fun b=>some (Value.bool b)) (show true = (((((!(Y0 x.kind 1 8)) || (!p0)) || (!q0)) || (decide (2 < ((x.outs.length : Nat) : Int)))) || ((x.kind == 8) && (decide (0 < ((x.outs.length : Nat) : Int))))) by first | (rw [hg1,hg2,hg3,hg4] <;> rfl) | (simp [hg1,hg2,hg3,hg4];done) | (simp only [Qp] <;> simp)),trivial⟩ Z))))))))))
      ·have hg4n : ¬ x.outs.length > 2:=by first | (have h:=of_decide_eq_false hg4;omega) | (have h:=hg4;simp at h;omega)
       refine Qk Z Z (Qd X7 Z) Z (Qk Z Z (Qj Y6 Z (h1.one 0 Z)) Z (Qk Z Z (Yq Z Z) Z (Qk Z Z (Qe Z) Z ?_)))
       refine Ym (gd:=57) Z Z (fun hg5=>?_) (fun hg5=>?_)
       ·refine Qk Z Z (Qd Xz Z) Z (Qk Z Z (Qj Kg Z (h1.one 3 Z)) Z (Qk Z Z (Yg Tryz.underlying29 Z (hd1.ext E).len) Z (Qk Z Z (Un Z Z) Z (Qk Z Z (Qr Z Z) Z (Qa (Qq Z Z) Z (Ql ⟨Z,Z,Z,Z,congrArg (fun b=>some (Value.bool b)) (show (decide (0 < ((x.outs.length : Nat) : Int))) = (((((!(Y0 x.kind 1 8)) || (!p0)) || (!q0)) || (decide (2 < ((x.outs.length : Nat) : Int)))) || ((x.kind == 8) && (decide (0 < ((x.outs.length : Nat) : Int))))) by first | (rw [hg1,hg2,hg3,hg4,hg5] <;> rfl) | (simp [hg1,hg2,hg3,hg4,hg5];done) | (simp only [Qp] <;> simp)),trivial⟩ Z))))))
       ·refine Qc Z Z Z Z (Qc Z Z Z Z (Qc Z Z Z Z (Qc Z Z Z Z (Qk Z Z (Qq Z Z) Z (Qa (Qq Z Z) Z (Ql ⟨Z,Z,Z,Z,congrArg (fun b=>some (Value.bool b)) (show false = (((((!(Y0 x.kind 1 8)) || (!p0)) || (!q0)) || (decide (2 < ((x.outs.length : Nat) : Int)))) || ((x.kind == 8) && (decide (0 < ((x.outs.length : Nat) : Int))))) by first | (rw [hg1,hg2,hg3,hg4,hg5] <;> rfl) | (simp [hg1,hg2,hg3,hg4,hg5];done) | (simp only [Qp] <;> simp)),trivial⟩ Z))))))
  rintro _ rfl
  refine Qf (Qw Z (fun hc4=>?_) (fun hc4=>?_))
  ·refine Qh (Qi [true] Z Z (Qa (Qg Z) Z (Qf (Qx (Q0 Z Z E ?_)))))
   exact node_s hpq (by assumption)
  ·refine Qy (Qh (Qh (Qi [true] Z Z (Qa (Qg Z) Z (Qf (Q9 (Xk (fun (k : Nat)=>[(1,.pointer (some ⟨b1,0,none⟩)),(2,.bool false),(5,.int .i64 ((k : Nat) : Int))]) (fun (k : Nat) w'=>Ext w w' ∧ w7.heap.size ≤ w'.heap.size ∧ Blk w' b1 ([.int .i64 x.kind,.int .i64 x.a,.int .i64 x.b,o1]) ∧ k ≤ x.outs.length ∧ (x.outs.take k).all (Y0 · 0 7) = true ∧ (1 < k → ((List.getD x.outs 0 default) == (List.getD x.outs 1 default)) = false)) (fun (k : Nat)=>x.outs.length - k) 0 ⟨Z,Z,Z,trivial⟩ ⟨E,Nat.le_refl _,h1,Nat.zero_le _,Z,(by omega)⟩ ?_)))))))
   clear E h1
   rintro k w9 ⟨E,z8,h1,hk,hI,hJ⟩
   refine Qh (Qh (Qi [true,true,true,true,true] Z Z (Qa (Qe Z) Z (Qa (Qd Xz Z) Z (Qa (Qj Kg Z (h1.one 3 Z)) Z (Qa (Yg Tryz.underlying29 Z (hd1.ext E).len) Z (Qa (Xn Z Z) Z (Qf (Qw Z (fun hc5=>?_) (fun hc5=>?_))))))))))
   ·have hc5n : k < x.outs.length:=by first | (have h:=of_decide_eq_true hc5;omega) | (have h:=hc5;simp at h;omega)
    refine Qy (Qh (Q9 (Qh (Xu Xo [(0,true),(1,true),(2,true),(3,true),(4,true),(5,false),(6,true),(7,true),(8,true),(9,true),(10,true),(11,true),(12,true),(13,true),(14,true),(15,true),(16,true),(17,true),(18,true),(19,true),(20,true),(21,true)] (by decide +kernel) Z (fun w10 e7=>?_)))))
    replace E:=E.trans e7;replace h1:=h1.ext e7
    have z9:=e7.size
    refine Qa (Qd Xz Z) Z (Qa (Qj Kg Z (h1.one 3 Z)) Z (Qa (Qe Z) Z ?_))
    have hi1 : k < x.outs.length:=(by first | assumption | omega | (simp only [List.length_set];first | assumption | omega) | (simp only [List.getElem_set_self,List.length_set];first | assumption | omega) | (simp only [Xc,Yp,List.length_set];first | assumption | omega) | (simp;done))
    refine Qa (Ye (i:=k) Ke Z Z (hd1.rd.ext E) hi1) Z (Qa (Qj Y6 Z (((hd1.rd.ext E).get hi1).one 0 Z)) Z (Qv Tryz.call45 Z (s_l01In (x.outs[k]'hi1) 0 7 _ ) Z (fun _ w11 e8 hv=>?_)))
    subst hv
    replace E:=E.trans e8;replace h1:=h1.ext e8
    have z10:=e8.size
    refine Qa (Y1 Z) Z (Qa (Qe Z) Z (Xg 14 [(1,.pointer (some ⟨b1,0,none⟩)),(2,.bool false),(5,.int .i64 ((k : Nat) : Int)),(64,.int .i64 ((k : Nat) : Int)),(65,.pointer (some ⟨b1,3,none⟩)),(66,o1),(67,.int .i64 ((x.outs.length : Nat) : Int)),(68,.bool (decide (((k : Nat) : Int) < ((x.outs.length : Nat) : Int)))),(92,.bool ((!(Y0 (x.outs[k]'hi1) 0 7)) || ((decide (0 < ((k : Nat) : Int))) && ((List.getD x.outs 0 default) == (List.getD x.outs 1 default)))))] (fun w'=>w11 = w') ?_ ?_))
    ·refine Ym (gd:=78) Z Z (fun hg6=>?_) (fun hg6=>?_)
     ·refine Qc Z Z Z Z (Qc Z Z Z Z (Qc Z Z Z Z (Q3 Z Z Z (Q3 Z Z Z (Q3 Z Z Z (Q3 Z Z Z (Q3 Z Z Z (Q3 Z Z Z (Q3 Z Z Z (Q3 Z Z Z (Q3 Z Z Z (Qc Z Z Z Z (Qa (Qr Z Z) Z (Ql ⟨Z,Z,Z,Z,Z,Z,Z,Z,congrArg (fun b=>some (Value.bool b)) (show true = ((!(Y0 (x.outs[k]'hi1) 0 7)) || ((decide (0 < ((k : Nat) : Int))) && ((List.getD x.outs 0 default) == (List.getD x.outs 1 default)))) by first | (rw [hg6] <;> rfl) | (simp [hg6];done) | (simp only [Qp] <;> simp)),trivial⟩ Z))))))))))))))
     ·refine Qk Z Z (Qe Z) Z (Qk Z Z (Un Z Z) Z (Qk Z Z (Qe Z) Z ?_))
      refine Ym (gd:=81) Z Z (fun hg7=>?_) (fun hg7=>?_)
      ·have hg7n : k > 0:=by first | (have h:=of_decide_eq_true hg7;omega) | (have h:=hg7;simp at h;omega)
       refine Qk Z Z (Qd Xz Z) Z (Qk Z Z (Qj Kg Z (h1.one 3 Z)) Z (Qk Z Z (Ye (i:=0) Ke Z Z (hd1.rd.ext E) (by first | assumption | omega | (simp only [List.length_set];first | assumption | omega) | (simp only [List.getElem_set_self,List.length_set];first | assumption | omega) | (simp only [Xc,Yp,List.length_set];first | assumption | omega) | (simp;done))) Z (Qk Z Z (Qj Y6 Z ((RdS.getD (hd1.rd.ext E) (i:=0) (by first | assumption | omega | (simp only [List.length_set];first | assumption | omega) | (simp only [List.getElem_set_self,List.length_set];first | assumption | omega) | (simp only [Xc,Yp,List.length_set];first | assumption | omega) | (simp;done))).one 0 Z)) Z (Qk Z Z (Qd Xz Z) Z (Qk Z Z (Qj Kg Z (h1.one 3 Z)) Z (Qk Z Z (Ye (i:=1) Ke Z Z (hd1.rd.ext E) (by first | assumption | omega | (simp only [List.length_set];first | assumption | omega) | (simp only [List.getElem_set_self,List.length_set];first | assumption | omega) | (simp only [Xc,Yp,List.length_set];first | assumption | omega) | (simp;done))) Z (Qk Z Z (Qj Y6 Z ((RdS.getD (hd1.rd.ext E) (i:=1) (by first | assumption | omega | (simp only [List.length_set];first | assumption | omega) | (simp only [List.getElem_set_self,List.length_set];first | assumption | omega) | (simp only [Xc,Yp,List.length_set];first | assumption | omega) | (simp;done))).one 0 Z)) Z (Qk Z Z (Yq Z Z) Z (Qk Z Z (Qr Z Z) Z (Qa (Qq Z Z) Z (Ql ⟨Z,Z,Z,Z,Z,Z,Z,Z,congrArg (fun b=>some (Value.bool b)) (show ((List.getD x.outs 0 default) == (List.getD x.outs 1 default)) = ((!(Y0 (x.outs[k]'hi1) 0 7)) || ((decide (0 < ((k : Nat) : Int))) && ((List.getD x.outs 0 default) == (List.getD x.outs 1 default)))) by first | (rw [hg6,hg7] <;> rfl) | (simp [hg6,hg7];done) | (simp only [Qp] <;> simp)),trivial⟩ Z)))))))))))
      ·have hg7n : ¬ k > 0:=by first | (have h:=of_decide_eq_false hg7;omega) | (have h:=hg7;simp at h;omega)
       refine Qc Z Z Z Z (Qc Z Z Z Z (Qc Z Z Z Z (Qc Z Z Z Z (Qc Z Z Z Z (Qc Z Z Z Z (Qc Z Z Z Z (Qc Z Z Z Z (Qc Z Z Z Z (Qk Z Z (Qq Z Z) Z (Qa (Qq Z Z) Z (Ql ⟨Z,Z,Z,Z,Z,Z,Z,Z,congrArg (fun b=>some (Value.bool b)) (show false = ((!(Y0 (x.outs[k]'hi1) 0 7)) || ((decide (0 < ((k : Nat) : Int))) && ((List.getD x.outs 0 default) == (List.getD x.outs 1 default)))) by first | (rw [hg6,hg7] <;> rfl) | (simp [hg6,hg7];done) | (simp only [Qp] <;> simp)),trivial⟩ Z)))))))))))
    rintro _ rfl
    refine Qf (Qw Z (fun hc6=>?_) (fun hc6=>?_))
    ·refine Qh (Qi [true] Z Z (Qa (Qg Z) Z (Qf (Qx (Qz (Xb (Qz (Q0 Z Z E ?_))))))))
     exact node_d (by assumption) (node_p (p:=p0) (q:=q0) (by assumption) hpq).2
    ·refine Qy (Yb (Yv (Qi [true,true,true] Z Z (Qa (Qe Z) Z (Qa (Yw Z Z (Y7 hc5n (hd1.ext E).1.1)) Z (Qa (Qg Z) Z (Qf (Yb (Yy (k + 1) (by omega) ⟨Z,Z,Z,trivial⟩ ⟨E,(by omega),h1,(by omega),Ux hI (by assumption) (nodeL (by assumption)),nodeJ (by assumption)⟩)))))))))
   ·have hc5n : ¬ k < x.outs.length:=by first | (have h:=of_decide_eq_false hc5;omega) | (have h:=hc5;simp at h;omega)
    refine Xl (Ys (Yj ?_))
    refine Qh (Qi [true] Z Z (Qa (Qg Z) Z (Qf (Qx (Q0 Z Z E ?_)))))
    exact node_z (p:=p0) (q:=q0) (by assumption) hpq hI hJ (by omega)

set_option maxHeartbeats 4000000 in
set_option maxRecDepth 20000 in
theorem c_GraphOk (cg : List Value) (g : Graph) (w : World) (hg : Dat.R w 0 w.heap.size cg g) : Ct Tryz.prog 28 [.agg cg.toArray] w (fun v _=>v = .bool (Yf g)):=by
 refine Yx Tryz.func28 Z Tryz.ntmps28 Z ?_
 obtain ⟨o1,rfl,hd1⟩:=Graph.op hg
 refine Yh [(0,.agg [o1,.int .i64 g.workers,.int .i64 g.cap].toArray)] ⟨Z,trivial⟩ ?_
 have E : Ext w w:=Ext.refl w
 refine Qh (Qi [false,true] Z Z (Y5 Z Z (fun b1 w1 e1 s1 h1=>?_)))
 have g_b1 : w.heap.size ≤ b1:=by have:=E.size;omega
 have y_b1:=h1.lt
 replace E:=E.trans e1
 have z1:=e1.size
 refine Qa (Qg Z) Z (Qf (Qh (Qh (Qi [true,true,true,false,true,true,true,true,false,true,true,true,true,true,false,true,true] Z Z (Qa (Qd Kr Z) Z (Qa (Qj V0 Z (h1.one 0 Z)) Z (Qa (Yg Tryz.underlying24 Z (hd1.ext E).len) Z (Qv Tryz.call42 Z (c_within ((g.nodes.length : Nat) : Int) 1 8 _ ) Z (fun _ w2 e2 hv=>?_)))))))))
 subst hv
 replace E:=E.trans e2;replace h1:=h1.ext e2
 have z2:=e2.size
 refine Qa (Y1 Z) Z (Qa (Qe Z) Z (Xg 11 [(0,.agg [o1,.int .i64 g.workers,.int .i64 g.cap].toArray),(1,.pointer (some ⟨b1,0,none⟩)),(2,.bool false),(24,.bool (((!(Y0 ((g.nodes.length : Nat) : Int) 1 8)) || (!(Y0 g.workers 1 4))) || (!(Y0 g.cap 1 4))))] (fun w'=>Ext w w' ∧ w2.heap.size ≤ w'.heap.size ∧ Blk w' b1 ([o1,.int .i64 g.workers,.int .i64 g.cap])) ?_ ?_))
 ·refine Ym (gd:=13) Z Z (fun hg1=>?_) (fun hg1=>?_)
  ·refine Qc Z Z Z Z (Qc Z Z Z Z ?_)
   refine Q1 Z Z Z Z ?_
   refine Qc Z Z Z Z (Qa (Qr Z Z) Z (Qa (Qe Z) Z (Qc Z Z Z Z (Qc Z Z Z Z ?_))))
   refine Q1 Z Z Z Z ?_
   refine Qc Z Z Z Z (Qa (Qr Z Z) Z (Ql ⟨Z,Z,Z,congrArg (fun b=>some (Value.bool b)) (show true = (((!(Y0 ((g.nodes.length : Nat) : Int) 1 8)) || (!(Y0 g.workers 1 4))) || (!(Y0 g.cap 1 4))) by first | (rw [hg1] <;> rfl) | (simp [hg1];done) | (simp only [Qp] <;> simp)),trivial⟩ ⟨E,(by omega),h1⟩))
  ·refine Qk Z Z (Qd fl26_1 Z) Z (Qk Z Z (Qj Y6 Z (h1.one 1 Z)) Z ?_)
   refine Y3 Z Z ?_
   refine Qv Tryz.call42 Z (c_within g.workers 1 4 _ ) Z (fun _ w4 e3 hv=>?_)
   subst hv
   replace E:=E.trans e3;replace h1:=h1.ext e3
   have z3:=e3.size
   refine Qk Z Z (Y1 Z) Z (Qa (Qq Z Z) Z (Qa (Qe Z) Z ?_))
   refine Ym (gd:=19) Z Z (fun hg2=>?_) (fun hg2=>?_)
   ·refine Qc Z Z Z Z (Qc Z Z Z Z ?_)
    refine Q1 Z Z Z Z ?_
    refine Qc Z Z Z Z (Qa (Qr Z Z) Z (Ql ⟨Z,Z,Z,congrArg (fun b=>some (Value.bool b)) (show true = (((!(Y0 ((g.nodes.length : Nat) : Int) 1 8)) || (!(Y0 g.workers 1 4))) || (!(Y0 g.cap 1 4))) by first | (rw [hg1,hg2] <;> rfl) | (simp [hg1,hg2];done) | (simp only [Qp] <;> simp)),trivial⟩ ⟨E,(by omega),h1⟩))
   ·refine Qk Z Z (Qd fl26_2 Z) Z (Qk Z Z (Qj Y6 Z (h1.one 2 Z)) Z ?_)
    refine Y3 Z Z ?_
    refine Qv Tryz.call42 Z (c_within g.cap 1 4 _ ) Z (fun _ w5 e4 hv=>?_)
    subst hv
    replace E:=E.trans e4;replace h1:=h1.ext e4
    have z4:=e4.size
    refine Qk Z Z (Y1 Z) Z (Qa (Qq Z Z) Z (Ql ⟨Z,Z,Z,congrArg (fun b=>some (Value.bool b)) (show (!(Y0 g.cap 1 4)) = (((!(Y0 ((g.nodes.length : Nat) : Int) 1 8)) || (!(Y0 g.workers 1 4))) || (!(Y0 g.cap 1 4))) by first | (rw [hg1,hg2] <;> rfl) | (simp [hg1,hg2];done) | (simp only [Qp] <;> simp)),trivial⟩ ⟨E,(by omega),h1⟩))
 clear E h1
 rintro w3 ⟨E,z5,h1⟩
 refine Qf (Qw Z (fun hc1=>?_) (fun hc1=>?_))
 ·refine Qh (Qi [true] Z Z (Qa (Qg Z) Z (Qf (Qx (Q0 Z Z E ?_)))))
  exact graph_h (by assumption)
 ·refine Qy (Qh (Qh (Qi [true,true,true,true] Z Z (Qa (Qd Kr Z) Z (Qa (Qj V0 Z (h1.one 0 Z)) Z (Qa (Yg Tryz.underlying24 Z (hd1.ext E).len) Z (Qa (Qe Z) Z (Qf (Q9 (Xk (fun (i : Nat)=>[(1,.pointer (some ⟨b1,0,none⟩)),(2,.bool false),(26,o1),(27,.int .i64 ((g.nodes.length : Nat) : Int)),(28,.int .i64 ((i : Nat) : Int))]) (fun (i : Nat) w'=>Ext w w' ∧ w3.heap.size ≤ w'.heap.size ∧ Blk w' b1 ([o1,.int .i64 g.workers,.int .i64 g.cap]) ∧ i ≤ g.nodes.length ∧ (∀ j,j < i → Kf g j (List.getD g.nodes j default) = true)) (fun (i : Nat)=>g.nodes.length - i) 0 ⟨Z,Z,Z,Z,Z,trivial⟩ ⟨E,Nat.le_refl _,h1,Nat.zero_le _,(fun j hj=>by omega)⟩ ?_))))))))))
  clear E h1
  rintro i w6 ⟨E,z6,h1,hle,hp⟩
  refine Qh (Qi [true] Z Z (Qa (Xn Z Z) Z (Qf (Qh (Qw Z (fun hc2=>?_) (fun hc2=>?_))))))
  ·have hc2n : i < g.nodes.length:=by first | (have h:=of_decide_eq_true hc2;omega) | (have h:=hc2;simp at h;omega)
   refine Qy (Qh (Q9 (Qh (Qi [true,true,true,false,true,false] Z Z (Qa (Qe Z) Z ?_)))))
   have hi1 : i < g.nodes.length:=(by first | assumption | omega | (simp only [List.length_set];first | assumption | omega) | (simp only [List.getElem_set_self,List.length_set];first | assumption | omega) | (simp only [Xc,Yp,List.length_set];first | assumption | omega) | (simp;done))
   obtain ⟨_,hr1,ha1⟩:=RdD.get hd1 hi1
   obtain ⟨o2,rfl,hd2⟩:=Node.op hr1
   replace ha1 : At w (X8 o1) (Ko o1 + i * 4) [.int .i64 ((g.nodes[i]'hi1).kind),.int .i64 ((g.nodes[i]'hi1).a),.int .i64 ((g.nodes[i]'hi1).b),o2]:=ha1
   refine Qa (Ye (i:=i) Tb Z Z (hd1.ext E).1 hi1) Z (Qa (Qo Kn Z (ha1.ext E) Z) Z (Q6 Kn Z (fun b2 w7 e5 s2 h2=>?_)))
   have g_b2 : w.heap.size ≤ b2:=by have:=E.size;omega
   have y_b2:=h2.lt
   replace E:=E.trans e5;replace h1:=h1.ext e5
   have z7:=e5.size
   refine Qa (Qg Z) Z (Qs (cs':=[.int .i64 ((g.nodes[i]'hi1).kind),.int .i64 ((g.nodes[i]'hi1).a),.int .i64 ((g.nodes[i]'hi1).b),o2]) Kn Z Z Z (Qb Z (Qb Z (Qb Z (Qb (RdD.one (hd2.ext E)) Z)))) h2 (Nat.le_of_ble_eq_true Z) Z (fun w8 m1 h2'=>?_))
   replace h2:=h2'
   replace E:=E.step m1 (fun g hg=>by cases hg;omega);replace h1:=h1.mod m1 (fun g hg=>by cases hg;omega)
   have z8:=m1.size
   refine Qf (Qh (Qh (Qi [true,false,true,true,true,true,true,true,true,true,true] Z Z (Qa (Qo Kn Z h2.at Z) Z (Qv Tryz.call53 Z (c_NodeOk [.int .i64 ((g.nodes[i]'hi1).kind),.int .i64 ((g.nodes[i]'hi1).a),.int .i64 ((g.nodes[i]'hi1).b),o2] (g.nodes[i]'hi1) _ (Node.mkR (g.nodes[i]'hi1) (RdD.any (hd2.ext E)))) Z (fun _ w9 e6 hv=>?_))))))
   subst hv
   replace E:=E.trans e6;replace h1:=h1.ext e6;replace h2:=h2.ext e6
   have z9:=e6.size
   refine Qa (Y1 Z) Z (Qa (Qe Z) Z (Xg 7 [(1,.pointer (some ⟨b1,0,none⟩)),(2,.bool false),(3,.int .i64 ((i : Nat) : Int)),(4,.pointer (some ⟨b2,0,none⟩)),(26,o1),(27,.int .i64 ((g.nodes.length : Nat) : Int)),(28,.int .i64 ((i : Nat) : Int)),(29,.bool (decide (((i : Nat) : Int) < ((g.nodes.length : Nat) : Int)))),(30,.int .i64 ((i : Nat) : Int)),(31,.pointer (some ⟨X8 o1,Ko o1 + i * 4,none⟩)),(32,.agg [.int .i64 ((g.nodes[i]'hi1).kind),.int .i64 ((g.nodes[i]'hi1).a),.int .i64 ((g.nodes[i]'hi1).b),o2].toArray),(43,.bool ((!(Y9 (g.nodes[i]'hi1))) || (!((((g.nodes[i]'hi1).kind) == 1) == (((i : Nat) : Int) == 0)))))] (fun w'=>w9 = w') ?_ ?_))
   ·refine Ym (gd:=36) Z Z (fun hg3=>?_) (fun hg3=>?_)
    ·refine Qc Z Z Z Z (Qc Z Z Z Z (Qc Z Z Z Z (Qc Z Z Z Z (Qc Z Z Z Z (Qc Z Z Z Z (Qa (Qr Z Z) Z (Ql ⟨Z,Z,Z,Z,Z,Z,Z,Z,Z,Z,Z,congrArg (fun b=>some (Value.bool b)) (show true = ((!(Y9 (g.nodes[i]'hi1))) || (!((((g.nodes[i]'hi1).kind) == 1) == (((i : Nat) : Int) == 0)))) by first | (rw [hg3] <;> rfl) | (simp [hg3];done) | (simp only [Qp] <;> simp)),trivial⟩ Z)))))))
    ·refine Qk Z Z (Qd X7 Z) Z (Qk Z Z (Qj Y6 Z (h2.one 0 Z)) Z (Qk Z Z (Yq Z Z) Z (Qk Z Z (Qe Z) Z (Qk Z Z (Yq Z Z) Z (Qk Z Z (H3 (Tryz.underlying4) Z Z) Z (Qa (Qq Z Z) Z (Ql ⟨Z,Z,Z,Z,Z,Z,Z,Z,Z,Z,Z,congrArg (fun b=>some (Value.bool b)) (show (!((((g.nodes[i]'hi1).kind) == 1) == (((i : Nat) : Int) == 0))) = ((!(Y9 (g.nodes[i]'hi1))) || (!((((g.nodes[i]'hi1).kind) == 1) == (((i : Nat) : Int) == 0)))) by first | (rw [hg3] <;> rfl) | (simp [hg3];done) | (simp only [Qp] <;> simp)),trivial⟩ Z)))))))
   rintro _ rfl
   refine Qf (Qw Z (fun hc3=>?_) (fun hc3=>?_))
   ·refine Qh (Qi [true] Z Z (Qa (Qg Z) Z (Qf (Qx (Qz (Xb (Qz (Q0 Z Z E ?_))))))))
    exact graph_a (by assumption)
   ·refine Qy (Qh (Qi [true,true,true,true] Z Z (Qa (Qd Xz Z) Z (Qa (Qj Kg Z (h2.one 3 Z)) Z (Qa (Yg Tryz.underlying29 Z (hd2.ext E).len) Z (Qa (Qe Z) Z (Qf (Q9 (Xk (fun (k : Nat)=>[(1,.pointer (some ⟨b1,0,none⟩)),(2,.bool false),(3,.int .i64 ((i : Nat) : Int)),(4,.pointer (some ⟨b2,0,none⟩)),(26,o1),(27,.int .i64 ((g.nodes.length : Nat) : Int)),(28,.int .i64 ((i : Nat) : Int)),(45,o2),(46,.int .i64 ((((g.nodes[i]'hi1).outs).length : Nat) : Int)),(47,.int .i64 ((k : Nat) : Int))]) (fun (k : Nat) w'=>Ext w w' ∧ w9.heap.size ≤ w'.heap.size ∧ Blk w' b1 ([o1,.int .i64 g.workers,.int .i64 g.cap]) ∧ Blk w' b2 [.int .i64 ((g.nodes[i]'hi1).kind),.int .i64 ((g.nodes[i]'hi1).a),.int .i64 ((g.nodes[i]'hi1).b),o2] ∧ k ≤ (g.nodes[i]'hi1).outs.length ∧ ((g.nodes[i]'hi1).outs.take k).all (fun to=>!K9 g i (g.nodes[i]'hi1) to) = true) (fun (k : Nat)=>(g.nodes[i]'hi1).outs.length - k) 0 ⟨Z,Z,Z,Z,Z,Z,Z,Z,Z,Z,trivial⟩ ⟨E,Nat.le_refl _,h1,h2,Nat.zero_le _,Z⟩ ?_)))))))))
    clear E h1 h2
    rintro k w11 ⟨E,z10,h1,h2,hk,hI⟩
    refine Qh (Qi [true] Z Z (Qa (Xn Z Z) Z (Qf (Qh (Qw Z (fun hc4=>?_) (fun hc4=>?_))))))
    ·have hc4n : k < ((g.nodes[i]'hi1).outs).length:=by first | (have h:=of_decide_eq_true hc4;omega) | (have h:=hc4;simp at h;omega)
     refine Qy (Qh (Q9 (Qh (Qi [true,true,true] Z Z ?_))))
     have hi2 : k < ((g.nodes[i]'hi1).outs).length:=(by first | assumption | omega | (simp only [List.length_set];first | assumption | omega) | (simp only [List.getElem_set_self,List.length_set];first | assumption | omega) | (simp only [Xc,Yp,List.length_set];first | assumption | omega) | (simp;done))
     refine Qa (Ye (i:=k) Ke Z Z (hd2.rd.ext E) hi2) Z (Qa (Qj Y6 Z (((hd2.rd.ext E).get hi2).one 0 Z)) Z (Qa (Qg Z) Z (Qf (Qh (Qh (Qi [true,true,true,true,true] Z Z (Qa (Qe Z) Z (Qa (Qd Kr Z) Z (Qa (Qj V0 Z (h1.one 0 Z)) Z (Qa (Yg Tryz.underlying24 Z (hd1.ext E).len) Z (Qa (Hf Z Z) Z (Qf (Qw Z (fun hc5=>?_) (fun hc5=>?_))))))))))))))
     ·refine Qh (Qi [true] Z Z (Qa (Qg Z) Z (Qf (Qx (Qz (Xb (Qz (Qz (Xb (Qz (Q0 Z Z E ?_)))))))))))
      exact Cj (edge_a (by assumption))
     ·have hto:=C1 (h1:=hi1) (h2:=hi2) (by assumption)
      have htl:=Int.not_le.1 (of_decide_eq_false hc5)
      refine Qy (Qh (Qi [true,true,true,true,true,true,true] Z Z (Qa (Qd Kr Z) Z (Qa (Qj V0 Z (h1.one 0 Z)) Z (Qa (Qe Z) Z ?_)))))
      have hi3 : (Int.toNat (((g.nodes[i]'hi1).outs)[k]'hi2)) < g.nodes.length:=(by first | assumption | omega | (simp only [List.length_set];first | assumption | omega) | (simp only [List.getElem_set_self,List.length_set];first | assumption | omega) | (simp only [Xc,Yp,List.length_set];first | assumption | omega) | (simp;done))
      obtain ⟨_,hr2,ha2⟩:=RdD.get hd1 hi3
      obtain ⟨o3,rfl,hd3⟩:=Node.op hr2
      replace ha2 : At w (X8 o1) (Ko o1 + (Int.toNat (((g.nodes[i]'hi1).outs)[k]'hi2)) * 4) [.int .i64 ((g.nodes[(Int.toNat (((g.nodes[i]'hi1).outs)[k]'hi2))]'hi3).kind),.int .i64 ((g.nodes[(Int.toNat (((g.nodes[i]'hi1).outs)[k]'hi2))]'hi3).a),.int .i64 ((g.nodes[(Int.toNat (((g.nodes[i]'hi1).outs)[k]'hi2))]'hi3).b),o3]:=ha2
      refine Qa (Ki (i:=(Int.toNat (((g.nodes[i]'hi1).outs)[k]'hi2))) Tb Z Z (hd1.ext E).1 (by omega) hi3) Z (Qa (Yt X7 Z) Z (Qa (Qj Y6 Z ((ha2.ext E).one 0 Z)) Z (Qa (Qg Z) Z (Qf (Qh (Qi [true,true,true,true,true,true,true,true,true,true,true,true,true,true,true,true,true,true,true,true,true,true,true,true,true,true] Z Z (Qa (Qd X7 Z) Z (Qa (Qj Y6 Z (h2.one 0 Z)) Z (Qa (Yq Z Z) Z (Qa (Qe Z) Z (Xg 22 [(1,.pointer (some ⟨b1,0,none⟩)),(2,.bool false),(3,.int .i64 ((i : Nat) : Int)),(4,.pointer (some ⟨b2,0,none⟩)),(6,.int .i64 (((g.nodes[i]'hi1).outs)[k]'hi2)),(7,.int .i64 ((g.nodes[(Int.toNat (((g.nodes[i]'hi1).outs)[k]'hi2))]'hi3).kind)),(26,o1),(27,.int .i64 ((g.nodes.length : Nat) : Int)),(28,.int .i64 ((i : Nat) : Int)),(45,o2),(46,.int .i64 ((((g.nodes[i]'hi1).outs).length : Nat) : Int)),(47,.int .i64 ((k : Nat) : Int)),(48,.bool (decide (((k : Nat) : Int) < ((((g.nodes[i]'hi1).outs).length : Nat) : Int)))),(49,.pointer (some ⟨X8 o2,Ko o2 + k * 1,none⟩)),(50,.int .i64 (((g.nodes[i]'hi1).outs)[k]'hi2)),(51,.int .i64 (((g.nodes[i]'hi1).outs)[k]'hi2)),(52,.pointer (some ⟨b1,0,none⟩)),(53,o1),(54,.int .i64 ((g.nodes.length : Nat) : Int)),(55,.bool (decide (((g.nodes.length : Nat) : Int) ≤ (((g.nodes[i]'hi1).outs)[k]'hi2)))),(56,.pointer (some ⟨b1,0,none⟩)),(57,o1),(58,.int .i64 (((g.nodes[i]'hi1).outs)[k]'hi2)),(59,.pointer (some ⟨X8 o1,Ko o1 + (Int.toNat (((g.nodes[i]'hi1).outs)[k]'hi2)) * 4,none⟩)),(60,.pointer (some ⟨(X8 o1),Ko o1 + (Int.toNat (((g.nodes[i]'hi1).outs)[k]'hi2)) * 4 + 0,none⟩)),(61,.int .i64 ((g.nodes[(Int.toNat (((g.nodes[i]'hi1).outs)[k]'hi2))]'hi3).kind)),(87,.bool (((((g.nodes[i]'hi1).kind) == 7) && ((decide (((i : Nat) : Int) < (((g.nodes[i]'hi1).outs)[k]'hi2))) || ((((g.nodes[(Int.toNat (((g.nodes[i]'hi1).outs)[k]'hi2))]'hi3).kind) != 5) && (((g.nodes[(Int.toNat (((g.nodes[i]'hi1).outs)[k]'hi2))]'hi3).kind) != 6)))) || ((((g.nodes[i]'hi1).kind) != 7) && (decide ((((g.nodes[i]'hi1).outs)[k]'hi2) ≤ ((i : Nat) : Int))))))] (fun w'=>w11 = w') ?_ ?_)))))))))))
      ·refine Ym (gd:=65) Z Z (fun hg4=>?_) (fun hg4=>?_)
       ·refine Qk Z Z (Qe Z) Z (Qk Z Z (Qe Z) Z (Qk Z Z (Un Z Z) Z (Qk Z Z (Qe Z) Z ?_)))
        refine Ym (gd:=69) Z Z (fun hg5=>?_) (fun hg5=>?_)
        ·refine Qc Z Z Z Z (Qc Z Z Z Z (Qc Z Z Z Z (Q3 Z Z Z (Q3 Z Z Z (Qc Z Z Z Z (Qk Z Z (Qr Z Z) Z (Qa (Qr Z Z) Z (Qa (Qe Z) Z (Qc Z Z Z Z (Qc Z Z Z Z (Qc Z Z Z Z (Qc Z Z Z Z (Q3 Z Z Z (Q3 Z Z Z (Q3 Z Z Z (Qc Z Z Z Z (Qa (Qr Z Z) Z (Ql ⟨Z,Z,Z,Z,Z,Z,Z,Z,Z,Z,Z,Z,Z,Z,Z,Z,Z,Z,Z,Z,Z,Z,Z,Z,Z,Z,congrArg (fun b=>some (Value.bool b)) (show true = (((((g.nodes[i]'hi1).kind) == 7) && ((decide (((i : Nat) : Int) < (((g.nodes[i]'hi1).outs)[k]'hi2))) || ((((g.nodes[(Int.toNat (((g.nodes[i]'hi1).outs)[k]'hi2))]'hi3).kind) != 5) && (((g.nodes[(Int.toNat (((g.nodes[i]'hi1).outs)[k]'hi2))]'hi3).kind) != 6)))) || ((((g.nodes[i]'hi1).kind) != 7) && (decide ((((g.nodes[i]'hi1).outs)[k]'hi2) ≤ ((i : Nat) : Int))))) by first | (rw [hg4,hg5] <;> rfl) | (simp [hg4,hg5];done) | (simp only [Qp] <;> simp)),trivial⟩ Z))))))))))))))))))
        ·refine Qk Z Z (Qe Z) Z (Qk Z Z (Xs Z Z) Z (Qk Z Z (Qe Z) Z ?_))
         refine Ym (gd:=72) Z Z (fun hg6=>?_) (fun hg6=>?_)
         ·refine Qk Z Z (Qe Z) Z (Qk Z Z (Xs Z Z) Z (Qk Z Z (Qr Z Z) Z (Qk Z Z (Qq Z Z) Z (Qa (Qr Z Z) Z (Qa (Qe Z) Z ?_)))))
          refine Ym (gd:=78) Z Z (fun hg7=>?_) (fun hg7=>?_)
          ·refine Qc Z Z Z Z (Qc Z Z Z Z (Qc Z Z Z Z (Qc Z Z Z Z (Q3 Z Z Z (Q3 Z Z Z (Q3 Z Z Z (Qc Z Z Z Z (Qa (Qr Z Z) Z (Ql ⟨Z,Z,Z,Z,Z,Z,Z,Z,Z,Z,Z,Z,Z,Z,Z,Z,Z,Z,Z,Z,Z,Z,Z,Z,Z,Z,congrArg (fun b=>some (Value.bool b)) (show true = (((((g.nodes[i]'hi1).kind) == 7) && ((decide (((i : Nat) : Int) < (((g.nodes[i]'hi1).outs)[k]'hi2))) || ((((g.nodes[(Int.toNat (((g.nodes[i]'hi1).outs)[k]'hi2))]'hi3).kind) != 5) && (((g.nodes[(Int.toNat (((g.nodes[i]'hi1).outs)[k]'hi2))]'hi3).kind) != 6)))) || ((((g.nodes[i]'hi1).kind) != 7) && (decide ((((g.nodes[i]'hi1).outs)[k]'hi2) ≤ ((i : Nat) : Int))))) by first | (rw [hg4,hg5,hg6,hg7] <;> rfl) | (simp [hg4,hg5,hg6,hg7];done) | (simp only [Qp] <;> simp)),trivial⟩ Z)))))))))
          ·refine Qk Z Z (Qd X7 Z) Z (Qk Z Z (Qj Y6 Z (h2.one 0 Z)) Z (Qk Z Z (Xs Z Z) Z (Qk Z Z (Qe Z) Z ?_)))
           refine Ym (gd:=82) Z Z (fun hg8=>?_) (fun hg8=>?_)
           ·refine Qk Z Z (Qe Z) Z (Qk Z Z (Qe Z) Z (Qk Z Z (He Z Z) Z (Qk Z Z (Qr Z Z) Z (Qa (Qq Z Z) Z (Ql ⟨Z,Z,Z,Z,Z,Z,Z,Z,Z,Z,Z,Z,Z,Z,Z,Z,Z,Z,Z,Z,Z,Z,Z,Z,Z,Z,congrArg (fun b=>some (Value.bool b)) (show (decide ((((g.nodes[i]'hi1).outs)[k]'hi2) ≤ ((i : Nat) : Int))) = (((((g.nodes[i]'hi1).kind) == 7) && ((decide (((i : Nat) : Int) < (((g.nodes[i]'hi1).outs)[k]'hi2))) || ((((g.nodes[(Int.toNat (((g.nodes[i]'hi1).outs)[k]'hi2))]'hi3).kind) != 5) && (((g.nodes[(Int.toNat (((g.nodes[i]'hi1).outs)[k]'hi2))]'hi3).kind) != 6)))) || ((((g.nodes[i]'hi1).kind) != 7) && (decide ((((g.nodes[i]'hi1).outs)[k]'hi2) ≤ ((i : Nat) : Int))))) by first | (rw [hg4,hg5,hg6,hg7,hg8] <;> rfl) | (simp [hg4,hg5,hg6,hg7,hg8];done) | (simp only [Qp] <;> simp)),trivial⟩ Z)))))
           ·refine Qc Z Z Z Z (Qc Z Z Z Z (Qc Z Z Z Z (Qk Z Z (Qq Z Z) Z (Qa (Qq Z Z) Z (Ql ⟨Z,Z,Z,Z,Z,Z,Z,Z,Z,Z,Z,Z,Z,Z,Z,Z,Z,Z,Z,Z,Z,Z,Z,Z,Z,Z,congrArg (fun b=>some (Value.bool b)) (show false = (((((g.nodes[i]'hi1).kind) == 7) && ((decide (((i : Nat) : Int) < (((g.nodes[i]'hi1).outs)[k]'hi2))) || ((((g.nodes[(Int.toNat (((g.nodes[i]'hi1).outs)[k]'hi2))]'hi3).kind) != 5) && (((g.nodes[(Int.toNat (((g.nodes[i]'hi1).outs)[k]'hi2))]'hi3).kind) != 6)))) || ((((g.nodes[i]'hi1).kind) != 7) && (decide ((((g.nodes[i]'hi1).outs)[k]'hi2) ≤ ((i : Nat) : Int))))) by first | (rw [hg4,hg5,hg6,hg7,hg8] <;> rfl) | (simp [hg4,hg5,hg6,hg7,hg8];done) | (simp only [Qp] <;> simp)),trivial⟩ Z)))))
         ·refine Qc Z Z Z Z (Qc Z Z Z Z (Qk Z Z (Qq Z Z) Z (Qk Z Z (Qq Z Z) Z (Qa (Qr Z Z) Z (Qa (Qe Z) Z (Qk Z Z (Qd X7 Z) Z (Qk Z Z (Qj Y6 Z (h2.one 0 Z)) Z (Qk Z Z (Xs Z Z) Z (Qk Z Z (Qe Z) Z ?_)))))))))
          refine Ym (gd:=82) Z Z (fun hg9=>?_) (fun hg9=>?_)
          ·refine Qk Z Z (Qe Z) Z (Qk Z Z (Qe Z) Z (Qk Z Z (He Z Z) Z (Qk Z Z (Qr Z Z) Z (Qa (Qq Z Z) Z (Ql ⟨Z,Z,Z,Z,Z,Z,Z,Z,Z,Z,Z,Z,Z,Z,Z,Z,Z,Z,Z,Z,Z,Z,Z,Z,Z,Z,congrArg (fun b=>some (Value.bool b)) (show (decide ((((g.nodes[i]'hi1).outs)[k]'hi2) ≤ ((i : Nat) : Int))) = (((((g.nodes[i]'hi1).kind) == 7) && ((decide (((i : Nat) : Int) < (((g.nodes[i]'hi1).outs)[k]'hi2))) || ((((g.nodes[(Int.toNat (((g.nodes[i]'hi1).outs)[k]'hi2))]'hi3).kind) != 5) && (((g.nodes[(Int.toNat (((g.nodes[i]'hi1).outs)[k]'hi2))]'hi3).kind) != 6)))) || ((((g.nodes[i]'hi1).kind) != 7) && (decide ((((g.nodes[i]'hi1).outs)[k]'hi2) ≤ ((i : Nat) : Int))))) by first | (rw [hg4,hg5,hg6,hg9] <;> rfl) | (simp [hg4,hg5,hg6,hg9];done) | (simp only [Qp] <;> simp)),trivial⟩ Z)))))
          ·refine Qc Z Z Z Z (Qc Z Z Z Z (Qc Z Z Z Z (Qk Z Z (Qq Z Z) Z (Qa (Qq Z Z) Z (Ql ⟨Z,Z,Z,Z,Z,Z,Z,Z,Z,Z,Z,Z,Z,Z,Z,Z,Z,Z,Z,Z,Z,Z,Z,Z,Z,Z,congrArg (fun b=>some (Value.bool b)) (show false = (((((g.nodes[i]'hi1).kind) == 7) && ((decide (((i : Nat) : Int) < (((g.nodes[i]'hi1).outs)[k]'hi2))) || ((((g.nodes[(Int.toNat (((g.nodes[i]'hi1).outs)[k]'hi2))]'hi3).kind) != 5) && (((g.nodes[(Int.toNat (((g.nodes[i]'hi1).outs)[k]'hi2))]'hi3).kind) != 6)))) || ((((g.nodes[i]'hi1).kind) != 7) && (decide ((((g.nodes[i]'hi1).outs)[k]'hi2) ≤ ((i : Nat) : Int))))) by first | (rw [hg4,hg5,hg6,hg9] <;> rfl) | (simp [hg4,hg5,hg6,hg9];done) | (simp only [Qp] <;> simp)),trivial⟩ Z)))))
       ·refine Qc Z Z Z Z (Qc Z Z Z Z (Qc Z Z Z Z (Qc Z Z Z Z (Q3 Z Z Z (Q3 Z Z Z (Q3 Z Z Z (Q3 Z Z Z (Q3 Z Z Z (Q3 Z Z Z (Qc Z Z Z Z (Qa (Qq Z Z) Z (Qa (Qe Z) Z (Qk Z Z (Qd X7 Z) Z (Qk Z Z (Qj Y6 Z (h2.one 0 Z)) Z (Qk Z Z (Xs Z Z) Z (Qk Z Z (Qe Z) Z ?_))))))))))))))))
        refine Ym (gd:=82) Z Z (fun hg10=>?_) (fun hg10=>?_)
        ·refine Qk Z Z (Qe Z) Z (Qk Z Z (Qe Z) Z (Qk Z Z (He Z Z) Z (Qk Z Z (Qr Z Z) Z (Qa (Qq Z Z) Z (Ql ⟨Z,Z,Z,Z,Z,Z,Z,Z,Z,Z,Z,Z,Z,Z,Z,Z,Z,Z,Z,Z,Z,Z,Z,Z,Z,Z,congrArg (fun b=>some (Value.bool b)) (show (decide ((((g.nodes[i]'hi1).outs)[k]'hi2) ≤ ((i : Nat) : Int))) = (((((g.nodes[i]'hi1).kind) == 7) && ((decide (((i : Nat) : Int) < (((g.nodes[i]'hi1).outs)[k]'hi2))) || ((((g.nodes[(Int.toNat (((g.nodes[i]'hi1).outs)[k]'hi2))]'hi3).kind) != 5) && (((g.nodes[(Int.toNat (((g.nodes[i]'hi1).outs)[k]'hi2))]'hi3).kind) != 6)))) || ((((g.nodes[i]'hi1).kind) != 7) && (decide ((((g.nodes[i]'hi1).outs)[k]'hi2) ≤ ((i : Nat) : Int))))) by first | (rw [hg4,hg10] <;> rfl) | (simp [hg4,hg10];done) | (simp only [Qp] <;> simp)),trivial⟩ Z)))))
        ·refine Qc Z Z Z Z (Qc Z Z Z Z (Qc Z Z Z Z (Qk Z Z (Qq Z Z) Z (Qa (Qq Z Z) Z (Ql ⟨Z,Z,Z,Z,Z,Z,Z,Z,Z,Z,Z,Z,Z,Z,Z,Z,Z,Z,Z,Z,Z,Z,Z,Z,Z,Z,congrArg (fun b=>some (Value.bool b)) (show false = (((((g.nodes[i]'hi1).kind) == 7) && ((decide (((i : Nat) : Int) < (((g.nodes[i]'hi1).outs)[k]'hi2))) || ((((g.nodes[(Int.toNat (((g.nodes[i]'hi1).outs)[k]'hi2))]'hi3).kind) != 5) && (((g.nodes[(Int.toNat (((g.nodes[i]'hi1).outs)[k]'hi2))]'hi3).kind) != 6)))) || ((((g.nodes[i]'hi1).kind) != 7) && (decide ((((g.nodes[i]'hi1).outs)[k]'hi2) ≤ ((i : Nat) : Int))))) by first | (rw [hg4,hg10] <;> rfl) | (simp [hg4,hg10];done) | (simp only [Qp] <;> simp)),trivial⟩ Z)))))
      rintro _ rfl
      refine Qf (Qw Z (fun hc6=>?_) (fun hc6=>?_))
      ·refine Qh (Qi [true] Z Z (Qa (Qg Z) Z (Qf (Qx (Qz (Xb (Qz (Qz (Xb (Qz (Q0 Z Z E ?_)))))))))))
       exact Cj (edge_b (congrArg Node.kind (Ka _)).symm (by assumption))
      ·refine Qy (Yb (Yv (Qi [true,true] Z Z (Qa (Yw Z Z (Y7 hc4n (hd2.ext E).1.1)) Z (Qa (Qe Z) Z (Qf (Yb (Yy (k + 1) (by omega) ⟨Z,Z,Z,Z,Z,Z,Z,Z,Z,Z,trivial⟩ ⟨E,(by omega),h1,h2,(by omega),Ux hI (by assumption) (edge_n (congrArg Node.kind (Ka _)).symm (by assumption) (by assumption))⟩))))))))
    ·have hc4n : ¬ k < ((g.nodes[i]'hi1).outs).length:=by first | (have h:=of_decide_eq_false hc4;omega) | (have h:=hc4;simp at h;omega)
     refine Xl (Ys (Yj ?_))
     refine Yb (Yv (Qi [true,true] Z Z (Qa (Yw Z Z (Y7 hc2n (hd1.ext E).1.1)) Z (Qa (Qe Z) Z (Qf (Yb (Yy (i + 1) (by omega) ⟨Z,Z,Z,Z,Z,trivial⟩ ⟨E,(by omega),h1,(by omega),graph_s (h1:=hi1) (by assumption) hI (by omega) hp⟩)))))))
  ·have hc2n : ¬ i < g.nodes.length:=by first | (have h:=of_decide_eq_false hc2;omega) | (have h:=hc2;simp at h;omega)
   refine Xl (Ys (Yj ?_))
   refine Qh (Qi [true] Z Z (Qa (Qg Z) Z (Qf (Qx (Q0 Z Z E ?_)))))
   exact graph_y (by assumption) hp (by omega)

set_option maxHeartbeats 4000000 in
set_option maxRecDepth 20000 in
theorem s_GraphOk (cg : List Value) (g : Graph) (w : World) (hg : Dat.R w 0 w.heap.size cg g) : Ct Tryz.prog 33 [.agg cg.toArray] w (fun v _=>v = .bool (Yf g)):=by
 refine Yx Tryz.func33 Z Tryz.ntmps33 Z ?_
 obtain ⟨o1,rfl,hd1⟩:=Graph.op hg
 refine Yh [(0,.agg [o1,.int .i64 g.workers,.int .i64 g.cap].toArray)] ⟨Z,trivial⟩ ?_
 have E : Ext w w:=Ext.refl w
 refine Qh (Qi [false,true] Z Z (Y5 Z Z (fun b1 w1 e1 s1 h1=>?_)))
 have g_b1 : w.heap.size ≤ b1:=by have:=E.size;omega
 have y_b1:=h1.lt
 replace E:=E.trans e1
 have z1:=e1.size
 refine Qa (Qg Z) Z (Qf (Qh (Qh (Qi [true,true,true,false,true,true,true,true,false,true,true,true,true,true,false,true,true] Z Z (Qa (Qd Kr Z) Z (Qa (Qj V0 Z (h1.one 0 Z)) Z (Qa (Yg Tryz.underlying24 Z (hd1.ext E).len) Z (Qv Tryz.call45 Z (s_l01In ((g.nodes.length : Nat) : Int) 1 8 _ ) Z (fun _ w2 e2 hv=>?_)))))))))
 subst hv
 replace E:=E.trans e2;replace h1:=h1.ext e2
 have z2:=e2.size
 refine Qa (Y1 Z) Z (Qa (Qe Z) Z (Xg 11 [(0,.agg [o1,.int .i64 g.workers,.int .i64 g.cap].toArray),(1,.pointer (some ⟨b1,0,none⟩)),(2,.bool false),(24,.bool (((!(Y0 ((g.nodes.length : Nat) : Int) 1 8)) || (!(Y0 g.workers 1 4))) || (!(Y0 g.cap 1 4))))] (fun w'=>Ext w w' ∧ w2.heap.size ≤ w'.heap.size ∧ Blk w' b1 ([o1,.int .i64 g.workers,.int .i64 g.cap])) ?_ ?_))
 ·refine Ym (gd:=13) Z Z (fun hg1=>?_) (fun hg1=>?_)
  ·refine Qc Z Z Z Z (Qc Z Z Z Z ?_)
   refine Q1 Z Z Z Z ?_
   refine Qc Z Z Z Z (Qa (Qr Z Z) Z (Qa (Qe Z) Z (Qc Z Z Z Z (Qc Z Z Z Z ?_))))
   refine Q1 Z Z Z Z ?_
   refine Qc Z Z Z Z (Qa (Qr Z Z) Z (Ql ⟨Z,Z,Z,congrArg (fun b=>some (Value.bool b)) (show true = (((!(Y0 ((g.nodes.length : Nat) : Int) 1 8)) || (!(Y0 g.workers 1 4))) || (!(Y0 g.cap 1 4))) by first | (rw [hg1] <;> rfl) | (simp [hg1];done) | (simp only [Qp] <;> simp)),trivial⟩ ⟨E,(by omega),h1⟩))
  ·refine Qk Z Z (Qd fl26_1 Z) Z (Qk Z Z (Qj Y6 Z (h1.one 1 Z)) Z ?_)
   refine Y3 Z Z ?_
   refine Qv Tryz.call45 Z (s_l01In g.workers 1 4 _ ) Z (fun _ w4 e3 hv=>?_)
   subst hv
   replace E:=E.trans e3;replace h1:=h1.ext e3
   have z3:=e3.size
   refine Qk Z Z (Y1 Z) Z (Qa (Qq Z Z) Z (Qa (Qe Z) Z ?_))
   refine Ym (gd:=19) Z Z (fun hg2=>?_) (fun hg2=>?_)
   ·refine Qc Z Z Z Z (Qc Z Z Z Z ?_)
    refine Q1 Z Z Z Z ?_
    refine Qc Z Z Z Z (Qa (Qr Z Z) Z (Ql ⟨Z,Z,Z,congrArg (fun b=>some (Value.bool b)) (show true = (((!(Y0 ((g.nodes.length : Nat) : Int) 1 8)) || (!(Y0 g.workers 1 4))) || (!(Y0 g.cap 1 4))) by first | (rw [hg1,hg2] <;> rfl) | (simp [hg1,hg2];done) | (simp only [Qp] <;> simp)),trivial⟩ ⟨E,(by omega),h1⟩))
   ·refine Qk Z Z (Qd fl26_2 Z) Z (Qk Z Z (Qj Y6 Z (h1.one 2 Z)) Z ?_)
    refine Y3 Z Z ?_
    refine Qv Tryz.call45 Z (s_l01In g.cap 1 4 _ ) Z (fun _ w5 e4 hv=>?_)
    subst hv
    replace E:=E.trans e4;replace h1:=h1.ext e4
    have z4:=e4.size
    refine Qk Z Z (Y1 Z) Z (Qa (Qq Z Z) Z (Ql ⟨Z,Z,Z,congrArg (fun b=>some (Value.bool b)) (show (!(Y0 g.cap 1 4)) = (((!(Y0 ((g.nodes.length : Nat) : Int) 1 8)) || (!(Y0 g.workers 1 4))) || (!(Y0 g.cap 1 4))) by first | (rw [hg1,hg2] <;> rfl) | (simp [hg1,hg2];done) | (simp only [Qp] <;> simp)),trivial⟩ ⟨E,(by omega),h1⟩))
 clear E h1
 rintro w3 ⟨E,z5,h1⟩
 refine Qf (Qw Z (fun hc1=>?_) (fun hc1=>?_))
 ·refine Qh (Qi [true] Z Z (Qa (Qg Z) Z (Qf (Qx (Q0 Z Z E ?_)))))
  exact graph_h (by assumption)
 ·refine Qy (Qh (Qh (Qi [true] Z Z (Qa (Qg Z) Z (Qf (Q9 (Xk (fun (i : Nat)=>[(1,.pointer (some ⟨b1,0,none⟩)),(2,.bool false),(3,.int .i64 ((i : Nat) : Int))]) (fun (i : Nat) w'=>Ext w w' ∧ w3.heap.size ≤ w'.heap.size ∧ Blk w' b1 ([o1,.int .i64 g.workers,.int .i64 g.cap]) ∧ i ≤ g.nodes.length ∧ (∀ j,j < i → Kf g j (List.getD g.nodes j default) = true)) (fun (i : Nat)=>g.nodes.length - i) 0 ⟨Z,Z,Z,trivial⟩ ⟨E,Nat.le_refl _,h1,Nat.zero_le _,(fun j hj=>by omega)⟩ ?_)))))))
  clear E h1
  rintro i w6 ⟨E,z6,h1,hle,hp⟩
  refine Qh (Qh (Qi [true,true,true,true,true] Z Z (Qa (Qe Z) Z (Qa (Qd Kr Z) Z (Qa (Qj V0 Z (h1.one 0 Z)) Z (Qa (Yg Tryz.underlying24 Z (hd1.ext E).len) Z (Qa (Xn Z Z) Z (Qf (Qw Z (fun hc2=>?_) (fun hc2=>?_))))))))))
  ·have hc2n : i < g.nodes.length:=by first | (have h:=of_decide_eq_true hc2;omega) | (have h:=hc2;simp at h;omega)
   refine Qy (Qh (Q9 (Qh (Qi [true,true,true,true,true,false,false] Z Z (Qa (Qd Kr Z) Z (Qa (Qj V0 Z (h1.one 0 Z)) Z (Qa (Qe Z) Z ?_)))))))
   have hi1 : i < g.nodes.length:=(by first | assumption | omega | (simp only [List.length_set];first | assumption | omega) | (simp only [List.getElem_set_self,List.length_set];first | assumption | omega) | (simp only [Xc,Yp,List.length_set];first | assumption | omega) | (simp;done))
   obtain ⟨_,hr1,ha1⟩:=RdD.get hd1 hi1
   obtain ⟨o2,rfl,hd2⟩:=Node.op hr1
   replace ha1 : At w (X8 o1) (Ko o1 + i * 4) [.int .i64 ((g.nodes[i]'hi1).kind),.int .i64 ((g.nodes[i]'hi1).a),.int .i64 ((g.nodes[i]'hi1).b),o2]:=ha1
   refine Qa (Ye (i:=i) Tb Z Z (hd1.ext E).1 hi1) Z (Qa (Qo Kn Z (ha1.ext E) Z) Z (Q6 Kn Z (fun b2 w7 e5 s2 h2=>?_)))
   have g_b2 : w.heap.size ≤ b2:=by have:=E.size;omega
   have y_b2:=h2.lt
   replace E:=E.trans e5;replace h1:=h1.ext e5
   have z7:=e5.size
   refine Qs (cs':=[.int .i64 ((g.nodes[i]'hi1).kind),.int .i64 ((g.nodes[i]'hi1).a),.int .i64 ((g.nodes[i]'hi1).b),o2]) Kn Z Z Z (Qb Z (Qb Z (Qb Z (Qb (RdD.one (hd2.ext E)) Z)))) h2 (Nat.le_of_ble_eq_true Z) Z (fun w8 m1 h2'=>?_)
   replace h2:=h2'
   replace E:=E.step m1 (fun g hg=>by cases hg;omega);replace h1:=h1.mod m1 (fun g hg=>by cases hg;omega)
   have z8:=m1.size
   refine Qf (Qh (Qh (Qi [true,false,true,true,true,true,true,true,true,true,true] Z Z (Qa (Qo Kn Z h2.at Z) Z (Qv Tryz.call62 Z (s_NodeOk [.int .i64 ((g.nodes[i]'hi1).kind),.int .i64 ((g.nodes[i]'hi1).a),.int .i64 ((g.nodes[i]'hi1).b),o2] (g.nodes[i]'hi1) _ (Node.mkR (g.nodes[i]'hi1) (RdD.any (hd2.ext E)))) Z (fun _ w9 e6 hv=>?_))))))
   subst hv
   replace E:=E.trans e6;replace h1:=h1.ext e6;replace h2:=h2.ext e6
   have z9:=e6.size
   refine Qa (Y1 Z) Z (Qa (Qe Z) Z (Xg 7 [(1,.pointer (some ⟨b1,0,none⟩)),(2,.bool false),(3,.int .i64 ((i : Nat) : Int)),(4,.pointer (some ⟨b2,0,none⟩)),(25,.int .i64 ((i : Nat) : Int)),(26,.pointer (some ⟨b1,0,none⟩)),(27,o1),(28,.int .i64 ((g.nodes.length : Nat) : Int)),(29,.bool (decide (((i : Nat) : Int) < ((g.nodes.length : Nat) : Int)))),(32,.pointer (some ⟨b1,0,none⟩)),(33,o1),(34,.int .i64 ((i : Nat) : Int)),(35,.pointer (some ⟨X8 o1,Ko o1 + i * 4,none⟩)),(36,.agg [.int .i64 ((g.nodes[i]'hi1).kind),.int .i64 ((g.nodes[i]'hi1).a),.int .i64 ((g.nodes[i]'hi1).b),o2].toArray),(47,.bool ((!(Y9 (g.nodes[i]'hi1))) || (!((((g.nodes[i]'hi1).kind) == 1) == (((i : Nat) : Int) == 0)))))] (fun w'=>w9 = w') ?_ ?_))
   ·refine Ym (gd:=40) Z Z (fun hg3=>?_) (fun hg3=>?_)
    ·refine Qc Z Z Z Z (Qc Z Z Z Z (Qc Z Z Z Z (Qc Z Z Z Z (Qc Z Z Z Z (Qc Z Z Z Z (Qa (Qr Z Z) Z (Ql ⟨Z,Z,Z,Z,Z,Z,Z,Z,Z,Z,Z,Z,Z,Z,congrArg (fun b=>some (Value.bool b)) (show true = ((!(Y9 (g.nodes[i]'hi1))) || (!((((g.nodes[i]'hi1).kind) == 1) == (((i : Nat) : Int) == 0)))) by first | (rw [hg3] <;> rfl) | (simp [hg3];done) | (simp only [Qp] <;> simp)),trivial⟩ Z)))))))
    ·refine Qk Z Z (Qd X7 Z) Z (Qk Z Z (Qj Y6 Z (h2.one 0 Z)) Z (Qk Z Z (Yq Z Z) Z (Qk Z Z (Qe Z) Z (Qk Z Z (Yq Z Z) Z (Qk Z Z (H3 (Tryz.underlying4) Z Z) Z (Qa (Qq Z Z) Z (Ql ⟨Z,Z,Z,Z,Z,Z,Z,Z,Z,Z,Z,Z,Z,Z,congrArg (fun b=>some (Value.bool b)) (show (!((((g.nodes[i]'hi1).kind) == 1) == (((i : Nat) : Int) == 0))) = ((!(Y9 (g.nodes[i]'hi1))) || (!((((g.nodes[i]'hi1).kind) == 1) == (((i : Nat) : Int) == 0)))) by first | (rw [hg3] <;> rfl) | (simp [hg3];done) | (simp only [Qp] <;> simp)),trivial⟩ Z)))))))
   rintro _ rfl
   refine Qf (Qw Z (fun hc3=>?_) (fun hc3=>?_))
   ·refine Qh (Qi [true] Z Z (Qa (Qg Z) Z (Qf (Qx (Qz (Xb (Qz (Q0 Z Z E ?_))))))))
    exact graph_a (by assumption)
   ·refine Qy (Qh (Qi [true] Z Z (Qa (Qg Z) Z (Qf (Q9 (Xk (fun (k : Nat)=>[(1,.pointer (some ⟨b1,0,none⟩)),(2,.bool false),(3,.int .i64 ((i : Nat) : Int)),(4,.pointer (some ⟨b2,0,none⟩)),(5,.int .i64 ((k : Nat) : Int))]) (fun (k : Nat) w'=>Ext w w' ∧ w9.heap.size ≤ w'.heap.size ∧ Blk w' b1 ([o1,.int .i64 g.workers,.int .i64 g.cap]) ∧ Blk w' b2 [.int .i64 ((g.nodes[i]'hi1).kind),.int .i64 ((g.nodes[i]'hi1).a),.int .i64 ((g.nodes[i]'hi1).b),o2] ∧ k ≤ (g.nodes[i]'hi1).outs.length ∧ ((g.nodes[i]'hi1).outs.take k).all (fun to=>!K9 g i (g.nodes[i]'hi1) to) = true) (fun (k : Nat)=>(g.nodes[i]'hi1).outs.length - k) 0 ⟨Z,Z,Z,Z,Z,trivial⟩ ⟨E,Nat.le_refl _,h1,h2,Nat.zero_le _,Z⟩ ?_))))))
    clear E h1 h2
    rintro k w11 ⟨E,z10,h1,h2,hk,hI⟩
    refine Qh (Qh (Qi [true,true,true,true,true] Z Z (Qa (Qe Z) Z (Qa (Qd Xz Z) Z (Qa (Qj Kg Z (h2.one 3 Z)) Z (Qa (Yg Tryz.underlying29 Z (hd2.ext E).len) Z (Qa (Xn Z Z) Z (Qf (Qw Z (fun hc4=>?_) (fun hc4=>?_))))))))))
    ·have hc4n : k < ((g.nodes[i]'hi1).outs).length:=by first | (have h:=of_decide_eq_true hc4;omega) | (have h:=hc4;simp at h;omega)
     refine Qy (Qh (Q9 (Qh (Qi [true,true,true,true,true,true] Z Z (Qa (Qd Xz Z) Z (Qa (Qj Kg Z (h2.one 3 Z)) Z (Qa (Qe Z) Z ?_)))))))
     have hi2 : k < ((g.nodes[i]'hi1).outs).length:=(by first | assumption | omega | (simp only [List.length_set];first | assumption | omega) | (simp only [List.getElem_set_self,List.length_set];first | assumption | omega) | (simp only [Xc,Yp,List.length_set];first | assumption | omega) | (simp;done))
     refine Qa (Ye (i:=k) Ke Z Z (hd2.rd.ext E) hi2) Z (Qa (Qj Y6 Z (((hd2.rd.ext E).get hi2).one 0 Z)) Z (Qa (Qg Z) Z (Qf (Qh (Qh (Qi [true,true,true,true,true,true,true,true,true,true,true,true,true,true,true] Z Z (Qa (Qe Z) Z (Qa (Qd Kr Z) Z (Qa (Qj V0 Z (h1.one 0 Z)) Z (Qa (Yg Tryz.underlying24 Z (hd1.ext E).len) Z (Qa (Hf Z Z) Z (Qa (Qe Z) Z (Xg 9 [(1,.pointer (some ⟨b1,0,none⟩)),(2,.bool false),(3,.int .i64 ((i : Nat) : Int)),(4,.pointer (some ⟨b2,0,none⟩)),(5,.int .i64 ((k : Nat) : Int)),(6,.int .i64 (((g.nodes[i]'hi1).outs)[k]'hi2)),(48,.int .i64 ((k : Nat) : Int)),(49,.pointer (some ⟨b2,3,none⟩)),(50,o2),(51,.int .i64 ((((g.nodes[i]'hi1).outs).length : Nat) : Int)),(52,.bool (decide (((k : Nat) : Int) < ((((g.nodes[i]'hi1).outs).length : Nat) : Int)))),(55,.pointer (some ⟨b2,3,none⟩)),(56,o2),(57,.int .i64 ((k : Nat) : Int)),(58,.pointer (some ⟨X8 o2,Ko o2 + k * 1,none⟩)),(59,.int .i64 (((g.nodes[i]'hi1).outs)[k]'hi2)),(74,.bool ((decide (((g.nodes.length : Nat) : Int) ≤ (((g.nodes[i]'hi1).outs)[k]'hi2))) || ((((g.nodes[i]'hi1).kind) != 7) && (decide ((((g.nodes[i]'hi1).outs)[k]'hi2) ≤ ((i : Nat) : Int))))))] (fun w'=>w11 = w') ?_ ?_)))))))))))))
     ·refine Ym (gd:=65) Z Z (fun hg4=>?_) (fun hg4=>?_)
      ·refine Qc Z Z Z Z (Qc Z Z Z Z (Qc Z Z Z Z (Qc Z Z Z Z (Q3 Z Z Z (Q3 Z Z Z (Q3 Z Z Z (Qc Z Z Z Z (Qa (Qr Z Z) Z (Ql ⟨Z,Z,Z,Z,Z,Z,Z,Z,Z,Z,Z,Z,Z,Z,Z,Z,congrArg (fun b=>some (Value.bool b)) (show true = ((decide (((g.nodes.length : Nat) : Int) ≤ (((g.nodes[i]'hi1).outs)[k]'hi2))) || ((((g.nodes[i]'hi1).kind) != 7) && (decide ((((g.nodes[i]'hi1).outs)[k]'hi2) ≤ ((i : Nat) : Int))))) by first | (rw [hg4] <;> rfl) | (simp [hg4];done) | (simp only [Qp] <;> simp)),trivial⟩ Z)))))))))
      ·have hto:=C1 (h1:=hi1) (h2:=hi2) (by assumption)
       have htl:=Int.not_le.1 (of_decide_eq_false hg4)
       refine Qk Z Z (Qd X7 Z) Z (Qk Z Z (Qj Y6 Z (h2.one 0 Z)) Z (Qk Z Z (Xs Z Z) Z (Qk Z Z (Qe Z) Z ?_)))
       refine Ym (gd:=69) Z Z (fun hg5=>?_) (fun hg5=>?_)
       ·refine Qk Z Z (Qe Z) Z (Qk Z Z (Qe Z) Z (Qk Z Z (He Z Z) Z (Qk Z Z (Qr Z Z) Z (Qa (Qq Z Z) Z (Ql ⟨Z,Z,Z,Z,Z,Z,Z,Z,Z,Z,Z,Z,Z,Z,Z,Z,congrArg (fun b=>some (Value.bool b)) (show (decide ((((g.nodes[i]'hi1).outs)[k]'hi2) ≤ ((i : Nat) : Int))) = ((decide (((g.nodes.length : Nat) : Int) ≤ (((g.nodes[i]'hi1).outs)[k]'hi2))) || ((((g.nodes[i]'hi1).kind) != 7) && (decide ((((g.nodes[i]'hi1).outs)[k]'hi2) ≤ ((i : Nat) : Int))))) by first | (rw [hg4,hg5] <;> rfl) | (simp [hg4,hg5];done) | (simp only [Qp] <;> simp)),trivial⟩ Z)))))
       ·refine Qc Z Z Z Z (Qc Z Z Z Z (Qc Z Z Z Z (Qk Z Z (Qq Z Z) Z (Qa (Qq Z Z) Z (Ql ⟨Z,Z,Z,Z,Z,Z,Z,Z,Z,Z,Z,Z,Z,Z,Z,Z,congrArg (fun b=>some (Value.bool b)) (show false = ((decide (((g.nodes.length : Nat) : Int) ≤ (((g.nodes[i]'hi1).outs)[k]'hi2))) || ((((g.nodes[i]'hi1).kind) != 7) && (decide ((((g.nodes[i]'hi1).outs)[k]'hi2) ≤ ((i : Nat) : Int))))) by first | (rw [hg4,hg5] <;> rfl) | (simp [hg4,hg5];done) | (simp only [Qp] <;> simp)),trivial⟩ Z)))))
     rintro _ rfl
     refine Qf (Qw Z (fun hc5=>?_) (fun hc5=>?_))
     ·refine Qh (Qi [true] Z Z (Qa (Qg Z) Z (Qf (Qx (Qz (Xb (Qz (Qz (Xb (Qz (Q0 Z Z E ?_)))))))))))
      exact Cj (edge_s1 (by assumption))
     ·have hto:=C1 (h1:=hi1) (h2:=hi2) (by assumption)
      have htl:=edge_lt hc5
      refine Qy (Qh (Qi [true,true,true,true,true,true,true] Z Z (Qa (Qd Kr Z) Z (Qa (Qj V0 Z (h1.one 0 Z)) Z (Qa (Qe Z) Z ?_)))))
      have hi3 : (Int.toNat (((g.nodes[i]'hi1).outs)[k]'hi2)) < g.nodes.length:=(by first | assumption | omega | (simp only [List.length_set];first | assumption | omega) | (simp only [List.getElem_set_self,List.length_set];first | assumption | omega) | (simp only [Xc,Yp,List.length_set];first | assumption | omega) | (simp;done))
      obtain ⟨_,hr2,ha2⟩:=RdD.get hd1 hi3
      obtain ⟨o3,rfl,hd3⟩:=Node.op hr2
      replace ha2 : At w (X8 o1) (Ko o1 + (Int.toNat (((g.nodes[i]'hi1).outs)[k]'hi2)) * 4) [.int .i64 ((g.nodes[(Int.toNat (((g.nodes[i]'hi1).outs)[k]'hi2))]'hi3).kind),.int .i64 ((g.nodes[(Int.toNat (((g.nodes[i]'hi1).outs)[k]'hi2))]'hi3).a),.int .i64 ((g.nodes[(Int.toNat (((g.nodes[i]'hi1).outs)[k]'hi2))]'hi3).b),o3]:=ha2
      refine Qa (Ki (i:=(Int.toNat (((g.nodes[i]'hi1).outs)[k]'hi2))) Tb Z Z (hd1.ext E).1 (by omega) hi3) Z (Qa (Yt X7 Z) Z (Qa (Qj Y6 Z ((ha2.ext E).one 0 Z)) Z (Qa (Qg Z) Z (Qf (Qh (Qi [true,true,true,true,true,true,true,true,true,true,true,true,true,true,true,true] Z Z (Qa (Qd X7 Z) Z (Qa (Qj Y6 Z (h2.one 0 Z)) Z (Qa (Yq Z Z) Z (Qa (Qe Z) Z (Xg 12 [(1,.pointer (some ⟨b1,0,none⟩)),(2,.bool false),(3,.int .i64 ((i : Nat) : Int)),(4,.pointer (some ⟨b2,0,none⟩)),(5,.int .i64 ((k : Nat) : Int)),(6,.int .i64 (((g.nodes[i]'hi1).outs)[k]'hi2)),(7,.int .i64 ((g.nodes[(Int.toNat (((g.nodes[i]'hi1).outs)[k]'hi2))]'hi3).kind)),(48,.int .i64 ((k : Nat) : Int)),(49,.pointer (some ⟨b2,3,none⟩)),(50,o2),(51,.int .i64 ((((g.nodes[i]'hi1).outs).length : Nat) : Int)),(52,.bool (decide (((k : Nat) : Int) < ((((g.nodes[i]'hi1).outs).length : Nat) : Int)))),(55,.pointer (some ⟨b2,3,none⟩)),(56,o2),(57,.int .i64 ((k : Nat) : Int)),(58,.pointer (some ⟨X8 o2,Ko o2 + k * 1,none⟩)),(59,.int .i64 (((g.nodes[i]'hi1).outs)[k]'hi2)),(74,.bool ((decide (((g.nodes.length : Nat) : Int) ≤ (((g.nodes[i]'hi1).outs)[k]'hi2))) || ((((g.nodes[i]'hi1).kind) != 7) && (decide ((((g.nodes[i]'hi1).outs)[k]'hi2) ≤ ((i : Nat) : Int)))))),(75,.pointer (some ⟨b1,0,none⟩)),(76,o1),(77,.int .i64 (((g.nodes[i]'hi1).outs)[k]'hi2)),(78,.pointer (some ⟨X8 o1,Ko o1 + (Int.toNat (((g.nodes[i]'hi1).outs)[k]'hi2)) * 4,none⟩)),(79,.pointer (some ⟨(X8 o1),Ko o1 + (Int.toNat (((g.nodes[i]'hi1).outs)[k]'hi2)) * 4 + 0,none⟩)),(80,.int .i64 ((g.nodes[(Int.toNat (((g.nodes[i]'hi1).outs)[k]'hi2))]'hi3).kind)),(96,.bool ((((g.nodes[i]'hi1).kind) == 7) && ((decide (((i : Nat) : Int) < (((g.nodes[i]'hi1).outs)[k]'hi2))) || ((((g.nodes[(Int.toNat (((g.nodes[i]'hi1).outs)[k]'hi2))]'hi3).kind) != 5) && (((g.nodes[(Int.toNat (((g.nodes[i]'hi1).outs)[k]'hi2))]'hi3).kind) != 6)))))] (fun w'=>w11 = w') ?_ ?_)))))))))))
      ·refine Ym (gd:=84) Z Z (fun hg6=>?_) (fun hg6=>?_)
       ·refine Qk Z Z (Qe Z) Z (Qk Z Z (Qe Z) Z (Qk Z Z (Un Z Z) Z (Qk Z Z (Qe Z) Z ?_)))
        refine Ym (gd:=88) Z Z (fun hg7=>?_) (fun hg7=>?_)
        ·refine Qc Z Z Z Z (Qc Z Z Z Z (Qc Z Z Z Z (Q3 Z Z Z (Q3 Z Z Z (Qc Z Z Z Z (Qk Z Z (Qr Z Z) Z (Qa (Qr Z Z) Z (Ql ⟨Z,Z,Z,Z,Z,Z,Z,Z,Z,Z,Z,Z,Z,Z,Z,Z,Z,Z,Z,Z,Z,Z,Z,Z,congrArg (fun b=>some (Value.bool b)) (show true = ((((g.nodes[i]'hi1).kind) == 7) && ((decide (((i : Nat) : Int) < (((g.nodes[i]'hi1).outs)[k]'hi2))) || ((((g.nodes[(Int.toNat (((g.nodes[i]'hi1).outs)[k]'hi2))]'hi3).kind) != 5) && (((g.nodes[(Int.toNat (((g.nodes[i]'hi1).outs)[k]'hi2))]'hi3).kind) != 6)))) by first | (rw [hg6,hg7] <;> rfl) | (simp [hg6,hg7];done) | (simp only [Qp] <;> simp)),trivial⟩ Z))))))))
        ·refine Qk Z Z (Qe Z) Z (Qk Z Z (Xs Z Z) Z (Qk Z Z (Qe Z) Z ?_))
         refine Ym (gd:=91) Z Z (fun hg8=>?_) (fun hg8=>?_)
         ·refine Qk Z Z (Qe Z) Z (Qk Z Z (Xs Z Z) Z (Qk Z Z (Qr Z Z) Z (Qk Z Z (Qq Z Z) Z (Qa (Qr Z Z) Z (Ql ⟨Z,Z,Z,Z,Z,Z,Z,Z,Z,Z,Z,Z,Z,Z,Z,Z,Z,Z,Z,Z,Z,Z,Z,Z,congrArg (fun b=>some (Value.bool b)) (show (((g.nodes[(Int.toNat (((g.nodes[i]'hi1).outs)[k]'hi2))]'hi3).kind) != 6) = ((((g.nodes[i]'hi1).kind) == 7) && ((decide (((i : Nat) : Int) < (((g.nodes[i]'hi1).outs)[k]'hi2))) || ((((g.nodes[(Int.toNat (((g.nodes[i]'hi1).outs)[k]'hi2))]'hi3).kind) != 5) && (((g.nodes[(Int.toNat (((g.nodes[i]'hi1).outs)[k]'hi2))]'hi3).kind) != 6)))) by first | (rw [hg6,hg7,hg8] <;> rfl) | (simp [hg6,hg7,hg8];done) | (simp only [Qp] <;> simp)),trivial⟩ Z)))))
         ·refine Qc Z Z Z Z (Qc Z Z Z Z (Qk Z Z (Qq Z Z) Z (Qk Z Z (Qq Z Z) Z (Qa (Qr Z Z) Z (Ql ⟨Z,Z,Z,Z,Z,Z,Z,Z,Z,Z,Z,Z,Z,Z,Z,Z,Z,Z,Z,Z,Z,Z,Z,Z,congrArg (fun b=>some (Value.bool b)) (show false = ((((g.nodes[i]'hi1).kind) == 7) && ((decide (((i : Nat) : Int) < (((g.nodes[i]'hi1).outs)[k]'hi2))) || ((((g.nodes[(Int.toNat (((g.nodes[i]'hi1).outs)[k]'hi2))]'hi3).kind) != 5) && (((g.nodes[(Int.toNat (((g.nodes[i]'hi1).outs)[k]'hi2))]'hi3).kind) != 6)))) by first | (rw [hg6,hg7,hg8] <;> rfl) | (simp [hg6,hg7,hg8];done) | (simp only [Qp] <;> simp)),trivial⟩ Z)))))
       ·refine Qc Z Z Z Z (Qc Z Z Z Z (Qc Z Z Z Z (Qc Z Z Z Z (Q3 Z Z Z (Q3 Z Z Z (Q3 Z Z Z (Q3 Z Z Z (Q3 Z Z Z (Q3 Z Z Z (Qc Z Z Z Z (Qa (Qq Z Z) Z (Ql ⟨Z,Z,Z,Z,Z,Z,Z,Z,Z,Z,Z,Z,Z,Z,Z,Z,Z,Z,Z,Z,Z,Z,Z,Z,congrArg (fun b=>some (Value.bool b)) (show false = ((((g.nodes[i]'hi1).kind) == 7) && ((decide (((i : Nat) : Int) < (((g.nodes[i]'hi1).outs)[k]'hi2))) || ((((g.nodes[(Int.toNat (((g.nodes[i]'hi1).outs)[k]'hi2))]'hi3).kind) != 5) && (((g.nodes[(Int.toNat (((g.nodes[i]'hi1).outs)[k]'hi2))]'hi3).kind) != 6)))) by first | (rw [hg6] <;> rfl) | (simp [hg6];done) | (simp only [Qp] <;> simp)),trivial⟩ Z))))))))))))
      rintro _ rfl
      refine Qf (Qw Z (fun hc6=>?_) (fun hc6=>?_))
      ·refine Qh (Qi [true] Z Z (Qa (Qg Z) Z (Qf (Qx (Qz (Xb (Qz (Qz (Xb (Qz (Q0 Z Z E ?_)))))))))))
       exact Cj (edge_s2 (congrArg Node.kind (Ka _)).symm (by assumption))
      ·refine Qy (Yb (Yv (Qi [true,true,true] Z Z (Qa (Qe Z) Z (Qa (Yw Z Z (Y7 hc4n (hd2.ext E).1.1)) Z (Qa (Qg Z) Z (Qf (Yb (Yy (k + 1) (by omega) ⟨Z,Z,Z,Z,Z,trivial⟩ ⟨E,(by omega),h1,h2,(by omega),Ux hI (by assumption) (edge_sn (congrArg Node.kind (Ka _)).symm (by assumption) (by assumption))⟩)))))))))
    ·have hc4n : ¬ k < ((g.nodes[i]'hi1).outs).length:=by first | (have h:=of_decide_eq_false hc4;omega) | (have h:=hc4;simp at h;omega)
     refine Xl (Ys (Yj ?_))
     refine Yb (Yv (Qi [true,true,true] Z Z (Qa (Qe Z) Z (Qa (Yw Z Z (Y7 hc2n (hd1.ext E).1.1)) Z (Qa (Qg Z) Z (Qf (Yb (Yy (i + 1) (by omega) ⟨Z,Z,Z,trivial⟩ ⟨E,(by omega),h1,(by omega),graph_s (h1:=hi1) (by assumption) hI (by omega) hp⟩))))))))
  ·have hc2n : ¬ i < g.nodes.length:=by first | (have h:=of_decide_eq_false hc2;omega) | (have h:=hc2;simp at h;omega)
   refine Xl (Ys (Yj ?_))
   refine Qh (Qi [true] Z Z (Qa (Qg Z) Z (Qf (Qx (Q0 Z Z E ?_)))))
   exact graph_y (by assumption) hp (by omega)

set_option maxRecDepth 20000 in
theorem c_IndexFuncDone (vxs : Value) (xs : List Done) (fp : Value) (p : Done → Bool) (w : World) (hxs : RdS w vxs xs) (hp : PredF Tryz.prog w fp p) : Ct Tryz.prog 96 [vxs,fp] w (fun v _=>v = .int .i64 (Gf xs p)):=by
 refine Yx Tryz.func96 Z Tryz.ntmps96 Z ?_
 obtain ⟨fid,fs,fc,rfl,hcf,hpf⟩:=hp
 refine Yh [(0,vxs),(1,.func (.func fid) fs.toArray fc.toArray)] ⟨Z,Z,trivial⟩ ?_
 have E : Ext w w:=Ext.refl w
 refine Qh (Qi [true] Z Z (Qa (Qg Z) Z (Qf (Qh (Qh (Qi [true,true,true] Z Z (Qa (Qe Z) Z (Qa (Yg Tryz.underlying31 Z (hxs.ext E).len) Z (Qa (Qe Z) Z (Qf (Q9 (Xk (fun (k : Nat)=>[(0,vxs),(1,.func (.func fid) fs.toArray fc.toArray),(4,.int .i64 0),(7,.int .i64 ((xs.length : Nat) : Int)),(8,.int .i64 ((k : Nat) : Int))]) (fun (k : Nat) w'=>Ext w w' ∧ w.heap.size ≤ w'.heap.size ∧ k ≤ xs.length ∧ (xs.take k).any p = false) (fun (k : Nat)=>xs.length - k) 0 ⟨Z,Z,Z,Z,Z,trivial⟩ ⟨E,Nat.le_refl _,Nat.zero_le _,Z⟩ ?_))))))))))))
 clear E
 rintro k w1 ⟨E,z1,hk,hI⟩
 refine Qh (Qi [true] Z Z (Qa (Xn Z Z) Z (Qf (Qh (Qw Z (fun hc1=>?_) (fun hc1=>?_))))))
 ·have hc1n : k < xs.length:=by first | (have h:=of_decide_eq_true hc1;omega) | (have h:=hc1;simp at h;omega)
  refine Qy (Qh (Q9 (Qh (Qi [true,true] Z Z (Qa (Qe Z) Z (Qa (Qg Z) Z (Qf (Qh (Qi [true,true,true,true,true,false] Z Z (Qa (Qe Z) Z (Qa (Qe Z) Z (Qa (Qe Z) Z ?_))))))))))))
  have hi1 : k < xs.length:=(by first | assumption | omega | (simp only [List.length_set];first | assumption | omega) | (simp only [List.getElem_set_self,List.length_set];first | assumption | omega) | (simp only [Xc,Yp,List.length_set];first | assumption | omega) | (simp;done))
  refine Qa (Ye (i:=k) Ta Z Z (hxs.ext E) hi1) Z (Qa (Qo st69 Z ((hxs.ext E).get hi1) Z) Z (J_callV (fs:=fs) (cs:=fc) hcf Z Z (hpf (xs[k]'hi1) _ E) Z (fun _ w2 e1 hv=>?_)))
  subst hv
  replace E:=E.trans e1
  have z2:=e1.size
  refine Qf (Qw Z (fun hc2=>?_) (fun hc2=>?_))
  ·refine Qh (Qi [true,true] Z Z (Qa (Qe Z) Z (Qa (Qg Z) Z (Qf (Qx (Qz (Xb (Qz (Q0 Z Z E ?_)))))))))
   exact find_yes hI (by assumption) hc2
  ·refine Qy (Yb (Yv (Qi [true,true] Z Z (Qa (Yw Z Z (Y7 hc1n hxs.1)) Z (Qa (Qe Z) Z (Qf (Yb (Yy (k + 1) (by omega) ⟨Z,Z,Z,Z,Z,trivial⟩ ⟨E,(by omega),(by omega),C9 hI (by assumption) hc2⟩))))))))
 ·have hc1n : ¬ k < xs.length:=by first | (have h:=of_decide_eq_false hc1;omega) | (have h:=hc1;simp at h;omega)
  refine Xl (Ys (Yj ?_))
  refine Qh (Qi [true] Z Z (Qa (Qg Z) Z (Qf (Qx (Q0 Z Z E ?_)))))
  exact find_no hI (by omega)

set_option maxRecDepth 20000 in
theorem c_ContainsFuncDone (vxs : Value) (xs : List Done) (fp : Value) (p : Done → Bool) (w : World) (hxs : RdS w vxs xs) (hp : PredF Tryz.prog w fp p) : Ct Tryz.prog 77 [vxs,fp] w (fun v _=>v = .bool (xs.any p)):=by
 refine Yx Tryz.func77 Z Tryz.ntmps77 Z ?_
 obtain ⟨fid,fs,fc,rfl,hcf,hpf⟩:=hp
 refine Yh [(0,vxs),(1,.func (.func fid) fs.toArray fc.toArray)] ⟨Z,Z,trivial⟩ ?_
 have E : Ext w w:=Ext.refl w
 refine Qh (Qi [true] Z Z (Qa (Qg Z) Z (Qf (Qh (Qi [true,true,false,true,true] Z Z (Qa (Qe Z) Z (Qa (Qe Z) Z (Qv Tryz.call96 (by rfl) (c_IndexFuncDone vxs xs (.func (.func fid) fs.toArray fc.toArray) (p) _ (hxs.ext E) ⟨fid,fs,fc,Z,hcf,fun y w' e=>hpf y w' (E.trans e)⟩) Z (fun _ w1 e1 hv=>?_)))))))))
 subst hv
 replace E:=E.trans e1
 have z1:=e1.size
 refine Qa (Hf Z Z) Z (Qa (Qg Z) Z (Qf (Qx (Q0 Z Z E ?_))))
 exact any_find

set_option maxRecDepth 20000 in
theorem c_doneAt1 (r : Done) (be : Nat) (e : Int) (w : World) (he : At w be 0 [.int .i64 e]) : Ct Tryz.prog 78 [.agg (Enc.enc r).toArray,.pointer (some ⟨be,0,none⟩)] w (fun v _=>v = .bool (r.epoch == e)):=by
 refine Yx Tryz.func78 Z Tryz.ntmps78 Z ?_
 refine Yh [(0,.agg (Enc.enc r).toArray),(1,.pointer (some ⟨be,0,none⟩))] ⟨Z,Z,trivial⟩ ?_
 have E : Ext w w:=Ext.refl w
 refine Qh (Qi [false,true] Z Z (Y5 Z Z (fun b1 w1 e1 s1 h1=>?_)))
 have g_b1 : w.heap.size ≤ b1:=by have:=E.size;omega
 have y_b1:=h1.lt
 replace E:=E.trans e1
 have z1:=e1.size
 refine Qa (Qg Z) Z (Qf (Qh (Qi [true,true,true,true,true] Z Z (Qa (Qd T4 Z) Z (Qa (Qj Y6 Z (h1.one 0 Z)) Z (Qa (Qj Y6 Z ((he.ext E).one 0 Z)) Z (Qa (Yq Z Z) Z (Qa (Qg Z) Z (Qf (Qx (Q0 Z Z E ?_)))))))))))
 rfl

set_option maxRecDepth 20000 in
theorem c_doneAt (vxs : Value) (xs : List Done) (e : Int) (w : World) (hxs : RdS w vxs xs) : Ct Tryz.prog 56 [vxs,.int .i64 e] w (fun v _=>v = .bool (xs.any (fun d=>d.epoch == e))):=by
 refine Yx Tryz.func56 Z Tryz.ntmps56 Z ?_
 refine Yh [(0,vxs),(1,.int .i64 e)] ⟨Z,Z,trivial⟩ ?_
 have E : Ext w w:=Ext.refl w
 refine Qh (Qi [false,true] Z Z (J_box1 Z Z Z (fun b1 w1 e1 s1 h1=>?_)))
 have g_b1 : w.heap.size ≤ b1:=by have:=E.size;omega
 have y_b1:=h1.lt
 replace E:=E.trans e1
 have z1:=e1.size
 refine Qa (Qg Z) Z (Qf (Qh (Qi [true,true,false,true] Z Z (Qa (Qe Z) Z (Qa (Ac Z Z) Z (Qv Tryz.call77 (by rfl) (c_ContainsFuncDone vxs xs (.func (.func 78) [].toArray [.pointer (some ⟨b1,0,none⟩)].toArray) ((fun (y : Done)=>y.epoch == e)) _ (hxs.ext E) ⟨78,[],[.pointer (some ⟨b1,0,none⟩)],Z,Tryz.call78,fun y wX eX=>c_doneAt1 y b1 e wX (At.ext (Blk.at h1) eX)⟩) Z (fun _ w2 e2 hv=>?_)))))))
 subst hv
 replace E:=E.trans e2;replace h1:=h1.ext e2
 have z2:=e2.size
 refine Qa (Qg Z) Z (Qf (Qx (Q0 Z Z E ?_)))
 rfl

set_option maxRecDepth 20000 in
theorem c_Idle (cx : List Value) (x : Worker) (w : World) (hx : Dat.R w 0 w.heap.size cx x) (hb : Q4 x ≤ 1048576) : Ct Tryz.prog 22 [.agg cx.toArray] w (fun v _=>v = .bool (Ky x)):=by
 refine Yx Tryz.func22 Z Tryz.ntmps22 Z ?_
 obtain ⟨o1,o2,o3,o4,o5,o6,o7,o8,rfl,hd1,hd2,hd3,hd4,hd5,hd6,hd7,hd8⟩:=Worker.op hx
 refine Yh [(0,.agg [o1,o2,o3,o4,o5,o6,o7,o8].toArray)] ⟨Z,trivial⟩ ?_
 have E : Ext w w:=Ext.refl w
 refine Qh (Qi [false,true] Z Z (Y5 Z Z (fun b1 w1 e1 s1 h1=>?_)))
 have g_b1 : w.heap.size ≤ b1:=by have:=E.size;omega
 have y_b1:=h1.lt
 replace E:=E.trans e1
 have z1:=e1.size
 refine Qa (Qg Z) Z (Qf (Qh (Qi [true,true,true,true,true,true,true,true,true,true,true,true,true] Z Z (Qa (Qd Xj Z) Z (Qa (Qj Xi Z (h1.one 0 Z)) Z (Qa (Yg Tryz.underlying27 Z (hd1.ext E).len) Z (Qa (Qd K7 Z) Z (Qa (Qj Xi Z (h1.one 1 Z)) Z (Qa (Yg Tryz.underlying27 Z (hd2.ext E).len) Z (Qa (Yw Z Z Z) Z (Qa (Qd Kc Z) Z (Qa (Qj Xi Z (h1.one 2 Z)) Z (Qa (Yg Tryz.underlying27 Z (hd3.ext E).len) Z (Qa (Yw Z Z Z) Z (Qa (Yq Z Z) Z (Qa (Qg Z) Z (Qf (Qx (Q0 Z Z E (congrArg Value.bool ?_))))))))))))))))))))
 unfold Q4 at hb
 rw [Xx (z:=((x.queue.length : Nat) : Int) + ((x.staged.length : Nat) : Int)) (by omega) (by omega),Xx (by omega) (by omega),Bool.eq_iff_iff];simp only [Ky,Bool.and_eq_true,beq_iff_eq];omega

set_option maxRecDepth 20000 in
theorem s_Idle (cx : List Value) (x : Worker) (w : World) (hx : Dat.R w 0 w.heap.size cx x) : Ct Tryz.prog 23 [.agg cx.toArray] w (fun v _=>v = .bool (Ky x)):=by
 refine Yx Tryz.func23 Z Tryz.ntmps23 Z ?_
 obtain ⟨o1,o2,o3,o4,o5,o6,o7,o8,rfl,hd1,hd2,hd3,hd4,hd5,hd6,hd7,hd8⟩:=Worker.op hx
 refine Yh [(0,.agg [o1,o2,o3,o4,o5,o6,o7,o8].toArray)] ⟨Z,trivial⟩ ?_
 have E : Ext w w:=Ext.refl w
 refine Qh (Qi [false,true] Z Z (Y5 Z Z (fun b1 w1 e1 s1 h1=>?_)))
 have g_b1 : w.heap.size ≤ b1:=by have:=E.size;omega
 have y_b1:=h1.lt
 replace E:=E.trans e1
 have z1:=e1.size
 refine Qa (Qg Z) Z (Qf (Qh (Qi [true,true,true,true,true,true,true,true,true,true,true,true,true,true,true,true,true] Z Z (Qa (Qd Xj Z) Z (Qa (Qj Xi Z (h1.one 0 Z)) Z (Qa (Yg Tryz.underlying27 Z (hd1.ext E).len) Z (Qa (Yq Z Z) Z (Qa (Qe Z) Z (Xg 11 [(0,.agg [o1,o2,o3,o4,o5,o6,o7,o8].toArray),(1,.pointer (some ⟨b1,0,none⟩)),(2,.bool false),(18,.bool (((((x.queue.length : Nat) : Int) == 0) && (((x.staged.length : Nat) : Int) == 0)) && (((x.inputs.length : Nat) : Int) == 0)))] (fun w'=>w1 = w') ?_ ?_)))))))))
 ·refine Ym (gd:=7) Z Z (fun hg1=>?_) (fun hg1=>?_)
  ·have hg1n : x.queue.length = 0:=by first | (have h:=of_decide_eq_true hg1;omega) | (have h:=hg1;simp at h;omega)
   refine Qk Z Z (Qd K7 Z) Z (Qk Z Z (Qj Xi Z (h1.one 1 Z)) Z (Qk Z Z (Yg Tryz.underlying27 Z (hd2.ext E).len) Z (Qk Z Z (Yq Z Z) Z (Qa (Qr Z Z) Z (Qa (Qe Z) Z ?_)))))
   refine Ym (gd:=13) Z Z (fun hg2=>?_) (fun hg2=>?_)
   ·have hg2n : x.staged.length = 0:=by first | (have h:=of_decide_eq_true hg2;omega) | (have h:=hg2;simp at h;omega)
    refine Qk Z Z (Qd Kc Z) Z (Qk Z Z (Qj Xi Z (h1.one 2 Z)) Z (Qk Z Z (Yg Tryz.underlying27 Z (hd3.ext E).len) Z (Qk Z Z (Yq Z Z) Z (Qa (Qr Z Z) Z (Ql ⟨Z,Z,Z,congrArg (fun b=>some (Value.bool b)) (show (((x.inputs.length : Nat) : Int) == 0) = (((((x.queue.length : Nat) : Int) == 0) && (((x.staged.length : Nat) : Int) == 0)) && (((x.inputs.length : Nat) : Int) == 0)) by first | (rw [hg1,hg2] <;> rfl) | (simp [hg1,hg2];done) | (simp only [Qp] <;> simp)),trivial⟩ Z)))))
   ·have hg2n : ¬ x.staged.length = 0:=by first | (have h:=of_decide_eq_false hg2;omega) | (have h:=hg2;simp at h;omega)
    refine Qc Z Z Z Z (Qc Z Z Z Z (Qc Z Z Z Z (Qc Z Z Z Z (Qa (Qq Z Z) Z (Ql ⟨Z,Z,Z,congrArg (fun b=>some (Value.bool b)) (show false = (((((x.queue.length : Nat) : Int) == 0) && (((x.staged.length : Nat) : Int) == 0)) && (((x.inputs.length : Nat) : Int) == 0)) by first | (rw [hg1,hg2] <;> rfl) | (simp [hg1,hg2];done) | (simp only [Qp] <;> simp)),trivial⟩ Z)))))
  ·have hg1n : ¬ x.queue.length = 0:=by first | (have h:=of_decide_eq_false hg1;omega) | (have h:=hg1;simp at h;omega)
   refine Qc Z Z Z Z (Qc Z Z Z Z (Qc Z Z Z Z (Qc Z Z Z Z (Qa (Qq Z Z) Z (Qa (Qe Z) Z (Qc Z Z Z Z (Qc Z Z Z Z (Qc Z Z Z Z (Qc Z Z Z Z (Qa (Qq Z Z) Z (Ql ⟨Z,Z,Z,congrArg (fun b=>some (Value.bool b)) (show false = (((((x.queue.length : Nat) : Int) == 0) && (((x.staged.length : Nat) : Int) == 0)) && (((x.inputs.length : Nat) : Int) == 0)) by first | (rw [hg1] <;> rfl) | (simp [hg1];done) | (simp only [Qp] <;> simp)),trivial⟩ Z)))))))))))
 rintro _ rfl
 refine Qa (Qg Z) Z (Qf (Qx (Q0 Z Z E ?_)))
 refine congrArg Value.bool ?_;rw [Bool.eq_iff_iff];simp only [Ky,Bool.and_eq_true,beq_iff_eq];omega

set_option maxRecDepth 20000 in
theorem c_StampOk (s : Stamp) (w : World)  : Ct Tryz.prog 79 [.agg (Enc.enc s).toArray] w (fun v _=>v = .bool (Xq s)):=by
 refine Yx Tryz.func79 Z Tryz.ntmps79 Z ?_
 refine Yh [(0,.agg (Enc.enc s).toArray)] ⟨Z,trivial⟩ ?_
 have E : Ext w w:=Ext.refl w
 refine Qh (Qi [false,true] Z Z (Y5 Z Z (fun b1 w1 e1 s1 h1=>?_)))
 have g_b1 : w.heap.size ≤ b1:=by have:=E.size;omega
 have y_b1:=h1.lt
 replace E:=E.trans e1
 have z1:=e1.size
 refine Qa (Qg Z) Z (Qf (Qh (Qi [true,true,false,true,true,true,false,true,true] Z Z (Qa (Qd Vf Z) Z (Qa (Qj Y6 Z (h1.one 0 Z)) Z (Qv Tryz.call42 Z (c_within s.epoch 0 3 _ ) Z (fun _ w2 e2 hv=>?_)))))))
 subst hv
 replace E:=E.trans e2;replace h1:=h1.ext e2
 have z2:=e2.size
 refine Qa (Qe Z) Z (Xg 4 [(0,.agg (Enc.enc s).toArray),(1,.pointer (some ⟨b1,0,none⟩)),(2,.bool false),(10,.bool ((Y0 s.epoch 0 3) && (Y0 s.turn 0 6)))] (fun w'=>Ext w w' ∧ w2.heap.size ≤ w'.heap.size ∧ Blk w' b1 (Enc.enc s)) ?_ ?_)
 ·refine Ym (gd:=6) Z Z (fun hg1=>?_) (fun hg1=>?_)
  ·refine Qk Z Z (Qd Vv Z) Z (Qk Z Z (Qj Y6 Z (h1.one 1 Z)) Z ?_)
   refine Y3 Z Z ?_
   refine Qv Tryz.call42 Z (c_within s.turn 0 6 _ ) Z (fun _ w4 e3 hv=>?_)
   subst hv
   replace E:=E.trans e3;replace h1:=h1.ext e3
   have z3:=e3.size
   refine Qa (Qr Z Z) Z (Ql ⟨Z,Z,Z,congrArg (fun b=>some (Value.bool b)) (show (Y0 s.turn 0 6) = ((Y0 s.epoch 0 3) && (Y0 s.turn 0 6)) by first | (rw [hg1] <;> rfl) | (simp [hg1];done) | (simp only [Qp] <;> simp)),trivial⟩ ⟨E,(by omega),h1⟩)
  ·refine Qc Z Z Z Z (Qc Z Z Z Z ?_)
   refine Q1 Z Z Z Z ?_
   refine Qa (Qq Z Z) Z (Ql ⟨Z,Z,Z,congrArg (fun b=>some (Value.bool b)) (show false = ((Y0 s.epoch 0 3) && (Y0 s.turn 0 6)) by first | (rw [hg1] <;> rfl) | (simp [hg1];done) | (simp only [Qp] <;> simp)),trivial⟩ ⟨E,(by omega),h1⟩)
 clear E h1
 rintro w3 ⟨E,z4,h1⟩
 refine Qa (Qg Z) Z (Qf (Qx (Q0 Z Z E ?_)))
 rfl

set_option maxRecDepth 20000 in
theorem s_StampOk (s : Stamp) (w : World)  : Ct Tryz.prog 84 [.agg (Enc.enc s).toArray] w (fun v _=>v = .bool (Xq s)):=by
 refine Yx Tryz.func84 Z Tryz.ntmps84 Z ?_
 refine Yh [(0,.agg (Enc.enc s).toArray)] ⟨Z,trivial⟩ ?_
 have E : Ext w w:=Ext.refl w
 refine Qh (Qi [false,true] Z Z (Y5 Z Z (fun b1 w1 e1 s1 h1=>?_)))
 have g_b1 : w.heap.size ≤ b1:=by have:=E.size;omega
 have y_b1:=h1.lt
 replace E:=E.trans e1
 have z1:=e1.size
 refine Qa (Qg Z) Z (Qf (Qh (Qi [true,true,false,true,true,true,false,true,true] Z Z (Qa (Qd Vf Z) Z (Qa (Qj Y6 Z (h1.one 0 Z)) Z (Qv Tryz.call45 Z (s_l01In s.epoch 0 3 _ ) Z (fun _ w2 e2 hv=>?_)))))))
 subst hv
 replace E:=E.trans e2;replace h1:=h1.ext e2
 have z2:=e2.size
 refine Qa (Qe Z) Z (Xg 4 [(0,.agg (Enc.enc s).toArray),(1,.pointer (some ⟨b1,0,none⟩)),(2,.bool false),(10,.bool ((Y0 s.epoch 0 3) && (Y0 s.turn 0 6)))] (fun w'=>Ext w w' ∧ w2.heap.size ≤ w'.heap.size ∧ Blk w' b1 (Enc.enc s)) ?_ ?_)
 ·refine Ym (gd:=6) Z Z (fun hg1=>?_) (fun hg1=>?_)
  ·refine Qk Z Z (Qd Vv Z) Z (Qk Z Z (Qj Y6 Z (h1.one 1 Z)) Z ?_)
   refine Y3 Z Z ?_
   refine Qv Tryz.call45 Z (s_l01In s.turn 0 6 _ ) Z (fun _ w4 e3 hv=>?_)
   subst hv
   replace E:=E.trans e3;replace h1:=h1.ext e3
   have z3:=e3.size
   refine Qa (Qr Z Z) Z (Ql ⟨Z,Z,Z,congrArg (fun b=>some (Value.bool b)) (show (Y0 s.turn 0 6) = ((Y0 s.epoch 0 3) && (Y0 s.turn 0 6)) by first | (rw [hg1] <;> rfl) | (simp [hg1];done) | (simp only [Qp] <;> simp)),trivial⟩ ⟨E,(by omega),h1⟩)
  ·refine Qc Z Z Z Z (Qc Z Z Z Z ?_)
   refine Q1 Z Z Z Z ?_
   refine Qa (Qq Z Z) Z (Ql ⟨Z,Z,Z,congrArg (fun b=>some (Value.bool b)) (show false = ((Y0 s.epoch 0 3) && (Y0 s.turn 0 6)) by first | (rw [hg1] <;> rfl) | (simp [hg1];done) | (simp only [Qp] <;> simp)),trivial⟩ ⟨E,(by omega),h1⟩)
 clear E h1
 rintro w3 ⟨E,z4,h1⟩
 refine Qa (Qg Z) Z (Qf (Qx (Q0 Z Z E ?_)))
 rfl

set_option maxRecDepth 20000 in
theorem c_itemOk (a : Int) (b : Int) (w : World)  : Ct Tryz.prog 80 [.int .i64 a,.int .i64 b] w (fun v _=>v = .bool (Y0 a 0 99 && Y0 b 0 999)):=by
 refine Yx Tryz.func80 Z Tryz.ntmps80 Z ?_
 refine Yh [(0,.int .i64 a),(1,.int .i64 b)] ⟨Z,Z,trivial⟩ ?_
 have E : Ext w w:=Ext.refl w
 refine Qh (Qi [true] Z Z (Qa (Qg Z) Z (Qf (Qh (Qi [true,false,true,true,false,true,true] Z Z (Qa (Qe Z) Z (Qv Tryz.call42 Z (c_within a 0 99 _ ) Z (fun _ w1 e1 hv=>?_))))))))
 subst hv
 replace E:=E.trans e1
 have z1:=e1.size
 refine Qa (Qe Z) Z (Xg 3 [(0,.int .i64 a),(1,.int .i64 b),(4,.bool false),(10,.bool ((Y0 a 0 99) && (Y0 b 0 999)))] (fun w'=>Ext w w' ∧ w1.heap.size ≤ w'.heap.size) ?_ ?_)
 ·refine Ym (gd:=7) Z Z (fun hg1=>?_) (fun hg1=>?_)
  ·refine Qk Z Z (Qe Z) Z ?_
   refine Y3 Z Z ?_
   refine Qv Tryz.call42 Z (c_within b 0 999 _ ) Z (fun _ w3 e2 hv=>?_)
   subst hv
   replace E:=E.trans e2
   have z2:=e2.size
   refine Qa (Qr Z Z) Z (Ql ⟨Z,Z,Z,congrArg (fun b=>some (Value.bool b)) (show (Y0 b 0 999) = ((Y0 a 0 99) && (Y0 b 0 999)) by first | (rw [hg1] <;> rfl) | (simp [hg1];done) | (simp only [Qp] <;> simp)),trivial⟩ ⟨E,(by omega)⟩)
  ·refine Qc Z Z Z Z ?_
   refine Q1 Z Z Z Z ?_
   refine Qa (Qq Z Z) Z (Ql ⟨Z,Z,Z,congrArg (fun b=>some (Value.bool b)) (show false = ((Y0 a 0 99) && (Y0 b 0 999)) by first | (rw [hg1] <;> rfl) | (simp [hg1];done) | (simp only [Qp] <;> simp)),trivial⟩ ⟨E,(by omega)⟩)
 clear E
 rintro w2 ⟨E,z3⟩
 refine Qa (Qg Z) Z (Qf (Qx (Q0 Z Z E ?_)))
 rfl

set_option maxRecDepth 20000 in
theorem c_RecordOk (r : Record) (w : World)  : Ct Tryz.prog 57 [.agg (Enc.enc r).toArray] w (fun v _=>v = .bool (Yn r)):=by
 refine Yx Tryz.func57 Z Tryz.ntmps57 Z ?_
 refine Yh [(0,.agg (Enc.enc r).toArray)] ⟨Z,trivial⟩ ?_
 have E : Ext w w:=Ext.refl w
 refine Qh (Qi [false,true] Z Z (Y5 Z Z (fun b1 w1 e1 s1 h1=>?_)))
 have g_b1 : w.heap.size ≤ b1:=by have:=E.size;omega
 have y_b1:=h1.lt
 replace E:=E.trans e1
 have z1:=e1.size
 refine Qa (Qg Z) Z (Qf (Qh (Qi [true,true,false,true,true,true,false,true,true,true,true,true,true,false,true,true] Z Z (Qa (Qd Uv Z) Z (Qa (Qj Y6 Z (h1.one 0 Z)) Z (Qv Tryz.call42 Z (c_within r.op 0 7 _ ) Z (fun _ w2 e2 hv=>?_)))))))
 subst hv
 replace E:=E.trans e2;replace h1:=h1.ext e2
 have z2:=e2.size
 refine Qa (Qe Z) Z (Xg 11 [(0,.agg (Enc.enc r).toArray),(1,.pointer (some ⟨b1,0,none⟩)),(2,.bool false),(17,.bool (((Y0 r.op 0 7) && (Xq r.stamp)) && (Y0 r.key 0 99 && Y0 r.val 0 999)))] (fun w'=>Ext w w' ∧ w2.heap.size ≤ w'.heap.size ∧ Blk w' b1 (Enc.enc r)) ?_ ?_)
 ·refine Ym (gd:=6) Z Z (fun hg1=>?_) (fun hg1=>?_)
  ·refine Qk Z Z (Qd Kz Z) Z (Qk Z Z (Qo X2 Z (h1.part 1 [.int .i64 r.stamp.epoch,.int .i64 r.stamp.turn] Z) Z) Z ?_)
   refine Y3 Z Z ?_
   refine Qv Tryz.call79 Z (c_StampOk r.stamp _ ) Z (fun _ w4 e3 hv=>?_)
   subst hv
   replace E:=E.trans e3;replace h1:=h1.ext e3
   have z3:=e3.size
   refine Qa (Qr Z Z) Z (Qa (Qe Z) Z (Ym (gd:=11) Z Z (fun hg2=>?_) (fun hg2=>?_)))
   ·refine Qk Z Z (Qd H1 Z) Z (Qk Z Z (Qj Y6 Z (h1.one 3 Z)) Z (Qk Z Z (Qd H0 Z) Z (Qk Z Z (Qj Y6 Z (h1.one 4 Z)) Z ?_)))
    refine Y3 Z Z ?_
    refine Qv Tryz.call80 Z (c_itemOk r.key r.val _ ) Z (fun _ w5 e4 hv=>?_)
    subst hv
    replace E:=E.trans e4;replace h1:=h1.ext e4
    have z4:=e4.size
    refine Qa (Qr Z Z) Z (Ql ⟨Z,Z,Z,congrArg (fun b=>some (Value.bool b)) (show (Y0 r.key 0 99 && Y0 r.val 0 999) = (((Y0 r.op 0 7) && (Xq r.stamp)) && (Y0 r.key 0 99 && Y0 r.val 0 999)) by first | (rw [hg1,hg2] <;> rfl) | (simp [hg1,hg2];done) | (simp only [Qp] <;> simp)),trivial⟩ ⟨E,(by omega),h1⟩)
   ·refine Qc Z Z Z Z (Qc Z Z Z Z (Qc Z Z Z Z (Qc Z Z Z Z ?_)))
    refine Q1 Z Z Z Z ?_
    refine Qa (Qq Z Z) Z (Ql ⟨Z,Z,Z,congrArg (fun b=>some (Value.bool b)) (show false = (((Y0 r.op 0 7) && (Xq r.stamp)) && (Y0 r.key 0 99 && Y0 r.val 0 999)) by first | (rw [hg1,hg2] <;> rfl) | (simp [hg1,hg2];done) | (simp only [Qp] <;> simp)),trivial⟩ ⟨E,(by omega),h1⟩)
  ·refine Qc Z Z Z Z (Qc Z Z Z Z ?_)
   refine Q1 Z Z Z Z ?_
   refine Qa (Qq Z Z) Z (Qa (Qe Z) Z (Qc Z Z Z Z (Qc Z Z Z Z (Qc Z Z Z Z (Qc Z Z Z Z (Q1 Z Z Z Z (Qa (Qq Z Z) Z (Ql ⟨Z,Z,Z,congrArg (fun b=>some (Value.bool b)) (show false = (((Y0 r.op 0 7) && (Xq r.stamp)) && (Y0 r.key 0 99 && Y0 r.val 0 999)) by first | (rw [hg1] <;> rfl) | (simp [hg1];done) | (simp only [Qp] <;> simp)),trivial⟩ ⟨E,(by omega),h1⟩))))))))
 clear E h1
 rintro w3 ⟨E,z5,h1⟩
 refine Qa (Qg Z) Z (Qf (Qx (Q0 Z Z E ?_)))
 rfl

set_option maxRecDepth 20000 in
theorem s_RecordOk (r : Record) (w : World)  : Ct Tryz.prog 64 [.agg (Enc.enc r).toArray] w (fun v _=>v = .bool (Yn r)):=by
 refine Yx Tryz.func64 Z Tryz.ntmps64 Z ?_
 refine Yh [(0,.agg (Enc.enc r).toArray)] ⟨Z,trivial⟩ ?_
 have E : Ext w w:=Ext.refl w
 refine Qh (Qi [false,true] Z Z (Y5 Z Z (fun b1 w1 e1 s1 h1=>?_)))
 have g_b1 : w.heap.size ≤ b1:=by have:=E.size;omega
 have y_b1:=h1.lt
 replace E:=E.trans e1
 have z1:=e1.size
 refine Qa (Qg Z) Z (Qf (Qh (Qi [true,true,false,true,true,true,false,true,true,true,true,false,true,true,true,true,false,true,true] Z Z (Qa (Qd Uv Z) Z (Qa (Qj Y6 Z (h1.one 0 Z)) Z (Qv Tryz.call45 Z (s_l01In r.op 0 7 _ ) Z (fun _ w2 e2 hv=>?_)))))))
 subst hv
 replace E:=E.trans e2;replace h1:=h1.ext e2
 have z2:=e2.size
 refine Qa (Qe Z) Z (Xg 14 [(0,.agg (Enc.enc r).toArray),(1,.pointer (some ⟨b1,0,none⟩)),(2,.bool false),(20,.bool ((((Y0 r.op 0 7) && (Xq r.stamp)) && (Y0 r.key 0 99)) && (Y0 r.val 0 999)))] (fun w'=>Ext w w' ∧ w2.heap.size ≤ w'.heap.size ∧ Blk w' b1 (Enc.enc r)) ?_ ?_)
 ·refine Ym (gd:=6) Z Z (fun hg1=>?_) (fun hg1=>?_)
  ·refine Qk Z Z (Qd Kz Z) Z (Qk Z Z (Qo X2 Z (h1.part 1 [.int .i64 r.stamp.epoch,.int .i64 r.stamp.turn] Z) Z) Z ?_)
   refine Y3 Z Z ?_
   refine Qv Tryz.call84 Z (s_StampOk r.stamp _ ) Z (fun _ w4 e3 hv=>?_)
   subst hv
   replace E:=E.trans e3;replace h1:=h1.ext e3
   have z3:=e3.size
   refine Qa (Qr Z Z) Z (Qa (Qe Z) Z (Ym (gd:=11) Z Z (fun hg2=>?_) (fun hg2=>?_)))
   ·refine Qk Z Z (Qd H1 Z) Z (Qk Z Z (Qj Y6 Z (h1.one 3 Z)) Z ?_)
    refine Y3 Z Z ?_
    refine Qv Tryz.call45 Z (s_l01In r.key 0 99 _ ) Z (fun _ w5 e4 hv=>?_)
    subst hv
    replace E:=E.trans e4;replace h1:=h1.ext e4
    have z4:=e4.size
    refine Qa (Qr Z Z) Z (Qa (Qe Z) Z (Ym (gd:=16) Z Z (fun hg3=>?_) (fun hg3=>?_)))
    ·refine Qk Z Z (Qd H0 Z) Z (Qk Z Z (Qj Y6 Z (h1.one 4 Z)) Z ?_)
     refine Y3 Z Z ?_
     refine Qv Tryz.call45 Z (s_l01In r.val 0 999 _ ) Z (fun _ w6 e5 hv=>?_)
     subst hv
     replace E:=E.trans e5;replace h1:=h1.ext e5
     have z5:=e5.size
     refine Qa (Qr Z Z) Z (Ql ⟨Z,Z,Z,congrArg (fun b=>some (Value.bool b)) (show (Y0 r.val 0 999) = ((((Y0 r.op 0 7) && (Xq r.stamp)) && (Y0 r.key 0 99)) && (Y0 r.val 0 999)) by first | (rw [hg1,hg2,hg3] <;> rfl) | (simp [hg1,hg2,hg3];done) | (simp only [Qp] <;> simp)),trivial⟩ ⟨E,(by omega),h1⟩)
    ·refine Qc Z Z Z Z (Qc Z Z Z Z ?_)
     refine Q1 Z Z Z Z ?_
     refine Qa (Qq Z Z) Z (Ql ⟨Z,Z,Z,congrArg (fun b=>some (Value.bool b)) (show false = ((((Y0 r.op 0 7) && (Xq r.stamp)) && (Y0 r.key 0 99)) && (Y0 r.val 0 999)) by first | (rw [hg1,hg2,hg3] <;> rfl) | (simp [hg1,hg2,hg3];done) | (simp only [Qp] <;> simp)),trivial⟩ ⟨E,(by omega),h1⟩)
   ·refine Qc Z Z Z Z (Qc Z Z Z Z ?_)
    refine Q1 Z Z Z Z ?_
    refine Qa (Qq Z Z) Z (Qa (Qe Z) Z (Qc Z Z Z Z (Qc Z Z Z Z (Q1 Z Z Z Z (Qa (Qq Z Z) Z (Ql ⟨Z,Z,Z,congrArg (fun b=>some (Value.bool b)) (show false = ((((Y0 r.op 0 7) && (Xq r.stamp)) && (Y0 r.key 0 99)) && (Y0 r.val 0 999)) by first | (rw [hg1,hg2] <;> rfl) | (simp [hg1,hg2];done) | (simp only [Qp] <;> simp)),trivial⟩ ⟨E,(by omega),h1⟩))))))
  ·refine Qc Z Z Z Z (Qc Z Z Z Z ?_)
   refine Q1 Z Z Z Z ?_
   refine Qa (Qq Z Z) Z (Qa (Qe Z) Z (Qc Z Z Z Z (Qc Z Z Z Z (Q1 Z Z Z Z (Qa (Qq Z Z) Z (Qa (Qe Z) Z (Qc Z Z Z Z (Qc Z Z Z Z (Q1 Z Z Z Z (Qa (Qq Z Z) Z (Ql ⟨Z,Z,Z,congrArg (fun b=>some (Value.bool b)) (show false = ((((Y0 r.op 0 7) && (Xq r.stamp)) && (Y0 r.key 0 99)) && (Y0 r.val 0 999)) by first | (rw [hg1] <;> rfl) | (simp [hg1];done) | (simp only [Qp] <;> simp)),trivial⟩ ⟨E,(by omega),h1⟩)))))))))))
 clear E h1
 rintro w3 ⟨E,z6,h1⟩
 refine Qa (Qg Z) Z (Qf (Qx (Q0 Z Z E ?_)))
 simp [Yn,Bool.and_assoc]

set_option maxRecDepth 20000 in
theorem c_isNode (cg : List Value) (g : Graph) (op : Int) (w : World) (hg : Dat.R w 0 w.heap.size cg g) : Ct Tryz.prog 58 [.agg cg.toArray,.int .i64 op] w (fun v _=>v = .bool (Xd g op)):=by
 refine Yx Tryz.func58 Z Tryz.ntmps58 Z ?_
 obtain ⟨o1,rfl,hd1⟩:=Graph.op hg
 refine Yh [(0,.agg [o1,.int .i64 g.workers,.int .i64 g.cap].toArray),(1,.int .i64 op)] ⟨Z,Z,trivial⟩ ?_
 have E : Ext w w:=Ext.refl w
 refine Qh (Qi [false,true] Z Z (Y5 Z Z (fun b1 w1 e1 s1 h1=>?_)))
 have g_b1 : w.heap.size ≤ b1:=by have:=E.size;omega
 have y_b1:=h1.lt
 replace E:=E.trans e1
 have z1:=e1.size
 refine Qa (Qg Z) Z (Qf (Qh (Qi [true,true,true,true,true,false,true] Z Z (Qa (Qe Z) Z (Qa (Qd Kr Z) Z (Qa (Qj V0 Z (h1.one 0 Z)) Z (Qa (Yg Tryz.underlying24 Z (hd1.ext E).len) Z (Qa (U5 Z Z Z) Z (Qv Tryz.call42 Z (c_within op 0 (IntKind.i64.wrap (((g.nodes.length : Nat) : Int) - 1)) _ ) Z (fun _ w2 e2 hv=>?_))))))))))
 subst hv
 replace E:=E.trans e2;replace h1:=h1.ext e2
 have z2:=e2.size
 refine Qa (Qg Z) Z (Qf (Qx (Q0 Z Z E ?_)))
 have a1:=hd1.1.1
 unfold maxLen at a1
 rw [Xx (by omega) (by omega)];rfl

set_option maxRecDepth 20000 in
theorem c_NextTurn (s : Stamp) (w : World)  : Ct Tryz.prog 61 [.agg (Enc.enc s).toArray] w (fun v _=>v = .tuple [.agg (Enc.enc ((Yr s).1)).toArray,.bool ((Yr s).2)].toArray):=by
 refine Yx Tryz.func61 Z Tryz.ntmps61 Z ?_
 refine Yh [(0,.agg (Enc.enc s).toArray)] ⟨Z,trivial⟩ ?_
 have E : Ext w w:=Ext.refl w
 refine Qh (Qi [false,false,true] Z Z (Y5 Z Z (fun b1 w1 e1 s1 h1=>?_)))
 have g_b1 : w.heap.size ≤ b1:=by have:=E.size;omega
 have y_b1:=h1.lt
 replace E:=E.trans e1
 have z1:=e1.size
 refine Q6 X2 Z (fun b2 w2 e2 s2 h2=>?_)
 have g_b2 : w.heap.size ≤ b2:=by have:=E.size;omega
 have y_b2:=h2.lt
 replace E:=E.trans e2;replace h1:=h1.ext e2
 have z2:=e2.size
 refine Qa (Qg Z) Z (Qf (Qh (Qh (Qi [true,false,true,true,true,true,true,true] Z Z (Qa (Qo X2 Z h1.at Z) Z (Qv Tryz.call79 Z (c_StampOk s _ ) Z (fun _ w3 e3 hv=>?_)))))))
 subst hv
 replace E:=E.trans e3;replace h1:=h1.ext e3;replace h2:=h2.ext e3
 have z3:=e3.size
 refine Qa (Y1 Z) Z (Qa (Qe Z) Z (Xg 4 [(0,.agg (Enc.enc s).toArray),(1,.pointer (some ⟨b1,0,none⟩)),(2,.pointer (some ⟨b2,0,none⟩)),(3,.bool false),(11,.bool ((!(Xq s)) || (s.turn == 6)))] (fun w'=>w3 = w') ?_ ?_))
 ·refine Ym (gd:=7) Z Z (fun hg1=>?_) (fun hg1=>?_)
  ·refine Qc Z Z Z Z (Qc Z Z Z Z (Qc Z Z Z Z (Qa (Qr Z Z) Z (Ql ⟨Z,Z,Z,Z,congrArg (fun b=>some (Value.bool b)) (show true = ((!(Xq s)) || (s.turn == 6)) by first | (rw [hg1] <;> rfl) | (simp [hg1];done) | (simp only [Qp] <;> simp)),trivial⟩ Z))))
  ·refine Qk Z Z (Qd Vv Z) Z (Qk Z Z (Qj Y6 Z (h1.one 1 Z)) Z (Qk Z Z (Yq Z Z) Z (Qa (Qq Z Z) Z (Ql ⟨Z,Z,Z,Z,congrArg (fun b=>some (Value.bool b)) (show (s.turn == 6) = ((!(Xq s)) || (s.turn == 6)) by first | (rw [hg1] <;> rfl) | (simp [hg1];done) | (simp only [Qp] <;> simp)),trivial⟩ Z))))
 rintro _ rfl
 refine Qf (Qw Z (fun hc1=>?_) (fun hc1=>?_))
 ·refine Qh (Qi [true,false,true] Z Z (Qa (Qo X2 Z h1.at Z) Z (Qs (cs':=[.int .i64 s.epoch,.int .i64 s.turn]) X2 Z Z Z Z h2 (Nat.le_of_ble_eq_true Z) Z (fun w5 m1 h2'=>?_))))
  replace h2:=h2'
  replace E:=E.step m1 (fun g hg=>by cases hg;omega);replace h1:=h1.mod m1 (fun g hg=>by cases hg;omega)
  have z4:=m1.size
  refine Qa (Qg Z) Z (Qf (Qx (Yo (l:=[.cell 2 40,.tmp 3]) (vs:=[.agg (Enc.enc s).toArray,.bool false]) Z ⟨.cell Z (Qu X2 h2.at Z),.tmp Z,trivial⟩ Z E ?_)))
  simp only [Yr,if_pos hc1]
 ·refine Qy (Qh (Qi [true,true,true,true,true,true,false,true] Z Z (Qa (Qd Vf Z) Z (Qa (Qj Y6 Z (h1.one 0 Z)) Z (Qa (Qd Vv Z) Z (Qa (Qj Y6 Z (h1.one 1 Z)) Z (Qa (Yw Z Z Z) Z (Qa (Kl (⟨s.epoch,IntKind.i64.wrap (s.turn + 1)⟩ : Stamp) Z (fun _=>by kernel_rfl)) Z (Qs (cs':=[.int .i64 ((⟨s.epoch,IntKind.i64.wrap (s.turn + 1)⟩ : Stamp).epoch),.int .i64 ((⟨s.epoch,IntKind.i64.wrap (s.turn + 1)⟩ : Stamp).turn)]) X2 Z Z Z Z h2 (Nat.le_of_ble_eq_true Z) Z (fun w6 m2 h2'=>?_))))))))))
  replace h2:=h2'
  replace E:=E.step m2 (fun g hg=>by cases hg;omega);replace h1:=h1.mod m2 (fun g hg=>by cases hg;omega)
  have z5:=m2.size
  refine Qa (Qg Z) Z (Qf (Qx (Yo (l:=[.cell 2 40,.tmp 3]) (vs:=[.agg (Enc.enc (⟨s.epoch,IntKind.i64.wrap (s.turn + 1)⟩ : Stamp)).toArray,.bool true]) Z ⟨.cell Z (Qu X2 h2.at Z),.tmp Z,trivial⟩ Z E ?_)))
  simp only [Yr,if_neg (Bool.eq_false_iff.1 hc1)]
  simp only [Bool.or_eq_false_iff,Bool.not_eq_false'] at hc1
  have ht:=win_hi hc1.1
  rw [Xx (by omega) (by omega)]

set_option maxRecDepth 20000 in
theorem s_NextTurn (s : Stamp) (w : World)  : Ct Tryz.prog 68 [.agg (Enc.enc s).toArray] w (fun v _=>v = .tuple [.agg (Enc.enc ((Yr s).1)).toArray,.bool ((Yr s).2)].toArray):=by
 refine Yx Tryz.func68 Z Tryz.ntmps68 Z ?_
 refine Yh [(0,.agg (Enc.enc s).toArray)] ⟨Z,trivial⟩ ?_
 have E : Ext w w:=Ext.refl w
 refine Qh (Qi [false,false,true] Z Z (Y5 Z Z (fun b1 w1 e1 s1 h1=>?_)))
 have g_b1 : w.heap.size ≤ b1:=by have:=E.size;omega
 have y_b1:=h1.lt
 replace E:=E.trans e1
 have z1:=e1.size
 refine Q6 X2 Z (fun b2 w2 e2 s2 h2=>?_)
 have g_b2 : w.heap.size ≤ b2:=by have:=E.size;omega
 have y_b2:=h2.lt
 replace E:=E.trans e2;replace h1:=h1.ext e2
 have z2:=e2.size
 refine Qa (Qg Z) Z (Qf (Qh (Qh (Qi [true,false,true,true,true,true,true,true] Z Z (Qa (Qo X2 Z h1.at Z) Z (Qv Tryz.call84 Z (s_StampOk s _ ) Z (fun _ w3 e3 hv=>?_)))))))
 subst hv
 replace E:=E.trans e3;replace h1:=h1.ext e3;replace h2:=h2.ext e3
 have z3:=e3.size
 refine Qa (Y1 Z) Z (Qa (Qe Z) Z (Xg 4 [(0,.agg (Enc.enc s).toArray),(1,.pointer (some ⟨b1,0,none⟩)),(2,.pointer (some ⟨b2,0,none⟩)),(3,.bool false),(11,.bool ((!(Xq s)) || (decide (6 ≤ s.turn))))] (fun w'=>w3 = w') ?_ ?_))
 ·refine Ym (gd:=7) Z Z (fun hg1=>?_) (fun hg1=>?_)
  ·refine Qc Z Z Z Z (Qc Z Z Z Z (Qc Z Z Z Z (Qa (Qr Z Z) Z (Ql ⟨Z,Z,Z,Z,congrArg (fun b=>some (Value.bool b)) (show true = ((!(Xq s)) || (decide (6 ≤ s.turn))) by first | (rw [hg1] <;> rfl) | (simp [hg1];done) | (simp only [Qp] <;> simp)),trivial⟩ Z))))
  ·refine Qk Z Z (Qd Vv Z) Z (Qk Z Z (Qj Y6 Z (h1.one 1 Z)) Z (Qk Z Z (Hf Z Z) Z (Qa (Qq Z Z) Z (Ql ⟨Z,Z,Z,Z,congrArg (fun b=>some (Value.bool b)) (show (decide (6 ≤ s.turn)) = ((!(Xq s)) || (decide (6 ≤ s.turn))) by first | (rw [hg1] <;> rfl) | (simp [hg1];done) | (simp only [Qp] <;> simp)),trivial⟩ Z))))
 rintro _ rfl
 refine Qf (Qw Z (fun hc1=>?_) (fun hc1=>?_))
 ·refine Qh (Qi [true,false,true] Z Z (Qa (Qo X2 Z h1.at Z) Z (Qs (cs':=[.int .i64 s.epoch,.int .i64 s.turn]) X2 Z Z Z Z h2 (Nat.le_of_ble_eq_true Z) Z (fun w5 m1 h2'=>?_))))
  replace h2:=h2'
  replace E:=E.step m1 (fun g hg=>by cases hg;omega);replace h1:=h1.mod m1 (fun g hg=>by cases hg;omega)
  have z4:=m1.size
  refine Qa (Qg Z) Z (Qf (Qx (Yo (l:=[.cell 2 40,.tmp 3]) (vs:=[.agg (Enc.enc s).toArray,.bool false]) Z ⟨.cell Z (Qu X2 h2.at Z),.tmp Z,trivial⟩ Z E ?_)))
  simp only [Yr,if_pos (nt_ge hc1)]
 ·refine Qy (Qh (Qi [true,true,true,true,false] Z Z (Qa (Qd Vv Z) Z (Qa (Qj Y6 Z (h1.one 1 Z)) Z (Qa (Yw Z Z Z) Z (Qa (Qd Vv Z) Z (Y4 (cs':=[.int .i64 s.epoch,.int .i64 (IntKind.i64.wrap (s.turn + 1))]) Y6 Z Z Z h1 (Nat.le_of_ble_eq_true Z) Z (fun w6 m2 h1'=>?_))))))))
  replace h1:=h1'
  replace E:=E.step m2 (fun g hg=>by cases hg;omega);replace h2:=h2.mod m2 (fun g hg=>by cases hg;omega)
  have z5:=m2.size
  refine Qf (Qh (Qi [true,false,true] Z Z (Qa (Qo X2 Z h1.at Z) Z (Qs (cs':=[.int .i64 ((⟨s.epoch,IntKind.i64.wrap (s.turn + 1)⟩ : Stamp).epoch),.int .i64 ((⟨s.epoch,IntKind.i64.wrap (s.turn + 1)⟩ : Stamp).turn)]) X2 Z Z Z Z h2 (Nat.le_of_ble_eq_true Z) Z (fun w7 m3 h2'=>?_)))))
  replace h2:=h2'
  replace E:=E.step m3 (fun g hg=>by cases hg;omega);replace h1:=h1.mod m3 (fun g hg=>by cases hg;omega)
  have z6:=m3.size
  refine Qa (Qg Z) Z (Qf (Qx (Yo (l:=[.cell 2 40,.tmp 3]) (vs:=[.agg (Enc.enc (⟨s.epoch,IntKind.i64.wrap (s.turn + 1)⟩ : Stamp)).toArray,.bool true]) Z ⟨.cell Z (Qu X2 h2.at Z),.tmp Z,trivial⟩ Z E ?_)))
  replace hc1:=nt_lt hc1
  simp only [Yr,if_neg (Bool.eq_false_iff.1 hc1)]
  simp only [Bool.or_eq_false_iff,Bool.not_eq_false'] at hc1
  have ht:=win_hi hc1.1
  rw [Xx (by omega) (by omega)]

set_option maxRecDepth 20000 in
theorem c_opsOk (cg : List Value) (g : Graph) (vxs : Value) (xs : List Record) (w : World) (hg : Dat.R w 0 w.heap.size cg g) (hxs : RdS w vxs xs) : Ct Tryz.prog 54 [.agg cg.toArray,vxs] w (fun v _=>v = .bool (xs.all (X6 g))):=by
 refine Yx Tryz.func54 Z Tryz.ntmps54 Z ?_
 obtain ⟨o1,rfl,hd1⟩:=Graph.op hg
 refine Yh [(0,.agg [o1,.int .i64 g.workers,.int .i64 g.cap].toArray),(1,vxs)] ⟨Z,Z,trivial⟩ ?_
 have E : Ext w w:=Ext.refl w
 refine Qh (Qi [false,true] Z Z (Y5 Z Z (fun b1 w1 e1 s1 h1=>?_)))
 have g_b1 : w.heap.size ≤ b1:=by have:=E.size;omega
 have y_b1:=h1.lt
 replace E:=E.trans e1
 have z1:=e1.size
 refine Qa (Qg Z) Z (Qf (Qh (Qh (Qi [true,true,true] Z Z (Qa (Qe Z) Z (Qa (Yg Tryz.underlying27 Z (hxs.ext E).len) Z (Qa (Qe Z) Z (Qf (Q9 (Xk (fun (k : Nat)=>[(2,.pointer (some ⟨b1,0,none⟩)),(4,.bool false),(7,vxs),(8,.int .i64 ((xs.length : Nat) : Int)),(9,.int .i64 ((k : Nat) : Int))]) (fun (k : Nat) w'=>Ext w w' ∧ w1.heap.size ≤ w'.heap.size ∧ Blk w' b1 ([o1,.int .i64 g.workers,.int .i64 g.cap]) ∧ k ≤ xs.length ∧ (xs.take k).all (X6 g) = true) (fun (k : Nat)=>xs.length - k) 0 ⟨Z,Z,Z,Z,Z,trivial⟩ ⟨E,Nat.le_refl _,h1,Nat.zero_le _,Z⟩ ?_))))))))))
 clear E h1
 rintro k w2 ⟨E,z2,h1,hk,hI⟩
 refine Qh (Qi [true] Z Z (Qa (Xn Z Z) Z (Qf (Qh (Qw Z (fun hc1=>?_) (fun hc1=>?_))))))
 ·have hc1n : k < xs.length:=by first | (have h:=of_decide_eq_true hc1;omega) | (have h:=hc1;simp at h;omega)
  refine Qy (Qh (Q9 (Qh (Qi [true,true,false,false] Z Z ?_))))
  have hi1 : k < xs.length:=(by first | assumption | omega | (simp only [List.length_set];first | assumption | omega) | (simp only [List.getElem_set_self,List.length_set];first | assumption | omega) | (simp only [Xc,Yp,List.length_set];first | assumption | omega) | (simp;done))
  refine Qa (Ye (i:=k) X3 Z Z (hxs.ext E) hi1) Z (Qa (Qo Xh Z ((hxs.ext E).get hi1) Z) Z (Q6 Xh Z (fun b2 w3 e2 s2 h2=>?_)))
  have g_b2 : w.heap.size ≤ b2:=by have:=E.size;omega
  have y_b2:=h2.lt
  replace E:=E.trans e2;replace h1:=h1.ext e2
  have z3:=e2.size
  refine Qs (cs':=[.int .i64 ((xs[k]'hi1).op),.int .i64 (((xs[k]'hi1).stamp).epoch),.int .i64 (((xs[k]'hi1).stamp).turn),.int .i64 ((xs[k]'hi1).key),.int .i64 ((xs[k]'hi1).val)]) Xh Z Z Z Z h2 (Nat.le_of_ble_eq_true Z) Z (fun w4 m1 h2'=>?_)
  replace h2:=h2'
  replace E:=E.step m1 (fun g hg=>by cases hg;omega);replace h1:=h1.mod m1 (fun g hg=>by cases hg;omega)
  have z4:=m1.size
  refine Qf (Qh (Qi [true,false,true,true,true,true,true,false,true,true] Z Z (Qa (Qo Xh Z h2.at Z) Z (Qv Tryz.call57 Z (c_RecordOk (xs[k]'hi1) _ ) Z (fun _ w5 e3 hv=>?_)))))
  subst hv
  replace E:=E.trans e3;replace h1:=h1.ext e3;replace h2:=h2.ext e3
  have z5:=e3.size
  refine Qa (Y1 Z) Z (Qa (Qe Z) Z (Xg 6 [(2,.pointer (some ⟨b1,0,none⟩)),(4,.bool false),(6,.pointer (some ⟨b2,0,none⟩)),(7,vxs),(8,.int .i64 ((xs.length : Nat) : Int)),(9,.int .i64 ((k : Nat) : Int)),(10,.bool (decide (((k : Nat) : Int) < ((xs.length : Nat) : Int)))),(11,.pointer (some ⟨X8 vxs,Ko vxs + k * 5,none⟩)),(12,.agg (Enc.enc (xs[k]'hi1)).toArray),(22,.bool ((!(Yn (xs[k]'hi1))) || (!(Xd g ((xs[k]'hi1).op)))))] (fun w'=>Ext w w' ∧ w5.heap.size ≤ w'.heap.size ∧ Blk w' b1 ([o1,.int .i64 g.workers,.int .i64 g.cap]) ∧ Blk w' b2 [.int .i64 ((xs[k]'hi1).op),.int .i64 (((xs[k]'hi1).stamp).epoch),.int .i64 (((xs[k]'hi1).stamp).turn),.int .i64 ((xs[k]'hi1).key),.int .i64 ((xs[k]'hi1).val)]) ?_ ?_))
  ·refine Ym (gd:=16) Z Z (fun hg1=>?_) (fun hg1=>?_)
   ·refine Qc Z Z Z Z (Qc Z Z Z Z (Qc Z Z Z Z ?_))
    refine Q1 Z Z Z Z ?_
    refine Qc Z Z Z Z (Qa (Qr Z Z) Z (Ql ⟨Z,Z,Z,Z,Z,Z,Z,Z,Z,congrArg (fun b=>some (Value.bool b)) (show true = ((!(Yn (xs[k]'hi1))) || (!(Xd g ((xs[k]'hi1).op)))) by first | (rw [hg1] <;> rfl) | (simp [hg1];done) | (simp only [Qp] <;> simp)),trivial⟩ ⟨E,(by omega),h1,h2⟩))
   ·refine Qk Z Z (Qo Xt Z h1.at Z) Z (Qk Z Z (Qd Uv Z) Z (Qk Z Z (Qj Y6 Z (h2.one 0 Z)) Z ?_))
    refine Y3 Z Z ?_
    refine Qv Tryz.call58 Z (c_isNode [o1,.int .i64 g.workers,.int .i64 g.cap] g ((xs[k]'hi1).op) _ (Graph.mkR g (RdD.any (hd1.ext E)))) Z (fun _ w7 e4 hv=>?_)
    subst hv
    replace E:=E.trans e4;replace h1:=h1.ext e4;replace h2:=h2.ext e4
    have z6:=e4.size
    refine Qk Z Z (Y1 Z) Z (Qa (Qq Z Z) Z (Ql ⟨Z,Z,Z,Z,Z,Z,Z,Z,Z,congrArg (fun b=>some (Value.bool b)) (show (!(Xd g ((xs[k]'hi1).op))) = ((!(Yn (xs[k]'hi1))) || (!(Xd g ((xs[k]'hi1).op)))) by first | (rw [hg1] <;> rfl) | (simp [hg1];done) | (simp only [Qp] <;> simp)),trivial⟩ ⟨E,(by omega),h1,h2⟩))
  clear E h1 h2
  rintro w6 ⟨E,z7,h1,h2⟩
  refine Qf (Qw Z (fun hc2=>?_) (fun hc2=>?_))
  ·refine Qh (Qi [true] Z Z (Qa (Qg Z) Z (Qf (Qx (Qz (Xb (Qz (Q0 Z Z E ?_))))))))
   exact all_no (by assumption) (kx hc2)
  ·refine Qy (Yb (Yv (Qi [true,true] Z Z (Qa (Yw Z Z (Y7 hc1n hxs.1)) Z (Qa (Qe Z) Z (Qf (Yb (Yy (k + 1) (by omega) ⟨Z,Z,Z,Z,Z,trivial⟩ ⟨E,(by omega),h1,(by omega),Ux hI (by assumption) (ky hc2)⟩))))))))
 ·have hc1n : ¬ k < xs.length:=by first | (have h:=of_decide_eq_false hc1;omega) | (have h:=hc1;simp at h;omega)
  refine Xl (Ys (Yj ?_))
  refine Qh (Qi [true] Z Z (Qa (Qg Z) Z (Qf (Qx (Q0 Z Z E ?_)))))
  exact all_yes hI (by omega)

set_option maxRecDepth 20000 in
theorem s_l12Records (cg : List Value) (g : Graph) (vxs : Value) (xs : List Record) (w : World) (hg : Dat.R w 0 w.heap.size cg g) (hxs : RdS w vxs xs) : Ct Tryz.prog 46 [.agg cg.toArray,vxs] w (fun v _=>v = .bool (xs.all (X6 g))):=by
 refine Yx Tryz.func46 Z Tryz.ntmps46 Z ?_
 obtain ⟨o1,rfl,hd1⟩:=Graph.op hg
 refine Yh [(0,.agg [o1,.int .i64 g.workers,.int .i64 g.cap].toArray),(1,vxs)] ⟨Z,Z,trivial⟩ ?_
 have E : Ext w w:=Ext.refl w
 refine Qh (Qi [false,true] Z Z (Y5 Z Z (fun b1 w1 e1 s1 h1=>?_)))
 have g_b1 : w.heap.size ≤ b1:=by have:=E.size;omega
 have y_b1:=h1.lt
 replace E:=E.trans e1
 have z1:=e1.size
 refine Qa (Qg Z) Z (Qf (Qh (Qh (Qi [true] Z Z (Qa (Qg Z) Z (Qf (Q9 (Xk (fun (k : Nat)=>[(1,vxs),(2,.pointer (some ⟨b1,0,none⟩)),(4,.bool false),(5,.int .i64 ((k : Nat) : Int))]) (fun (k : Nat) w'=>Ext w w' ∧ w1.heap.size ≤ w'.heap.size ∧ Blk w' b1 ([o1,.int .i64 g.workers,.int .i64 g.cap]) ∧ k ≤ xs.length ∧ (xs.take k).all (X6 g) = true) (fun (k : Nat)=>xs.length - k) 0 ⟨Z,Z,Z,Z,trivial⟩ ⟨E,Nat.le_refl _,h1,Nat.zero_le _,Z⟩ ?_))))))))
 clear E h1
 rintro k w2 ⟨E,z2,h1,hk,hI⟩
 refine Qh (Qh (Qi [true,true,true,true] Z Z (Qa (Qe Z) Z (Qa (Qe Z) Z (Qa (Yg Tryz.underlying27 Z (hxs.ext E).len) Z (Qa (Xn Z Z) Z (Qf (Qw Z (fun hc1=>?_) (fun hc1=>?_)))))))))
 ·have hc1n : k < xs.length:=by first | (have h:=of_decide_eq_true hc1;omega) | (have h:=hc1;simp at h;omega)
  refine Qy (Qh (Q9 (Qh (Xu Xo [(0,true),(1,true),(2,true),(3,true),(4,false),(5,true),(6,true),(7,true),(8,true),(9,true),(10,true),(11,true),(12,true),(13,true),(14,true),(15,true),(16,true)] (by decide +kernel) Z (fun w3 e2=>?_)))))
  replace E:=E.trans e2;replace h1:=h1.ext e2
  have z3:=e2.size
  refine Qa (Qe Z) Z (Qa (Qe Z) Z ?_)
  have hi1 : k < xs.length:=(by first | assumption | omega | (simp only [List.length_set];first | assumption | omega) | (simp only [List.getElem_set_self,List.length_set];first | assumption | omega) | (simp only [Xc,Yp,List.length_set];first | assumption | omega) | (simp;done))
  refine Qa (Ye (i:=k) X3 Z Z (hxs.ext E) hi1) Z (Qa (Qo Xh Z ((hxs.ext E).get hi1) Z) Z (Qv Tryz.call64 Z (s_RecordOk (xs[k]'hi1) _ ) Z (fun _ w4 e3 hv=>?_)))
  subst hv
  replace E:=E.trans e3;replace h1:=h1.ext e3
  have z4:=e3.size
  refine Qa (Y1 Z) Z (Qa (Qe Z) Z (Xg 10 [(1,vxs),(2,.pointer (some ⟨b1,0,none⟩)),(4,.bool false),(5,.int .i64 ((k : Nat) : Int)),(6,.int .i64 ((k : Nat) : Int)),(7,vxs),(8,.int .i64 ((xs.length : Nat) : Int)),(9,.bool (decide (((k : Nat) : Int) < ((xs.length : Nat) : Int)))),(28,.bool ((!(Yn (xs[k]'hi1))) || (decide (((g.nodes.length : Nat) : Int) ≤ ((xs[k]'hi1).op)))))] (fun w'=>w4 = w') ?_ ?_))
  ·refine Ym (gd:=18) Z Z (fun hg1=>?_) (fun hg1=>?_)
   ·refine Qc Z Z Z Z (Qc Z Z Z Z (Qc Z Z Z Z (Qc Z Z Z Z (Qc Z Z Z Z (Qc Z Z Z Z (Qc Z Z Z Z (Qc Z Z Z Z (Qc Z Z Z Z (Qa (Qr Z Z) Z (Ql ⟨Z,Z,Z,Z,Z,Z,Z,Z,congrArg (fun b=>some (Value.bool b)) (show true = ((!(Yn (xs[k]'hi1))) || (decide (((g.nodes.length : Nat) : Int) ≤ ((xs[k]'hi1).op)))) by first | (rw [hg1] <;> rfl) | (simp [hg1];done) | (simp only [Qp] <;> simp)),trivial⟩ Z))))))))))
   ·refine Qk Z Z (Qe Z) Z (Qk Z Z (Qe Z) Z (Qk Z Z (Ye (i:=k) X3 Z Z (hxs.ext E) hi1) Z (Qk Z Z (Yt Uv Z) Z (Qk Z Z (Qj Y6 Z (((hxs.ext E).get hi1).one 0 Z)) Z (Qk Z Z (Qd Kr Z) Z (Qk Z Z (Qj V0 Z (h1.one 0 Z)) Z (Qk Z Z (Yg Tryz.underlying24 Z (hd1.ext E).len) Z (Qk Z Z (Hf Z Z) Z (Qa (Qq Z Z) Z (Ql ⟨Z,Z,Z,Z,Z,Z,Z,Z,congrArg (fun b=>some (Value.bool b)) (show (decide (((g.nodes.length : Nat) : Int) ≤ ((xs[k]'hi1).op))) = ((!(Yn (xs[k]'hi1))) || (decide (((g.nodes.length : Nat) : Int) ≤ ((xs[k]'hi1).op)))) by first | (rw [hg1] <;> rfl) | (simp [hg1];done) | (simp only [Qp] <;> simp)),trivial⟩ Z))))))))))
  rintro _ rfl
  refine Qf (Qw Z (fun hc2=>?_) (fun hc2=>?_))
  ·refine Qh (Qi [true] Z Z (Qa (Qg Z) Z (Qf (Qx (Qz (Xb (Qz (Q0 Z Z E ?_))))))))
   exact all_no (by assumption) (op_no hc2)
  ·refine Qy (Yb (Yv (Qi [true,true,true] Z Z (Qa (Qe Z) Z (Qa (Yw Z Z (Y7 hc1n hxs.1)) Z (Qa (Qg Z) Z (Qf (Yb (Yy (k + 1) (by omega) ⟨Z,Z,Z,Z,trivial⟩ ⟨E,(by omega),h1,(by omega),Ux hI (by assumption) (op_yes hc2)⟩)))))))))
 ·have hc1n : ¬ k < xs.length:=by first | (have h:=of_decide_eq_false hc1;omega) | (have h:=hc1;simp at h;omega)
  refine Xl (Ys (Yj ?_))
  refine Qh (Qi [true] Z Z (Qa (Qg Z) Z (Qf (Qx (Q0 Z Z E ?_)))))
  exact all_yes hI (by omega)

end Go.Proofs.YteljajfcppmeiaaGreat
