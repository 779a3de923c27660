/- What the functions that the laws call come to: a contract each; no condition. -/
import Derived.Test.YteljajfcppmeiaaGreatFns4
namespace Go.Proofs.YteljajfcppmeiaaGreat
open Go Go.Proofs.YteljajfcppmeiaaGreat.X Go.Proofs
set_option maxRecDepth 20000 in
theorem l_sameInts (vxs : Value) (xs : List Int) (vys : Value) (ys : List Int) (w : World) (hxs : RdS w vxs xs) (hys : RdS w vys ys) : Ct Tryz.prog 38 [vxs,vys] w (fun v _=>v = .bool (decide (xs = ys))):=by
 refine Yx Tryz.func38 Z Tryz.ntmps38 Z ?_
 refine Yh [(0,vxs),(1,vys)] ⟨Z,Z,trivial⟩ ?_
 have E : Ext w w:=Ext.refl w
 refine Qh (Qi [true] Z Z (Qa (Qg Z) Z (Qf (Qh (Qh (Qi [true,true,true,true,true] Z Z (Qa (Qe Z) Z (Qa (Yg Tryz.underlying29 Z (hxs.ext E).len) Z (Qa (Qe Z) Z (Qa (Yg Tryz.underlying29 Z (hys.ext E).len) Z (Qa (Xs Z Z) Z (Qf (Qw Z (fun hc1=>?_) (fun hc1=>?_))))))))))))))
 ·have hc1n : ¬ xs.length = ys.length:=by first | (have h:=of_decide_eq_true hc1;omega) | (have h:=hc1;simp at h;omega)
  refine Qh (Qi [true] Z Z (Qa (Qg Z) Z (Qf (Qx (Q0 Z Z E ?_)))))
  simp [C4 hc1n]
 ·have hc1n : xs.length = ys.length:=by first | (have h:=of_decide_eq_false hc1;omega) | (have h:=hc1;simp at h;omega)
  refine Qy (Qh (Qh (Qi [true] Z Z (Qa (Qg Z) Z (Qf (Q9 (Xk (fun (k : Nat)=>[(0,vxs),(1,vys),(4,.bool false),(5,.int .i64 ((k : Nat) : Int))]) (fun (k : Nat) w'=>Ext w w' ∧ w.heap.size ≤ w'.heap.size ∧ k ≤ xs.length ∧ xs.take k = ys.take k) (fun (k : Nat)=>xs.length - k) 0 ⟨Z,Z,Z,Z,trivial⟩ ⟨E,Nat.le_refl _,Nat.zero_le _,Z⟩ ?_)))))))
  clear E
  rintro k w1 ⟨E,z1,hk,hp⟩
  refine Qh (Qh (Qi [true,true,true,true] Z Z (Qa (Qe Z) Z (Qa (Qe Z) Z (Qa (Yg Tryz.underlying29 Z (hxs.ext E).len) Z (Qa (Xn Z Z) Z (Qf (Qw Z (fun hc2=>?_) (fun hc2=>?_)))))))))
  ·have hc2n : k < xs.length:=by first | (have h:=of_decide_eq_true hc2;omega) | (have h:=hc2;simp at h;omega)
   refine Qy (Qh (Q9 (Qh (Xu Xo [(0,true),(1,true),(2,true),(3,true),(4,true),(5,true),(6,true),(7,true),(8,true)] (by decide +kernel) Z (fun w2 e1=>?_)))))
   replace E:=E.trans e1
   have z2:=e1.size
   refine Qa (Qe Z) Z (Qa (Qe Z) Z ?_)
   have hi1 : k < xs.length:=(by first | assumption | omega | (simp only [List.length_set];first | assumption | omega) | (simp only [List.getElem_set_self,List.length_set];first | assumption | omega) | (simp only [Xc,Yp,List.length_set];first | assumption | omega) | (simp;done))
   refine Qa (Ye (i:=k) Ke Z Z (hxs.ext E) hi1) Z (Qa (Qj Y6 Z (((hxs.ext E).get hi1).one 0 Z)) Z (Qa (Qe Z) Z (Qa (Qe Z) Z ?_)))
   have hi2 : k < ys.length:=(by first | assumption | omega | (simp only [List.length_set];first | assumption | omega) | (simp only [List.getElem_set_self,List.length_set];first | assumption | omega) | (simp only [Xc,Yp,List.length_set];first | assumption | omega) | (simp;done))
   refine Qa (Ye (i:=k) Ke Z Z (hys.ext E) hi2) Z (Qa (Qj Y6 Z (((hys.ext E).get hi2).one 0 Z)) Z (Qa (Xs Z Z) Z (Qf (Qw Z (fun hc3=>?_) (fun hc3=>?_)))))
   ·refine Qh (Qi [true] Z Z (Qa (Qg Z) Z (Qf (Qx (Qz (Xb (Qz (Q0 Z Z E ?_))))))))
    exact C5 (by omega) (by omega) (by simpa using hc3)
   ·refine Qy (Yb (Yv (Qi [true,true,true] Z Z (Qa (Qe Z) Z (Qa (Yw Z Z (Y7 hc2n hxs.1)) Z (Qa (Qg Z) Z (Qf (Yb (Yy (k + 1) (by omega) ⟨Z,Z,Z,Z,trivial⟩ ⟨E,(by omega),(by omega),Hb hp (by assumption) (by omega) (by simpa using hc3)⟩)))))))))
  ·have hc2n : ¬ k < xs.length:=by first | (have h:=of_decide_eq_false hc2;omega) | (have h:=hc2;simp at h;omega)
   refine Xl (Ys (Yj ?_))
   refine Qh (Qi [true] Z Z (Qa (Qg Z) Z (Qf (Qx (Q0 Z Z E ?_)))))
   exact Ti hp hc1n (by omega)

set_option maxRecDepth 20000 in
theorem s_l02Stamp (lo : Nat) (vb : Value) (bs : List Byt) (w : World) (hcu : CurO w lo vb bs) (hbs : RdD w 0 lo vb bs) : CtR Tryz.prog 94 [.pointer (some ⟨lo,0,none⟩)] w lo (lo + 1) (fun v w'=>∃ (dr0 : Stamp),CurO w' lo vb bs ∧ v = .agg (Enc.enc dr0).toArray):=by
 have y_lo:=CurO.lt hcu
 refine U2 Tryz.func94 Z Tryz.ntmps94 Z ?_
 refine Yh [(0,.pointer (some ⟨lo,0,none⟩))] ⟨Z,trivial⟩ ?_
 have E : ModR w w lo (lo + 1):=ModR.refl w lo (lo + 1)
 refine Qh (Qi [false] Z Z (Q6 X2 Z (fun b1 w1 e1 s1 h1=>?_)))
 have g_b1 : w.heap.size ≤ b1:=by have:=E.size;omega
 have y_b1:=h1.lt
 replace E:=E.ext e1;replace hcu:=hcu.ext e1
 have z1:=e1.size
 refine Qf (Qh (Qi [true,false,true,false,true,false] Z Z (Qa (Qe Z) Z (Yu Tryz.call70 Z Z (s_l01Below lo vb bs 4 _ hcu (RdD.modR hbs E (.inl (Nat.le_refl _)))) Z (fun _ w2 e2 hv=>?_)))))
 obtain ⟨dx1,q1,q2,hcu',hv⟩:=hv
 replace hcu:=hcu'
 subst hv
 replace E:=E.trans e2 (by omega) (by omega);replace h1:=h1.modR e2 (by omega)
 have z2:=e2.size
 refine Qa (Qe Z) Z (Yu Tryz.call70 Z Z (s_l01Below lo vb bs 5 _ hcu (RdD.modR hbs E (.inl (Nat.le_refl _)))) Z (fun _ w3 e3 hv=>?_))
 obtain ⟨dx2,q3,q4,hcu',hv⟩:=hv
 replace hcu:=hcu'
 subst hv
 replace E:=E.trans e3 (by omega) (by omega);replace h1:=h1.modR e3 (by omega)
 have z3:=e3.size
 refine Qa (Kl (⟨((dx1 : Nat) : Int),((dx2 : Nat) : Int)⟩ : Stamp) Z (fun _=>by kernel_rfl)) Z (Qs (cs':=[.int .i64 ((⟨((dx1 : Nat) : Int),((dx2 : Nat) : Int)⟩ : Stamp).epoch),.int .i64 ((⟨((dx1 : Nat) : Int),((dx2 : Nat) : Int)⟩ : Stamp).turn)]) X2 Z Z Z Z h1 (Nat.le_of_ble_eq_true Z) Z (fun w4 m1 h1'=>?_))
 replace h1:=h1'
 replace E:=E.mod m1 (fun g hg=>by cases hg;omega);replace hcu:=hcu.mod m1 (fun g hg=>by cases hg;omega)
 have z4:=m1.size
 refine Qf (Qx (Y8 Z Z (Qu X2 h1.at Z) E ?_))
 exact ⟨(⟨((dx1 : Nat) : Int),((dx2 : Nat) : Int)⟩ : Stamp),hcu,Z⟩

set_option maxHeartbeats 4000000 in
set_option maxRecDepth 20000 in
theorem s_l02Any (lo : Nat) (vb : Value) (bs : List Byt) (w : World) (hcu : CurO w lo vb bs) (hbs : RdD w 0 lo vb bs) : CtR Tryz.prog 89 [.pointer (some ⟨lo,0,none⟩)] w lo (lo + 1) (fun v w'=>∃ (dr0 : Stamp),CurO w' lo vb bs ∧ v = .agg (Enc.enc dr0).toArray):=by
 have y_lo:=CurO.lt hcu
 refine U2 Tryz.func89 Z Tryz.ntmps89 Z ?_
 refine Yh [(0,.pointer (some ⟨lo,0,none⟩))] ⟨Z,trivial⟩ ?_
 have E : ModR w w lo (lo + 1):=ModR.refl w lo (lo + 1)
 refine Qh (Qi [false] Z Z (Q6 X2 Z (fun b1 w1 e1 s1 h1=>?_)))
 have g_b1 : w.heap.size ≤ b1:=by have:=E.size;omega
 have y_b1:=h1.lt
 replace E:=E.ext e1;replace hcu:=hcu.ext e1
 have z1:=e1.size
 refine Qf (Qh (Qi [true,false,false,false] Z Z (Qa (Qe Z) Z (Yu Tryz.call94 Z Z (s_l02Stamp lo vb bs _ hcu (RdD.modR hbs E (.inl (Nat.le_refl _)))) Z (fun _ w2 e2 hv=>?_)))))
 obtain ⟨dx1,hcu',hv⟩:=hv
 replace hcu:=hcu'
 subst hv
 replace E:=E.trans e2 (by omega) (by omega);replace h1:=h1.modR e2 (by omega)
 have z2:=e2.size
 refine Q6 X2 Z (fun b2 w3 e3 s2 h2=>?_)
 have g_b2 : w.heap.size ≤ b2:=by have:=E.size;omega
 have y_b2:=h2.lt
 replace E:=E.ext e3;replace hcu:=hcu.ext e3;replace h1:=h1.ext e3
 have z3:=e3.size
 refine Qs (cs':=[.int .i64 dx1.epoch,.int .i64 dx1.turn]) X2 Z Z Z Z h2 (Nat.le_of_ble_eq_true Z) Z (fun w4 m1 h2'=>?_)
 replace h2:=h2'
 replace E:=E.mod m1 (fun g hg=>by cases hg;omega);replace hcu:=hcu.mod m1 (fun g hg=>by cases hg;omega);replace h1:=h1.mod m1 (fun g hg=>by cases hg;omega)
 have z4:=m1.size
 refine Qf (Qh (Qh (Qi [true,false] Z Z (Qa (Qe Z) Z (Yu Tryz.call70 Z Z (s_l01Below lo vb bs 10 _ hcu (RdD.modR hbs E (.inl (Nat.le_refl _)))) Z (fun _ w5 e4 hv=>?_))))))
 obtain ⟨dx2,q1,q2,hcu',hv⟩:=hv
 replace hcu:=hcu'
 subst hv
 replace E:=E.trans e4 (by omega) (by omega);replace h1:=h1.modR e4 (by omega);replace h2:=h2.modR e4 (by omega)
 have z5:=e4.size
 refine Qf (Q9 (Qh (Qi [true,true] Z Z (Qa (Yq Z Z) Z (Qa (Qg Z) Z (Qf (Qw Z (fun hc1=>?_) (fun hc1=>?_))))))))
 ·have hc1n : dx2 = 0:=by first | (have h:=of_decide_eq_true hc1;omega) | (have h:=hc1;simp at h;omega)
  refine Qi [true,false,false,true,false] Z Z (Qa (Qe Z) Z (Q8 (vs:=[.int .i64 (-1),.int .i64 3,.int .i64 4,.int .i64 9223372036854775807]) (css:=[[.int .i64 (-1)],[.int .i64 3],[.int .i64 4],[.int .i64 9223372036854775807]]) Ke Z Z ⟨⟨Z,Z⟩,⟨Z,Z⟩,⟨Z,Z⟩,⟨Z,Z⟩,trivial⟩ Z Z (fun b3 w6 e5 s3 h3=>?_)))
  replace h3 : Blk w6 b3 [.int .i64 (-1),.int .i64 3,.int .i64 4,.int .i64 9223372036854775807]:=h3
  have g_b3 : w.heap.size ≤ b3:=by have:=E.size;omega
  have y_b3:=h3.lt
  replace E:=E.ext e5;replace hcu:=hcu.ext e5;replace h1:=h1.ext e5;replace h2:=h2.ext e5
  have z6:=e5.size
  refine Yu Tryz.call75 Z Z (s_l01PickInt lo vb bs (.slice (some ⟨b3,0,none⟩) 4 4) [(-1),3,4,9223372036854775807] _ hcu (RdD.modR hbs E (.inl (Nat.le_refl _))) (fun wX eX=>(Blk.rd (α:=Int) (xs:=[(-1),3,4,9223372036854775807]) (by decide) (Blk.modR h3 eX (by omega)) Z (by simp [maxLen]))) (by decide)) Z (fun _ w7 e6 hv=>?_)
  obtain ⟨dx3,q3,hcu',hv⟩:=hv
  replace hcu:=hcu'
  subst hv
  replace E:=E.trans e6 (by omega) (by omega);replace h1:=h1.modR e6 (by omega);replace h2:=h2.modR e6 (by omega);replace h3:=h3.modR e6 (by omega)
  have z7:=e6.size
  refine Qa (Qd Vf Z) Z (Y4 (cs':=[.int .i64 dx3,.int .i64 dx1.turn]) Y6 Z Z Z h2 (Nat.le_of_ble_eq_true Z) Z (fun w8 m2 h2'=>?_))
  replace h2:=h2'
  replace E:=E.mod m2 (fun g hg=>by cases hg;omega);replace hcu:=hcu.mod m2 (fun g hg=>by cases hg;omega);replace h1:=h1.mod m2 (fun g hg=>by cases hg;omega);replace h3:=h3.mod m2 (fun g hg=>by cases hg;omega)
  have z8:=m2.size
  refine Qf (Yb (Yv (Qh (Qi [true,false] Z Z (Qa (Qo X2 Z h2.at Z) Z (Qs (cs':=[.int .i64 ((⟨dx3,dx1.turn⟩ : Stamp).epoch),.int .i64 ((⟨dx3,dx1.turn⟩ : Stamp).turn)]) X2 Z Z Z Z h1 (Nat.le_of_ble_eq_true Z) Z (fun w9 m3 h1'=>?_)))))))
  replace h1:=h1'
  replace E:=E.mod m3 (fun g hg=>by cases hg;omega);replace hcu:=hcu.mod m3 (fun g hg=>by cases hg;omega);replace h2:=h2.mod m3 (fun g hg=>by cases hg;omega);replace h3:=h3.mod m3 (fun g hg=>by cases hg;omega)
  have z9:=m3.size
  refine Qf (Qx (Y8 Z Z (Qu X2 h1.at Z) E ?_))
  exact ⟨(⟨dx3,dx1.turn⟩ : Stamp),hcu,Z⟩
 ·have hc1n : ¬ dx2 = 0:=by first | (have h:=of_decide_eq_false hc1;omega) | (have h:=hc1;simp at h;omega)
  refine Qh (Qi [true,true] Z Z (Qa (Yq Z Z) Z (Qa (Qg Z) Z (Qf (Qw Z (fun hc2=>?_) (fun hc2=>?_))))))
  ·have hc2n : dx2 = 1:=by first | (have h:=of_decide_eq_true hc2;omega) | (have h:=hc2;simp at h;omega)
   refine Qi [true,false,false,true,false] Z Z (Qa (Qe Z) Z (Q8 (vs:=[.int .i64 (-1),.int .i64 5,.int .i64 6,.int .i64 7,.int .i64 (-9223372036854775808)]) (css:=[[.int .i64 (-1)],[.int .i64 5],[.int .i64 6],[.int .i64 7],[.int .i64 (-9223372036854775808)]]) Ke Z Z ⟨⟨Z,Z⟩,⟨Z,Z⟩,⟨Z,Z⟩,⟨Z,Z⟩,⟨Z,Z⟩,trivial⟩ Z Z (fun b4 w10 e7 s4 h4=>?_)))
   replace h4 : Blk w10 b4 [.int .i64 (-1),.int .i64 5,.int .i64 6,.int .i64 7,.int .i64 (-9223372036854775808)]:=h4
   have g_b4 : w.heap.size ≤ b4:=by have:=E.size;omega
   have y_b4:=h4.lt
   replace E:=E.ext e7;replace hcu:=hcu.ext e7;replace h1:=h1.ext e7;replace h2:=h2.ext e7
   have z10:=e7.size
   refine Yu Tryz.call75 Z Z (s_l01PickInt lo vb bs (.slice (some ⟨b4,0,none⟩) 5 5) [(-1),5,6,7,(-9223372036854775808)] _ hcu (RdD.modR hbs E (.inl (Nat.le_refl _))) (fun wX eX=>(Blk.rd (α:=Int) (xs:=[(-1),5,6,7,(-9223372036854775808)]) (by decide) (Blk.modR h4 eX (by omega)) Z (by simp [maxLen]))) (by decide)) Z (fun _ w11 e8 hv=>?_)
   obtain ⟨dx4,q4,hcu',hv⟩:=hv
   replace hcu:=hcu'
   subst hv
   replace E:=E.trans e8 (by omega) (by omega);replace h1:=h1.modR e8 (by omega);replace h2:=h2.modR e8 (by omega);replace h4:=h4.modR e8 (by omega)
   have z11:=e8.size
   refine Qa (Qd Vv Z) Z (Y4 (cs':=[.int .i64 dx1.epoch,.int .i64 dx4]) Y6 Z Z Z h2 (Nat.le_of_ble_eq_true Z) Z (fun w12 m4 h2'=>?_))
   replace h2:=h2'
   replace E:=E.mod m4 (fun g hg=>by cases hg;omega);replace hcu:=hcu.mod m4 (fun g hg=>by cases hg;omega);replace h1:=h1.mod m4 (fun g hg=>by cases hg;omega);replace h4:=h4.mod m4 (fun g hg=>by cases hg;omega)
   have z12:=m4.size
   refine Qf (Yb (Yv (Qh (Qi [true,false] Z Z (Qa (Qo X2 Z h2.at Z) Z (Qs (cs':=[.int .i64 ((⟨dx1.epoch,dx4⟩ : Stamp).epoch),.int .i64 ((⟨dx1.epoch,dx4⟩ : Stamp).turn)]) X2 Z Z Z Z h1 (Nat.le_of_ble_eq_true Z) Z (fun w13 m5 h1'=>?_)))))))
   replace h1:=h1'
   replace E:=E.mod m5 (fun g hg=>by cases hg;omega);replace hcu:=hcu.mod m5 (fun g hg=>by cases hg;omega);replace h2:=h2.mod m5 (fun g hg=>by cases hg;omega);replace h4:=h4.mod m5 (fun g hg=>by cases hg;omega)
   have z13:=m5.size
   refine Qf (Qx (Y8 Z Z (Qu X2 h1.at Z) E ?_))
   exact ⟨(⟨dx1.epoch,dx4⟩ : Stamp),hcu,Z⟩
  ·have hc2n : ¬ dx2 = 1:=by first | (have h:=of_decide_eq_false hc2;omega) | (have h:=hc2;simp at h;omega)
   refine Qy (Yb (Yv (Qh (Qi [true,false] Z Z (Qa (Qo X2 Z h2.at Z) Z (Qs (cs':=[.int .i64 dx1.epoch,.int .i64 dx1.turn]) X2 Z Z Z Z h1 (Nat.le_of_ble_eq_true Z) Z (fun w14 m6 h1'=>?_)))))))
   replace h1:=h1'
   replace E:=E.mod m6 (fun g hg=>by cases hg;omega);replace hcu:=hcu.mod m6 (fun g hg=>by cases hg;omega);replace h2:=h2.mod m6 (fun g hg=>by cases hg;omega)
   have z14:=m6.size
   refine Qf (Qx (Y8 Z Z (Qu X2 h1.at Z) E ?_))
   exact ⟨dx1,hcu,Z⟩

set_option maxRecDepth 20000 in
theorem s_l05Record (lo : Nat) (vb : Value) (bs : List Byt) (w : World) (hcu : CurO w lo vb bs) (hbs : RdD w 0 lo vb bs) : CtR Tryz.prog 74 [.pointer (some ⟨lo,0,none⟩)] w lo (lo + 1) (fun v w'=>∃ (dr0 : Record),CurO w' lo vb bs ∧ v = .agg (Enc.enc dr0).toArray):=by
 have y_lo:=CurO.lt hcu
 refine U2 Tryz.func74 Z Tryz.ntmps74 Z ?_
 refine Yh [(0,.pointer (some ⟨lo,0,none⟩))] ⟨Z,trivial⟩ ?_
 have E : ModR w w lo (lo + 1):=ModR.refl w lo (lo + 1)
 refine Qh (Qi [false] Z Z (Q6 Xh Z (fun b1 w1 e1 s1 h1=>?_)))
 have g_b1 : w.heap.size ≤ b1:=by have:=E.size;omega
 have y_b1:=h1.lt
 replace E:=E.ext e1;replace hcu:=hcu.ext e1
 have z1:=e1.size
 refine Qf (Qh (Qi [true,false,true,false,true,false,true,false,true,false] Z Z (Qa (Qe Z) Z (Yu Tryz.call70 Z Z (s_l01Below lo vb bs 5 _ hcu (RdD.modR hbs E (.inl (Nat.le_refl _)))) Z (fun _ w2 e2 hv=>?_)))))
 obtain ⟨dx1,q1,q2,hcu',hv⟩:=hv
 replace hcu:=hcu'
 subst hv
 replace E:=E.trans e2 (by omega) (by omega);replace h1:=h1.modR e2 (by omega)
 have z2:=e2.size
 refine Qa (Qe Z) Z (Yu Tryz.call94 Z Z (s_l02Stamp lo vb bs _ hcu (RdD.modR hbs E (.inl (Nat.le_refl _)))) Z (fun _ w3 e3 hv=>?_))
 obtain ⟨dx2,hcu',hv⟩:=hv
 replace hcu:=hcu'
 subst hv
 replace E:=E.trans e3 (by omega) (by omega);replace h1:=h1.modR e3 (by omega)
 have z3:=e3.size
 refine Qa (Qe Z) Z (Yu Tryz.call70 Z Z (s_l01Below lo vb bs 12 _ hcu (RdD.modR hbs E (.inl (Nat.le_refl _)))) Z (fun _ w4 e4 hv=>?_))
 obtain ⟨dx3,q3,q4,hcu',hv⟩:=hv
 replace hcu:=hcu'
 subst hv
 replace E:=E.trans e4 (by omega) (by omega);replace h1:=h1.modR e4 (by omega)
 have z4:=e4.size
 refine Qa (Qe Z) Z (Yu Tryz.call70 Z Z (s_l01Below lo vb bs 40 _ hcu (RdD.modR hbs E (.inl (Nat.le_refl _)))) Z (fun _ w5 e5 hv=>?_))
 obtain ⟨dx4,q5,q6,hcu',hv⟩:=hv
 replace hcu:=hcu'
 subst hv
 replace E:=E.trans e5 (by omega) (by omega);replace h1:=h1.modR e5 (by omega)
 have z5:=e5.size
 refine Qa (Kl (⟨((dx1 : Nat) : Int),dx2,((dx3 : Nat) : Int),((dx4 : Nat) : Int)⟩ : Record) Z (fun _=>by kernel_rfl)) Z (Qs (cs':=[.int .i64 ((⟨((dx1 : Nat) : Int),dx2,((dx3 : Nat) : Int),((dx4 : Nat) : Int)⟩ : Record).op),.int .i64 (((⟨((dx1 : Nat) : Int),dx2,((dx3 : Nat) : Int),((dx4 : Nat) : Int)⟩ : Record).stamp).epoch),.int .i64 (((⟨((dx1 : Nat) : Int),dx2,((dx3 : Nat) : Int),((dx4 : Nat) : Int)⟩ : Record).stamp).turn),.int .i64 ((⟨((dx1 : Nat) : Int),dx2,((dx3 : Nat) : Int),((dx4 : Nat) : Int)⟩ : Record).key),.int .i64 ((⟨((dx1 : Nat) : Int),dx2,((dx3 : Nat) : Int),((dx4 : Nat) : Int)⟩ : Record).val)]) Xh Z Z Z Z h1 (Nat.le_of_ble_eq_true Z) Z (fun w6 m1 h1'=>?_))
 replace h1:=h1'
 replace E:=E.mod m1 (fun g hg=>by cases hg;omega);replace hcu:=hcu.mod m1 (fun g hg=>by cases hg;omega)
 have z6:=m1.size
 refine Qf (Qx (Y8 Z Z (Qu Xh h1.at Z) E ?_))
 exact ⟨(⟨((dx1 : Nat) : Int),dx2,((dx3 : Nat) : Int),((dx4 : Nat) : Int)⟩ : Record),hcu,Z⟩

set_option maxHeartbeats 4000000 in
set_option maxRecDepth 20000 in
theorem s_l05Any (lo : Nat) (vb : Value) (bs : List Byt) (w : World) (hcu : CurO w lo vb bs) (hbs : RdD w 0 lo vb bs) : CtR Tryz.prog 69 [.pointer (some ⟨lo,0,none⟩)] w lo (lo + 1) (fun v w'=>∃ (dr0 : Record),CurO w' lo vb bs ∧ v = .agg (Enc.enc dr0).toArray):=by
 have y_lo:=CurO.lt hcu
 refine U2 Tryz.func69 Z Tryz.ntmps69 Z ?_
 refine Yh [(0,.pointer (some ⟨lo,0,none⟩))] ⟨Z,trivial⟩ ?_
 have E : ModR w w lo (lo + 1):=ModR.refl w lo (lo + 1)
 refine Qh (Qi [false] Z Z (Q6 Xh Z (fun b1 w1 e1 s1 h1=>?_)))
 have g_b1 : w.heap.size ≤ b1:=by have:=E.size;omega
 have y_b1:=h1.lt
 replace E:=E.ext e1;replace hcu:=hcu.ext e1
 have z1:=e1.size
 refine Qf (Qh (Qi [true,false,false,false] Z Z (Qa (Qe Z) Z (Yu Tryz.call74 Z Z (s_l05Record lo vb bs _ hcu (RdD.modR hbs E (.inl (Nat.le_refl _)))) Z (fun _ w2 e2 hv=>?_)))))
 obtain ⟨dx1,hcu',hv⟩:=hv
 replace hcu:=hcu'
 subst hv
 replace E:=E.trans e2 (by omega) (by omega);replace h1:=h1.modR e2 (by omega)
 have z2:=e2.size
 refine Q6 Xh Z (fun b2 w3 e3 s2 h2=>?_)
 have g_b2 : w.heap.size ≤ b2:=by have:=E.size;omega
 have y_b2:=h2.lt
 replace E:=E.ext e3;replace hcu:=hcu.ext e3;replace h1:=h1.ext e3
 have z3:=e3.size
 refine Qs (cs':=[.int .i64 dx1.op,.int .i64 dx1.stamp.epoch,.int .i64 dx1.stamp.turn,.int .i64 dx1.key,.int .i64 dx1.val]) Xh Z Z Z Z h2 (Nat.le_of_ble_eq_true Z) Z (fun w4 m1 h2'=>?_)
 replace h2:=h2'
 replace E:=E.mod m1 (fun g hg=>by cases hg;omega);replace hcu:=hcu.mod m1 (fun g hg=>by cases hg;omega);replace h1:=h1.mod m1 (fun g hg=>by cases hg;omega)
 have z4:=m1.size
 refine Qf (Qh (Qh (Qi [true,false] Z Z (Qa (Qe Z) Z (Yu Tryz.call70 Z Z (s_l01Below lo vb bs 12 _ hcu (RdD.modR hbs E (.inl (Nat.le_refl _)))) Z (fun _ w5 e4 hv=>?_))))))
 obtain ⟨dx2,q1,q2,hcu',hv⟩:=hv
 replace hcu:=hcu'
 subst hv
 replace E:=E.trans e4 (by omega) (by omega);replace h1:=h1.modR e4 (by omega);replace h2:=h2.modR e4 (by omega)
 have z5:=e4.size
 refine Qf (Q9 (Qh (Qi [true,true] Z Z (Qa (Yq Z Z) Z (Qa (Qg Z) Z (Qf (Qw Z (fun hc1=>?_) (fun hc1=>?_))))))))
 ·have hc1n : dx2 = 0:=by first | (have h:=of_decide_eq_true hc1;omega) | (have h:=hc1;simp at h;omega)
  refine Qi [true,false,false,true,false] Z Z (Qa (Qe Z) Z (Q8 (vs:=[.int .i64 (-1),.int .i64 7,.int .i64 8]) (css:=[[.int .i64 (-1)],[.int .i64 7],[.int .i64 8]]) Ke Z Z ⟨⟨Z,Z⟩,⟨Z,Z⟩,⟨Z,Z⟩,trivial⟩ Z Z (fun b3 w6 e5 s3 h3=>?_)))
  replace h3 : Blk w6 b3 [.int .i64 (-1),.int .i64 7,.int .i64 8]:=h3
  have g_b3 : w.heap.size ≤ b3:=by have:=E.size;omega
  have y_b3:=h3.lt
  replace E:=E.ext e5;replace hcu:=hcu.ext e5;replace h1:=h1.ext e5;replace h2:=h2.ext e5
  have z6:=e5.size
  refine Yu Tryz.call75 Z Z (s_l01PickInt lo vb bs (.slice (some ⟨b3,0,none⟩) 3 3) [(-1),7,8] _ hcu (RdD.modR hbs E (.inl (Nat.le_refl _))) (fun wX eX=>(Blk.rd (α:=Int) (xs:=[(-1),7,8]) (by decide) (Blk.modR h3 eX (by omega)) Z (by simp [maxLen]))) (by decide)) Z (fun _ w7 e6 hv=>?_)
  obtain ⟨dx3,q3,hcu',hv⟩:=hv
  replace hcu:=hcu'
  subst hv
  replace E:=E.trans e6 (by omega) (by omega);replace h1:=h1.modR e6 (by omega);replace h2:=h2.modR e6 (by omega);replace h3:=h3.modR e6 (by omega)
  have z7:=e6.size
  refine Qa (Qd Uv Z) Z (Y4 (cs':=[.int .i64 dx3,.int .i64 dx1.stamp.epoch,.int .i64 dx1.stamp.turn,.int .i64 dx1.key,.int .i64 dx1.val]) Y6 Z Z Z h2 (Nat.le_of_ble_eq_true Z) Z (fun w8 m2 h2'=>?_))
  replace h2:=h2'
  replace E:=E.mod m2 (fun g hg=>by cases hg;omega);replace hcu:=hcu.mod m2 (fun g hg=>by cases hg;omega);replace h1:=h1.mod m2 (fun g hg=>by cases hg;omega);replace h3:=h3.mod m2 (fun g hg=>by cases hg;omega)
  have z8:=m2.size
  refine Qf (Yb (Yv (Qh (Qi [true,false] Z Z (Qa (Qo Xh Z h2.at Z) Z (Qs (cs':=[.int .i64 ((⟨dx3,dx1.stamp,dx1.key,dx1.val⟩ : Record).op),.int .i64 (((⟨dx3,dx1.stamp,dx1.key,dx1.val⟩ : Record).stamp).epoch),.int .i64 (((⟨dx3,dx1.stamp,dx1.key,dx1.val⟩ : Record).stamp).turn),.int .i64 ((⟨dx3,dx1.stamp,dx1.key,dx1.val⟩ : Record).key),.int .i64 ((⟨dx3,dx1.stamp,dx1.key,dx1.val⟩ : Record).val)]) Xh Z Z Z Z h1 (Nat.le_of_ble_eq_true Z) Z (fun w9 m3 h1'=>?_)))))))
  replace h1:=h1'
  replace E:=E.mod m3 (fun g hg=>by cases hg;omega);replace hcu:=hcu.mod m3 (fun g hg=>by cases hg;omega);replace h2:=h2.mod m3 (fun g hg=>by cases hg;omega);replace h3:=h3.mod m3 (fun g hg=>by cases hg;omega)
  have z9:=m3.size
  refine Qf (Qx (Y8 Z Z (Qu Xh h1.at Z) E ?_))
  exact ⟨(⟨dx3,dx1.stamp,dx1.key,dx1.val⟩ : Record),hcu,Z⟩
 ·have hc1n : ¬ dx2 = 0:=by first | (have h:=of_decide_eq_false hc1;omega) | (have h:=hc1;simp at h;omega)
  refine Qh (Qi [true,true] Z Z (Qa (Yq Z Z) Z (Qa (Qg Z) Z (Qf (Qw Z (fun hc2=>?_) (fun hc2=>?_))))))
  ·have hc2n : dx2 = 1:=by first | (have h:=of_decide_eq_true hc2;omega) | (have h:=hc2;simp at h;omega)
   refine Qi [true,false,true,false] Z Z (Qa (Qe Z) Z (Yu Tryz.call89 Z Z (s_l02Any lo vb bs _ hcu (RdD.modR hbs E (.inl (Nat.le_refl _)))) Z (fun _ w10 e7 hv=>?_)))
   obtain ⟨dx4,hcu',hv⟩:=hv
   replace hcu:=hcu'
   subst hv
   replace E:=E.trans e7 (by omega) (by omega);replace h1:=h1.modR e7 (by omega);replace h2:=h2.modR e7 (by omega)
   have z10:=e7.size
   refine Qa (Qd Kz Z) Z (Qs (cs':=[.int .i64 dx1.op,.int .i64 dx4.epoch,.int .i64 dx4.turn,.int .i64 dx1.key,.int .i64 dx1.val]) X2 Z Z Z Z h2 (Nat.le_of_ble_eq_true Z) Z (fun w11 m4 h2'=>?_))
   replace h2:=h2'
   replace E:=E.mod m4 (fun g hg=>by cases hg;omega);replace hcu:=hcu.mod m4 (fun g hg=>by cases hg;omega);replace h1:=h1.mod m4 (fun g hg=>by cases hg;omega)
   have z11:=m4.size
   refine Qf (Yb (Yv (Qh (Qi [true,false] Z Z (Qa (Qo Xh Z h2.at Z) Z (Qs (cs':=[.int .i64 ((⟨dx1.op,dx4,dx1.key,dx1.val⟩ : Record).op),.int .i64 (((⟨dx1.op,dx4,dx1.key,dx1.val⟩ : Record).stamp).epoch),.int .i64 (((⟨dx1.op,dx4,dx1.key,dx1.val⟩ : Record).stamp).turn),.int .i64 ((⟨dx1.op,dx4,dx1.key,dx1.val⟩ : Record).key),.int .i64 ((⟨dx1.op,dx4,dx1.key,dx1.val⟩ : Record).val)]) Xh Z Z Z Z h1 (Nat.le_of_ble_eq_true Z) Z (fun w12 m5 h1'=>?_)))))))
   replace h1:=h1'
   replace E:=E.mod m5 (fun g hg=>by cases hg;omega);replace hcu:=hcu.mod m5 (fun g hg=>by cases hg;omega);replace h2:=h2.mod m5 (fun g hg=>by cases hg;omega)
   have z12:=m5.size
   refine Qf (Qx (Y8 Z Z (Qu Xh h1.at Z) E ?_))
   exact ⟨(⟨dx1.op,dx4,dx1.key,dx1.val⟩ : Record),hcu,Z⟩
  ·have hc2n : ¬ dx2 = 1:=by first | (have h:=of_decide_eq_false hc2;omega) | (have h:=hc2;simp at h;omega)
   refine Qh (Qi [true,true] Z Z (Qa (Yq Z Z) Z (Qa (Qg Z) Z (Qf (Qw Z (fun hc3=>?_) (fun hc3=>?_))))))
   ·have hc3n : dx2 = 2:=by first | (have h:=of_decide_eq_true hc3;omega) | (have h:=hc3;simp at h;omega)
    refine Qi [true,false,false,true,false] Z Z (Qa (Qe Z) Z (Q8 (vs:=[.int .i64 (-1),.int .i64 99,.int .i64 100,.int .i64 (-9223372036854775808)]) (css:=[[.int .i64 (-1)],[.int .i64 99],[.int .i64 100],[.int .i64 (-9223372036854775808)]]) Ke Z Z ⟨⟨Z,Z⟩,⟨Z,Z⟩,⟨Z,Z⟩,⟨Z,Z⟩,trivial⟩ Z Z (fun b4 w13 e8 s4 h4=>?_)))
    replace h4 : Blk w13 b4 [.int .i64 (-1),.int .i64 99,.int .i64 100,.int .i64 (-9223372036854775808)]:=h4
    have g_b4 : w.heap.size ≤ b4:=by have:=E.size;omega
    have y_b4:=h4.lt
    replace E:=E.ext e8;replace hcu:=hcu.ext e8;replace h1:=h1.ext e8;replace h2:=h2.ext e8
    have z13:=e8.size
    refine Yu Tryz.call75 Z Z (s_l01PickInt lo vb bs (.slice (some ⟨b4,0,none⟩) 4 4) [(-1),99,100,(-9223372036854775808)] _ hcu (RdD.modR hbs E (.inl (Nat.le_refl _))) (fun wX eX=>(Blk.rd (α:=Int) (xs:=[(-1),99,100,(-9223372036854775808)]) (by decide) (Blk.modR h4 eX (by omega)) Z (by simp [maxLen]))) (by decide)) Z (fun _ w14 e9 hv=>?_)
    obtain ⟨dx5,q4,hcu',hv⟩:=hv
    replace hcu:=hcu'
    subst hv
    replace E:=E.trans e9 (by omega) (by omega);replace h1:=h1.modR e9 (by omega);replace h2:=h2.modR e9 (by omega);replace h4:=h4.modR e9 (by omega)
    have z14:=e9.size
    refine Qa (Qd H1 Z) Z (Y4 (cs':=[.int .i64 dx1.op,.int .i64 dx1.stamp.epoch,.int .i64 dx1.stamp.turn,.int .i64 dx5,.int .i64 dx1.val]) Y6 Z Z Z h2 (Nat.le_of_ble_eq_true Z) Z (fun w15 m6 h2'=>?_))
    replace h2:=h2'
    replace E:=E.mod m6 (fun g hg=>by cases hg;omega);replace hcu:=hcu.mod m6 (fun g hg=>by cases hg;omega);replace h1:=h1.mod m6 (fun g hg=>by cases hg;omega);replace h4:=h4.mod m6 (fun g hg=>by cases hg;omega)
    have z15:=m6.size
    refine Qf (Yb (Yv (Qh (Qi [true,false] Z Z (Qa (Qo Xh Z h2.at Z) Z (Qs (cs':=[.int .i64 ((⟨dx1.op,dx1.stamp,dx5,dx1.val⟩ : Record).op),.int .i64 (((⟨dx1.op,dx1.stamp,dx5,dx1.val⟩ : Record).stamp).epoch),.int .i64 (((⟨dx1.op,dx1.stamp,dx5,dx1.val⟩ : Record).stamp).turn),.int .i64 ((⟨dx1.op,dx1.stamp,dx5,dx1.val⟩ : Record).key),.int .i64 ((⟨dx1.op,dx1.stamp,dx5,dx1.val⟩ : Record).val)]) Xh Z Z Z Z h1 (Nat.le_of_ble_eq_true Z) Z (fun w16 m7 h1'=>?_)))))))
    replace h1:=h1'
    replace E:=E.mod m7 (fun g hg=>by cases hg;omega);replace hcu:=hcu.mod m7 (fun g hg=>by cases hg;omega);replace h2:=h2.mod m7 (fun g hg=>by cases hg;omega);replace h4:=h4.mod m7 (fun g hg=>by cases hg;omega)
    have z16:=m7.size
    refine Qf (Qx (Y8 Z Z (Qu Xh h1.at Z) E ?_))
    exact ⟨(⟨dx1.op,dx1.stamp,dx5,dx1.val⟩ : Record),hcu,Z⟩
   ·have hc3n : ¬ dx2 = 2:=by first | (have h:=of_decide_eq_false hc3;omega) | (have h:=hc3;simp at h;omega)
    refine Qh (Qi [true,true] Z Z (Qa (Yq Z Z) Z (Qa (Qg Z) Z (Qf (Qw Z (fun hc4=>?_) (fun hc4=>?_))))))
    ·have hc4n : dx2 = 3:=by first | (have h:=of_decide_eq_true hc4;omega) | (have h:=hc4;simp at h;omega)
     refine Qi [true,false,false,true,false] Z Z (Qa (Qe Z) Z (Q8 (vs:=[.int .i64 (-1),.int .i64 999,.int .i64 1000,.int .i64 9223372036854775807]) (css:=[[.int .i64 (-1)],[.int .i64 999],[.int .i64 1000],[.int .i64 9223372036854775807]]) Ke Z Z ⟨⟨Z,Z⟩,⟨Z,Z⟩,⟨Z,Z⟩,⟨Z,Z⟩,trivial⟩ Z Z (fun b5 w17 e10 s5 h5=>?_)))
     replace h5 : Blk w17 b5 [.int .i64 (-1),.int .i64 999,.int .i64 1000,.int .i64 9223372036854775807]:=h5
     have g_b5 : w.heap.size ≤ b5:=by have:=E.size;omega
     have y_b5:=h5.lt
     replace E:=E.ext e10;replace hcu:=hcu.ext e10;replace h1:=h1.ext e10;replace h2:=h2.ext e10
     have z17:=e10.size
     refine Yu Tryz.call75 Z Z (s_l01PickInt lo vb bs (.slice (some ⟨b5,0,none⟩) 4 4) [(-1),999,1000,9223372036854775807] _ hcu (RdD.modR hbs E (.inl (Nat.le_refl _))) (fun wX eX=>(Blk.rd (α:=Int) (xs:=[(-1),999,1000,9223372036854775807]) (by decide) (Blk.modR h5 eX (by omega)) Z (by simp [maxLen]))) (by decide)) Z (fun _ w18 e11 hv=>?_)
     obtain ⟨dx6,q5,hcu',hv⟩:=hv
     replace hcu:=hcu'
     subst hv
     replace E:=E.trans e11 (by omega) (by omega);replace h1:=h1.modR e11 (by omega);replace h2:=h2.modR e11 (by omega);replace h5:=h5.modR e11 (by omega)
     have z18:=e11.size
     refine Qa (Qd H0 Z) Z (Y4 (cs':=[.int .i64 dx1.op,.int .i64 dx1.stamp.epoch,.int .i64 dx1.stamp.turn,.int .i64 dx1.key,.int .i64 dx6]) Y6 Z Z Z h2 (Nat.le_of_ble_eq_true Z) Z (fun w19 m8 h2'=>?_))
     replace h2:=h2'
     replace E:=E.mod m8 (fun g hg=>by cases hg;omega);replace hcu:=hcu.mod m8 (fun g hg=>by cases hg;omega);replace h1:=h1.mod m8 (fun g hg=>by cases hg;omega);replace h5:=h5.mod m8 (fun g hg=>by cases hg;omega)
     have z19:=m8.size
     refine Qf (Yb (Yv (Qh (Qi [true,false] Z Z (Qa (Qo Xh Z h2.at Z) Z (Qs (cs':=[.int .i64 ((⟨dx1.op,dx1.stamp,dx1.key,dx6⟩ : Record).op),.int .i64 (((⟨dx1.op,dx1.stamp,dx1.key,dx6⟩ : Record).stamp).epoch),.int .i64 (((⟨dx1.op,dx1.stamp,dx1.key,dx6⟩ : Record).stamp).turn),.int .i64 ((⟨dx1.op,dx1.stamp,dx1.key,dx6⟩ : Record).key),.int .i64 ((⟨dx1.op,dx1.stamp,dx1.key,dx6⟩ : Record).val)]) Xh Z Z Z Z h1 (Nat.le_of_ble_eq_true Z) Z (fun w20 m9 h1'=>?_)))))))
     replace h1:=h1'
     replace E:=E.mod m9 (fun g hg=>by cases hg;omega);replace hcu:=hcu.mod m9 (fun g hg=>by cases hg;omega);replace h2:=h2.mod m9 (fun g hg=>by cases hg;omega);replace h5:=h5.mod m9 (fun g hg=>by cases hg;omega)
     have z20:=m9.size
     refine Qf (Qx (Y8 Z Z (Qu Xh h1.at Z) E ?_))
     exact ⟨(⟨dx1.op,dx1.stamp,dx1.key,dx6⟩ : Record),hcu,Z⟩
    ·have hc4n : ¬ dx2 = 3:=by first | (have h:=of_decide_eq_false hc4;omega) | (have h:=hc4;simp at h;omega)
     refine Qy (Yb (Yv (Qh (Qi [true,false] Z Z (Qa (Qo Xh Z h2.at Z) Z (Qs (cs':=[.int .i64 dx1.op,.int .i64 dx1.stamp.epoch,.int .i64 dx1.stamp.turn,.int .i64 dx1.key,.int .i64 dx1.val]) Xh Z Z Z Z h1 (Nat.le_of_ble_eq_true Z) Z (fun w21 m10 h1'=>?_)))))))
     replace h1:=h1'
     replace E:=E.mod m10 (fun g hg=>by cases hg;omega);replace hcu:=hcu.mod m10 (fun g hg=>by cases hg;omega);replace h2:=h2.mod m10 (fun g hg=>by cases hg;omega)
     have z21:=m10.size
     refine Qf (Qx (Y8 Z Z (Qu Xh h1.at Z) E ?_))
     exact ⟨dx1,hcu,Z⟩

set_option maxHeartbeats 4000000 in
set_option maxRecDepth 20000 in
theorem s_l10Record (lo : Nat) (vb : Value) (bs : List Byt) (og : Value) (g : Graph) (w : World) (hcu : CurO w lo vb bs) (hbs : RdD w 0 lo vb bs) (hg : Stab w lo (fun w'=>RdD w' 0 w'.heap.size og g.nodes)) : CtR Tryz.prog 93 [.pointer (some ⟨lo,0,none⟩),.agg [og,.int .i64 g.workers,.int .i64 g.cap].toArray] w lo (lo + 1) (fun v w'=>∃ (dr0 : Record),CurO w' lo vb bs ∧ v = .agg (Enc.enc dr0).toArray):=by
 have y_lo:=CurO.lt hcu
 refine U2 Tryz.func93 Z Tryz.ntmps93 Z ?_
 refine Yh [(0,.pointer (some ⟨lo,0,none⟩)),(1,.agg [og,.int .i64 g.workers,.int .i64 g.cap].toArray)] ⟨Z,Z,trivial⟩ ?_
 have E : ModR w w lo (lo + 1):=ModR.refl w lo (lo + 1)
 refine Qh (Qi [false,false] Z Z (Y5 Z Z (fun b1 w1 e1 s1 h1=>?_)))
 have g_b1 : w.heap.size ≤ b1:=by have:=E.size;omega
 have y_b1:=h1.lt
 replace E:=E.ext e1;replace hcu:=hcu.ext e1
 have z1:=e1.size
 refine Q6 Xh Z (fun b2 w2 e2 s2 h2=>?_)
 have g_b2 : w.heap.size ≤ b2:=by have:=E.size;omega
 have y_b2:=h2.lt
 replace E:=E.ext e2;replace hcu:=hcu.ext e2;replace h1:=h1.ext e2
 have z2:=e2.size
 refine Qf (Qh (Qi [true,false,false,false] Z Z (Qa (Qe Z) Z (Yu Tryz.call74 Z Z (s_l05Record lo vb bs _ hcu (RdD.modR hbs E (.inl (Nat.le_refl _)))) Z (fun _ w3 e3 hv=>?_)))))
 obtain ⟨dx1,hcu',hv⟩:=hv
 replace hcu:=hcu'
 subst hv
 replace E:=E.trans e3 (by omega) (by omega);replace h1:=h1.modR e3 (by omega);replace h2:=h2.modR e3 (by omega)
 have z3:=e3.size
 refine Q6 Xh Z (fun b3 w4 e4 s3 h3=>?_)
 have g_b3 : w.heap.size ≤ b3:=by have:=E.size;omega
 have y_b3:=h3.lt
 replace E:=E.ext e4;replace hcu:=hcu.ext e4;replace h1:=h1.ext e4;replace h2:=h2.ext e4
 have z4:=e4.size
 refine Qs (cs':=[.int .i64 dx1.op,.int .i64 dx1.stamp.epoch,.int .i64 dx1.stamp.turn,.int .i64 dx1.key,.int .i64 dx1.val]) Xh Z Z Z Z h3 (Nat.le_of_ble_eq_true Z) Z (fun w5 m1 h3'=>?_)
 replace h3:=h3'
 replace E:=E.mod m1 (fun g hg=>by cases hg;omega);replace hcu:=hcu.mod m1 (fun g hg=>by cases hg;omega);replace h1:=h1.mod m1 (fun g hg=>by cases hg;omega);replace h2:=h2.mod m1 (fun g hg=>by cases hg;omega)
 have z5:=m1.size
 refine Qf (Qh (Qh (Qi [true,true,true,true] Z Z (Qa (Qd Kr Z) Z (Qa (Qj V0 Z (h1.one 0 Z)) Z (Qa (Yg Tryz.underlying24 Z (hg _ E).len) Z (Qa (Un Z Z) Z (Qf (Qw Z (fun hc1=>?_) (fun hc1=>?_))))))))))
 ·have hc1n : g.nodes.length > 0:=by first | (have h:=of_decide_eq_true hc1;omega) | (have h:=hc1;simp at h;omega)
  refine Qi [true,true,true,true,false,true,false] Z Z (Qa (Qe Z) Z (Qa (Qd Kr Z) Z (Qa (Qj V0 Z (h1.one 0 Z)) Z (Qa (Yg Tryz.underlying24 Z (hg _ E).len) Z (Yu Tryz.call70 Z Z (s_l01Below lo vb bs ((g.nodes.length : Nat) : Int) _ hcu (RdD.modR hbs E (.inl (Nat.le_refl _)))) Z (fun _ w6 e5 hv=>?_))))))
  obtain ⟨dx2,q1,q2,hcu',hv⟩:=hv
  replace hcu:=hcu'
  subst hv
  replace E:=E.trans e5 (by omega) (by omega);replace h1:=h1.modR e5 (by omega);replace h2:=h2.modR e5 (by omega);replace h3:=h3.modR e5 (by omega)
  have z6:=e5.size
  refine Qa (Qd Uv Z) Z (Y4 (cs':=[.int .i64 ((dx2 : Nat) : Int),.int .i64 dx1.stamp.epoch,.int .i64 dx1.stamp.turn,.int .i64 dx1.key,.int .i64 dx1.val]) Y6 Z Z Z h3 (Nat.le_of_ble_eq_true Z) Z (fun w7 m2 h3'=>?_))
  replace h3:=h3'
  replace E:=E.mod m2 (fun g hg=>by cases hg;omega);replace hcu:=hcu.mod m2 (fun g hg=>by cases hg;omega);replace h1:=h1.mod m2 (fun g hg=>by cases hg;omega);replace h2:=h2.mod m2 (fun g hg=>by cases hg;omega)
  have z7:=m2.size
  refine Qf (Qh (Qh (Qi [true,false] Z Z (Qa (Qe Z) Z (Yu Tryz.call72 Z Z (s_l01Once lo vb bs 4 _ hcu (RdD.modR hbs E (.inl (Nat.le_refl _)))) Z (fun _ w8 e6 hv=>?_))))))
  obtain ⟨dx3,hcu',hv⟩:=hv
  replace hcu:=hcu'
  subst hv
  replace E:=E.trans e6 (by omega) (by omega);replace h1:=h1.modR e6 (by omega);replace h2:=h2.modR e6 (by omega);replace h3:=h3.modR e6 (by omega)
  have z8:=e6.size
  refine Qf (Qw Z (fun hc2=>?_) (fun hc2=>?_))
  ·refine Qi [true,false,true,true,true,false] Z Z (Qa (Qe Z) Z (Yu Tryz.call70 Z Z (s_l01Below lo vb bs 2 _ hcu (RdD.modR hbs E (.inl (Nat.le_refl _)))) Z (fun _ w9 e7 hv=>?_)))
   obtain ⟨dx4,q3,q4,hcu',hv⟩:=hv
   replace hcu:=hcu'
   subst hv
   replace E:=E.trans e7 (by omega) (by omega);replace h1:=h1.modR e7 (by omega);replace h2:=h2.modR e7 (by omega);replace h3:=h3.modR e7 (by omega)
   have z9:=e7.size
   refine Qa (Yw Z Z Z) Z (Qa (Qd Kz Z) Z (Qa (Yt Vv Z) Z (Y4 (cs':=[.int .i64 ((dx2 : Nat) : Int),.int .i64 dx1.stamp.epoch,.int .i64 (IntKind.i64.wrap (5 + ((dx4 : Nat) : Int))),.int .i64 dx1.key,.int .i64 dx1.val]) Y6 Z Z Z h3 (Nat.le_of_ble_eq_true Z) Z (fun w10 m3 h3'=>?_))))
   replace h3:=h3'
   replace E:=E.mod m3 (fun g hg=>by cases hg;omega);replace hcu:=hcu.mod m3 (fun g hg=>by cases hg;omega);replace h1:=h1.mod m3 (fun g hg=>by cases hg;omega);replace h2:=h2.mod m3 (fun g hg=>by cases hg;omega)
   have z10:=m3.size
   refine Qf (Qh (Qi [true,false] Z Z (Qa (Qo Xh Z h3.at Z) Z (Qs (cs':=[.int .i64 ((⟨((dx2 : Nat) : Int),(⟨dx1.stamp.epoch,IntKind.i64.wrap (5 + ((dx4 : Nat) : Int))⟩ : Stamp),dx1.key,dx1.val⟩ : Record).op),.int .i64 (((⟨((dx2 : Nat) : Int),(⟨dx1.stamp.epoch,IntKind.i64.wrap (5 + ((dx4 : Nat) : Int))⟩ : Stamp),dx1.key,dx1.val⟩ : Record).stamp).epoch),.int .i64 (((⟨((dx2 : Nat) : Int),(⟨dx1.stamp.epoch,IntKind.i64.wrap (5 + ((dx4 : Nat) : Int))⟩ : Stamp),dx1.key,dx1.val⟩ : Record).stamp).turn),.int .i64 ((⟨((dx2 : Nat) : Int),(⟨dx1.stamp.epoch,IntKind.i64.wrap (5 + ((dx4 : Nat) : Int))⟩ : Stamp),dx1.key,dx1.val⟩ : Record).key),.int .i64 ((⟨((dx2 : Nat) : Int),(⟨dx1.stamp.epoch,IntKind.i64.wrap (5 + ((dx4 : Nat) : Int))⟩ : Stamp),dx1.key,dx1.val⟩ : Record).val)]) Xh Z Z Z Z h2 (Nat.le_of_ble_eq_true Z) Z (fun w11 m4 h2'=>?_)))))
   replace h2:=h2'
   replace E:=E.mod m4 (fun g hg=>by cases hg;omega);replace hcu:=hcu.mod m4 (fun g hg=>by cases hg;omega);replace h1:=h1.mod m4 (fun g hg=>by cases hg;omega);replace h3:=h3.mod m4 (fun g hg=>by cases hg;omega)
   have z11:=m4.size
   refine Qf (Qx (Y8 Z Z (Qu Xh h2.at Z) E ?_))
   exact ⟨(⟨((dx2 : Nat) : Int),(⟨dx1.stamp.epoch,IntKind.i64.wrap (5 + ((dx4 : Nat) : Int))⟩ : Stamp),dx1.key,dx1.val⟩ : Record),hcu,Z⟩
  ·refine Qy (Qh (Qi [true,false] Z Z (Qa (Qo Xh Z h3.at Z) Z (Qs (cs':=[.int .i64 ((⟨((dx2 : Nat) : Int),dx1.stamp,dx1.key,dx1.val⟩ : Record).op),.int .i64 (((⟨((dx2 : Nat) : Int),dx1.stamp,dx1.key,dx1.val⟩ : Record).stamp).epoch),.int .i64 (((⟨((dx2 : Nat) : Int),dx1.stamp,dx1.key,dx1.val⟩ : Record).stamp).turn),.int .i64 ((⟨((dx2 : Nat) : Int),dx1.stamp,dx1.key,dx1.val⟩ : Record).key),.int .i64 ((⟨((dx2 : Nat) : Int),dx1.stamp,dx1.key,dx1.val⟩ : Record).val)]) Xh Z Z Z Z h2 (Nat.le_of_ble_eq_true Z) Z (fun w12 m5 h2'=>?_)))))
   replace h2:=h2'
   replace E:=E.mod m5 (fun g hg=>by cases hg;omega);replace hcu:=hcu.mod m5 (fun g hg=>by cases hg;omega);replace h1:=h1.mod m5 (fun g hg=>by cases hg;omega);replace h3:=h3.mod m5 (fun g hg=>by cases hg;omega)
   have z12:=m5.size
   refine Qf (Qx (Y8 Z Z (Qu Xh h2.at Z) E ?_))
   exact ⟨(⟨((dx2 : Nat) : Int),dx1.stamp,dx1.key,dx1.val⟩ : Record),hcu,Z⟩
 ·have hc1n : ¬ g.nodes.length > 0:=by first | (have h:=of_decide_eq_false hc1;omega) | (have h:=hc1;simp at h;omega)
  refine Qy (Qh (Qh (Qi [true,false] Z Z (Qa (Qe Z) Z (Yu Tryz.call72 Z Z (s_l01Once lo vb bs 4 _ hcu (RdD.modR hbs E (.inl (Nat.le_refl _)))) Z (fun _ w13 e8 hv=>?_))))))
  obtain ⟨dx5,hcu',hv⟩:=hv
  replace hcu:=hcu'
  subst hv
  replace E:=E.trans e8 (by omega) (by omega);replace h1:=h1.modR e8 (by omega);replace h2:=h2.modR e8 (by omega);replace h3:=h3.modR e8 (by omega)
  have z13:=e8.size
  refine Qf (Qw Z (fun hc3=>?_) (fun hc3=>?_))
  ·refine Qi [true,false,true,true,true,false] Z Z (Qa (Qe Z) Z (Yu Tryz.call70 Z Z (s_l01Below lo vb bs 2 _ hcu (RdD.modR hbs E (.inl (Nat.le_refl _)))) Z (fun _ w14 e9 hv=>?_)))
   obtain ⟨dx6,q5,q6,hcu',hv⟩:=hv
   replace hcu:=hcu'
   subst hv
   replace E:=E.trans e9 (by omega) (by omega);replace h1:=h1.modR e9 (by omega);replace h2:=h2.modR e9 (by omega);replace h3:=h3.modR e9 (by omega)
   have z14:=e9.size
   refine Qa (Yw Z Z Z) Z (Qa (Qd Kz Z) Z (Qa (Yt Vv Z) Z (Y4 (cs':=[.int .i64 dx1.op,.int .i64 dx1.stamp.epoch,.int .i64 (IntKind.i64.wrap (5 + ((dx6 : Nat) : Int))),.int .i64 dx1.key,.int .i64 dx1.val]) Y6 Z Z Z h3 (Nat.le_of_ble_eq_true Z) Z (fun w15 m6 h3'=>?_))))
   replace h3:=h3'
   replace E:=E.mod m6 (fun g hg=>by cases hg;omega);replace hcu:=hcu.mod m6 (fun g hg=>by cases hg;omega);replace h1:=h1.mod m6 (fun g hg=>by cases hg;omega);replace h2:=h2.mod m6 (fun g hg=>by cases hg;omega)
   have z15:=m6.size
   refine Qf (Qh (Qi [true,false] Z Z (Qa (Qo Xh Z h3.at Z) Z (Qs (cs':=[.int .i64 ((⟨dx1.op,(⟨dx1.stamp.epoch,IntKind.i64.wrap (5 + ((dx6 : Nat) : Int))⟩ : Stamp),dx1.key,dx1.val⟩ : Record).op),.int .i64 (((⟨dx1.op,(⟨dx1.stamp.epoch,IntKind.i64.wrap (5 + ((dx6 : Nat) : Int))⟩ : Stamp),dx1.key,dx1.val⟩ : Record).stamp).epoch),.int .i64 (((⟨dx1.op,(⟨dx1.stamp.epoch,IntKind.i64.wrap (5 + ((dx6 : Nat) : Int))⟩ : Stamp),dx1.key,dx1.val⟩ : Record).stamp).turn),.int .i64 ((⟨dx1.op,(⟨dx1.stamp.epoch,IntKind.i64.wrap (5 + ((dx6 : Nat) : Int))⟩ : Stamp),dx1.key,dx1.val⟩ : Record).key),.int .i64 ((⟨dx1.op,(⟨dx1.stamp.epoch,IntKind.i64.wrap (5 + ((dx6 : Nat) : Int))⟩ : Stamp),dx1.key,dx1.val⟩ : Record).val)]) Xh Z Z Z Z h2 (Nat.le_of_ble_eq_true Z) Z (fun w16 m7 h2'=>?_)))))
   replace h2:=h2'
   replace E:=E.mod m7 (fun g hg=>by cases hg;omega);replace hcu:=hcu.mod m7 (fun g hg=>by cases hg;omega);replace h1:=h1.mod m7 (fun g hg=>by cases hg;omega);replace h3:=h3.mod m7 (fun g hg=>by cases hg;omega)
   have z16:=m7.size
   refine Qf (Qx (Y8 Z Z (Qu Xh h2.at Z) E ?_))
   exact ⟨(⟨dx1.op,(⟨dx1.stamp.epoch,IntKind.i64.wrap (5 + ((dx6 : Nat) : Int))⟩ : Stamp),dx1.key,dx1.val⟩ : Record),hcu,Z⟩
  ·refine Qy (Qh (Qi [true,false] Z Z (Qa (Qo Xh Z h3.at Z) Z (Qs (cs':=[.int .i64 dx1.op,.int .i64 dx1.stamp.epoch,.int .i64 dx1.stamp.turn,.int .i64 dx1.key,.int .i64 dx1.val]) Xh Z Z Z Z h2 (Nat.le_of_ble_eq_true Z) Z (fun w17 m8 h2'=>?_)))))
   replace h2:=h2'
   replace E:=E.mod m8 (fun g hg=>by cases hg;omega);replace hcu:=hcu.mod m8 (fun g hg=>by cases hg;omega);replace h1:=h1.mod m8 (fun g hg=>by cases hg;omega);replace h3:=h3.mod m8 (fun g hg=>by cases hg;omega)
   have z17:=m8.size
   refine Qf (Qx (Y8 Z Z (Qu Xh h2.at Z) E ?_))
   exact ⟨dx1,hcu,Z⟩

set_option maxRecDepth 20000 in
theorem l_sameRecords (vxs : Value) (xs : List Record) (vys : Value) (ys : List Record) (w : World) (hxs : RdS w vxs xs) (hys : RdS w vys ys) : Ct Tryz.prog 36 [vxs,vys] w (fun v _=>v = .bool (decide (xs = ys))):=by
 refine Yx Tryz.func36 Z Tryz.ntmps36 Z ?_
 refine Yh [(0,vxs),(1,vys)] ⟨Z,Z,trivial⟩ ?_
 have E : Ext w w:=Ext.refl w
 refine Qh (Qi [true] Z Z (Qa (Qg Z) Z (Qf (Qh (Qh (Qi [true,true,true,true,true] Z Z (Qa (Qe Z) Z (Qa (Yg Tryz.underlying27 Z (hxs.ext E).len) Z (Qa (Qe Z) Z (Qa (Yg Tryz.underlying27 Z (hys.ext E).len) Z (Qa (Xs Z Z) Z (Qf (Qw Z (fun hc1=>?_) (fun hc1=>?_))))))))))))))
 ·have hc1n : ¬ xs.length = ys.length:=by first | (have h:=of_decide_eq_true hc1;omega) | (have h:=hc1;simp at h;omega)
  refine Qh (Qi [true] Z Z (Qa (Qg Z) Z (Qf (Qx (Q0 Z Z E ?_)))))
  simp [C4 hc1n]
 ·have hc1n : xs.length = ys.length:=by first | (have h:=of_decide_eq_false hc1;omega) | (have h:=hc1;simp at h;omega)
  refine Qy (Qh (Qh (Qi [true] Z Z (Qa (Qg Z) Z (Qf (Q9 (Xk (fun (k : Nat)=>[(0,vxs),(1,vys),(4,.bool false),(5,.int .i64 ((k : Nat) : Int))]) (fun (k : Nat) w'=>Ext w w' ∧ w.heap.size ≤ w'.heap.size ∧ k ≤ xs.length ∧ xs.take k = ys.take k) (fun (k : Nat)=>xs.length - k) 0 ⟨Z,Z,Z,Z,trivial⟩ ⟨E,Nat.le_refl _,Nat.zero_le _,Z⟩ ?_)))))))
  clear E
  rintro k w1 ⟨E,z1,hk,hp⟩
  refine Qh (Qh (Qi [true,true,true,true] Z Z (Qa (Qe Z) Z (Qa (Qe Z) Z (Qa (Yg Tryz.underlying27 Z (hxs.ext E).len) Z (Qa (Xn Z Z) Z (Qf (Qw Z (fun hc2=>?_) (fun hc2=>?_)))))))))
  ·have hc2n : k < xs.length:=by first | (have h:=of_decide_eq_true hc2;omega) | (have h:=hc2;simp at h;omega)
   refine Qy (Qh (Q9 (Qh (Xu Xo [(0,true),(1,true),(2,true),(3,true),(4,true),(5,true),(6,true),(7,true),(8,true)] (by decide +kernel) Z (fun w2 e1=>?_)))))
   replace E:=E.trans e1
   have z2:=e1.size
   refine Qa (Qe Z) Z (Qa (Qe Z) Z ?_)
   have hi1 : k < xs.length:=(by first | assumption | omega | (simp only [List.length_set];first | assumption | omega) | (simp only [List.getElem_set_self,List.length_set];first | assumption | omega) | (simp only [Xc,Yp,List.length_set];first | assumption | omega) | (simp;done))
   refine Qa (Ye (i:=k) X3 Z Z (hxs.ext E) hi1) Z (Qa (Qo Xh Z ((hxs.ext E).get hi1) Z) Z (Qa (Qe Z) Z (Qa (Qe Z) Z ?_)))
   have hi2 : k < ys.length:=(by first | assumption | omega | (simp only [List.length_set];first | assumption | omega) | (simp only [List.getElem_set_self,List.length_set];first | assumption | omega) | (simp only [Xc,Yp,List.length_set];first | assumption | omega) | (simp;done))
   refine Qa (Ye (i:=k) X3 Z Z (hys.ext E) hi2) Z (Qa (Qo Xh Z ((hys.ext E).get hi2) Z) Z (Qa (R_neqS (ne42 (xs[k]'hi1) (ys[k]'hi2)) eqg42 Z Z) Z (Qf (Qw Z (fun hc3=>?_) (fun hc3=>?_)))))
   ·refine Qh (Qi [true] Z Z (Qa (Qg Z) Z (Qf (Qx (Qz (Xb (Qz (Q0 Z Z E ?_))))))))
    exact C5 (by omega) (by omega) (by simpa using hc3)
   ·refine Qy (Yb (Yv (Qi [true,true,true] Z Z (Qa (Qe Z) Z (Qa (Yw Z Z (Y7 hc2n hxs.1)) Z (Qa (Qg Z) Z (Qf (Yb (Yy (k + 1) (by omega) ⟨Z,Z,Z,Z,trivial⟩ ⟨E,(by omega),(by omega),Hb hp (by assumption) (by omega) (by simpa using hc3)⟩)))))))))
  ·have hc2n : ¬ k < xs.length:=by first | (have h:=of_decide_eq_false hc2;omega) | (have h:=hc2;simp at h;omega)
   refine Xl (Ys (Yj ?_))
   refine Qh (Qi [true] Z Z (Qa (Qg Z) Z (Qf (Qx (Q0 Z Z E ?_)))))
   exact Ti hp hc1n (by omega)

set_option maxRecDepth 20000 in
theorem s_l11Inputs (lo : Nat) (vb : Value) (bs : List Byt) (w : World) (hcu : CurO w lo vb bs) (hbs : RdD w 0 lo vb bs) : CtR Tryz.prog 92 [.pointer (some ⟨lo,0,none⟩)] w lo (lo + 1) (fun v w'=>∃ (dr0 : List Record),dr0.length ≤ 10 ∧ CurO w' lo vb bs ∧ Own w' w.heap.size w'.heap.size 5 v (List.flatMap (Enc.enc (α:=Record)) dr0)):=by
 have y_lo:=CurO.lt hcu
 refine U2 Tryz.func92 Z Tryz.ntmps92 Z ?_
 refine Yh [(0,.pointer (some ⟨lo,0,none⟩))] ⟨Z,trivial⟩ ?_
 have E : ModR w w lo (lo + 1):=ModR.refl w lo (lo + 1)
 refine Qh (Qi [true] Z Z (Qa (Qg Z) Z (Qf (Qh (Qi [false,true] Z Z (Q8 (vs:=[]) (css:=[]) X3 Z Z trivial Z Z (fun b1 w1 e1 s1 h1=>?_)))))))
 replace h1 : Blk w1 b1 []:=h1
 have g_b1 : w.heap.size ≤ b1:=by have:=E.size;omega
 have y_b1:=h1.lt
 replace E:=E.ext e1;replace hcu:=hcu.ext e1
 have z1:=e1.size
 refine Qa (Qg Z) Z (Qf (Qh (Qi [true] Z Z (Qa (Qg Z) Z (Qf (Qh (Qh (Qi [true] Z Z (Qa (Qg Z) Z (Qf (Q9 (Xk (fun (xq : Nat × Value × List Record × Int)=>let ⟨k,vo,ls,ep⟩:=xq;[(0,.pointer (some ⟨lo,0,none⟩)),(2,.slice none 0 0),(3,vo),(4,.int .i64 ep),(5,.int .i64 ((k : Nat) : Int))]) (fun (xq : Nat × Value × List Record × Int) w'=>let ⟨k,vo,ls,ep⟩:=xq;ModR w w' lo (lo + 1) ∧ w1.heap.size ≤ w'.heap.size ∧ CurO w' lo vb bs ∧ k ≤ 6 ∧ ls.length ≤ k ∧ Own w' w.heap.size w'.heap.size 5 vo (List.flatMap (Enc.enc (α:=Record)) ls)) (fun (xq : Nat × Value × List Record × Int)=>let ⟨k,vo,ls,ep⟩:=xq;6 - k) (0,.slice (some ⟨b1,0,none⟩) 0 0,[],0) ⟨Z,Z,Z,Z,Z,trivial⟩ ⟨E,Nat.le_refl _,hcu,Nat.zero_le _,Nat.le_refl _,Own.fin (Own.ofBlk (lo:=b1) (hi:=b1 + 1) (sz:=5) h1 (Nat.le_refl _) (Nat.lt_succ_self _) (by simp) (by simp [maxLen])) (by omega) (by omega) Z⟩ ?_))))))))))))
 clear E hcu h1
 rintro ⟨k,vo,ls,ep⟩ w2 ⟨E,z2,hcu,hk,hls,ho⟩
 refine Yh [(0,.pointer (some ⟨lo,0,none⟩)),(2,.slice none 0 0),(3,vo),(4,.int .i64 ep),(5,.int .i64 ((k : Nat) : Int))] ⟨Z,Z,Z,Z,Z,trivial⟩ ?_
 refine Qh (Qh (Qi [true,true,false,true] Z Z (Qa (Qe Z) Z (Qa (Qe Z) Z (Yu Tryz.call70 Z Z (s_l01Below lo vb bs 6 _ hcu (RdD.modR hbs E (.inl (Nat.le_refl _)))) Z (fun _ w3 e2 hv=>?_))))))
 obtain ⟨dx1,q1,q2,hcu',hv⟩:=hv
 replace hcu:=hcu'
 subst hv
 replace E:=E.trans e2 (by omega) (by omega);replace ho:=ho.modR e2 (by omega)
 have z3:=e2.size
 refine Qa (Xn Z Z) Z (Qf (Qw Z (fun hc1=>?_) (fun hc1=>?_)))
 ·have hc1n : k < dx1:=by first | (have h:=of_decide_eq_true hc1;omega) | (have h:=hc1;simp at h;omega)
  refine Qy (Qh (Q9 (Qh (Qi [true,true,false,true,false,true] Z Z (Qa (Qe Z) Z (Qa (Qe Z) Z (Yu Tryz.call70 Z Z (s_l01Below lo vb bs 2 _ hcu (RdD.modR hbs E (.inl (Nat.le_refl _)))) Z (fun _ w4 e3 hv=>?_))))))))
  obtain ⟨dx2,q3,q4,hcu',hv⟩:=hv
  replace hcu:=hcu'
  subst hv
  replace E:=E.trans e3 (by omega) (by omega);replace ho:=ho.modR e3 (by omega)
  have z4:=e3.size
  refine Qa (Yw Z Z Z) Z (Qv Tryz.call103 Z (s_Brought (IntKind.i64.wrap (ep + ((dx2 : Nat) : Int))) 0 2 _ ) Z (fun _ w5 e4 hv=>?_))
  subst hv
  replace E:=E.ext e4;replace hcu:=hcu.ext e4;replace ho:=ho.ext e4
  have z5:=e4.size
  refine Qa (Qg Z) Z (Qf (Qi [true,true,true,true,false,true,false,true,false,false,true] Z Z (Qa (Qe Z) Z (Qa (Qe Z) Z (Qa (Kl (⟨Ag (IntKind.i64.wrap (ep + ((dx2 : Nat) : Int))) 0 2,0⟩ : Stamp) Z (fun _=>by kernel_rfl)) Z (Qa (Qe Z) Z (Yu Tryz.call70 Z Z (s_l01Below lo vb bs 12 _ hcu (RdD.modR hbs E (.inl (Nat.le_refl _)))) Z (fun _ w6 e5 hv=>?_))))))))
  obtain ⟨dx3,q5,q6,hcu',hv⟩:=hv
  replace hcu:=hcu'
  subst hv
  replace E:=E.trans e5 (by omega) (by omega);replace ho:=ho.modR e5 (by omega)
  have z6:=e5.size
  refine Qa (Qe Z) Z (Yu Tryz.call70 Z Z (s_l01Below lo vb bs 40 _ hcu (RdD.modR hbs E (.inl (Nat.le_refl _)))) Z (fun _ w7 e6 hv=>?_))
  obtain ⟨dx4,q7,q8,hcu',hv⟩:=hv
  replace hcu:=hcu'
  subst hv
  replace E:=E.trans e6 (by omega) (by omega);replace ho:=ho.modR e6 (by omega)
  have z7:=e6.size
  refine Qa (Kl (⟨0,(⟨Ag (IntKind.i64.wrap (ep + ((dx2 : Nat) : Int))) 0 2,0⟩ : Stamp),((dx3 : Nat) : Int),((dx4 : Nat) : Int)⟩ : Record) Z (fun _=>by kernel_rfl)) Z (Q8 (vs:=[.agg (Enc.enc (⟨0,(⟨Ag (IntKind.i64.wrap (ep + ((dx2 : Nat) : Int))) 0 2,0⟩ : Stamp),((dx3 : Nat) : Int),((dx4 : Nat) : Int)⟩ : Record)).toArray]) (css:=[[.int .i64 ((⟨0,(⟨Ag (IntKind.i64.wrap (ep + ((dx2 : Nat) : Int))) 0 2,0⟩ : Stamp),((dx3 : Nat) : Int),((dx4 : Nat) : Int)⟩ : Record).op),.int .i64 (((⟨0,(⟨Ag (IntKind.i64.wrap (ep + ((dx2 : Nat) : Int))) 0 2,0⟩ : Stamp),((dx3 : Nat) : Int),((dx4 : Nat) : Int)⟩ : Record).stamp).epoch),.int .i64 (((⟨0,(⟨Ag (IntKind.i64.wrap (ep + ((dx2 : Nat) : Int))) 0 2,0⟩ : Stamp),((dx3 : Nat) : Int),((dx4 : Nat) : Int)⟩ : Record).stamp).turn),.int .i64 ((⟨0,(⟨Ag (IntKind.i64.wrap (ep + ((dx2 : Nat) : Int))) 0 2,0⟩ : Stamp),((dx3 : Nat) : Int),((dx4 : Nat) : Int)⟩ : Record).key),.int .i64 ((⟨0,(⟨Ag (IntKind.i64.wrap (ep + ((dx2 : Nat) : Int))) 0 2,0⟩ : Stamp),((dx3 : Nat) : Int),((dx4 : Nat) : Int)⟩ : Record).val)]]) X3 Z Z ⟨⟨Z,Z⟩,trivial⟩ Z Z (fun b2 w8 e7 s2 h2=>?_))
  replace h2 : Blk w8 b2 [.int .i64 ((⟨0,(⟨Ag (IntKind.i64.wrap (ep + ((dx2 : Nat) : Int))) 0 2,0⟩ : Stamp),((dx3 : Nat) : Int),((dx4 : Nat) : Int)⟩ : Record).op),.int .i64 (((⟨0,(⟨Ag (IntKind.i64.wrap (ep + ((dx2 : Nat) : Int))) 0 2,0⟩ : Stamp),((dx3 : Nat) : Int),((dx4 : Nat) : Int)⟩ : Record).stamp).epoch),.int .i64 (((⟨0,(⟨Ag (IntKind.i64.wrap (ep + ((dx2 : Nat) : Int))) 0 2,0⟩ : Stamp),((dx3 : Nat) : Int),((dx4 : Nat) : Int)⟩ : Record).stamp).turn),.int .i64 ((⟨0,(⟨Ag (IntKind.i64.wrap (ep + ((dx2 : Nat) : Int))) 0 2,0⟩ : Stamp),((dx3 : Nat) : Int),((dx4 : Nat) : Int)⟩ : Record).key),.int .i64 ((⟨0,(⟨Ag (IntKind.i64.wrap (ep + ((dx2 : Nat) : Int))) 0 2,0⟩ : Stamp),((dx3 : Nat) : Int),((dx4 : Nat) : Int)⟩ : Record).val)]:=h2
  have g_b2 : w.heap.size ≤ b2:=by have:=E.size;omega
  have y_b2:=h2.lt
  replace E:=E.ext e7;replace hcu:=hcu.ext e7;replace ho:=ho.ext e7
  have z8:=e7.size
  refine K2 X3 Z Z ho (Src.ofBlk h2 Z) Z (by simp only [Ya,List.length_cons,List.length_nil];simp only [Enc.sz];omega) (by decide) (by omega) (by omega) Z Z (fun v1 w9 m1 ho1=>?_)
  replace E:=E.mod m1 (fun g hg=>by have:=Own.blk ho g hg;omega);replace hcu:=hcu.mod m1 (fun g hg=>by have:=Own.blk ho g hg;omega)
  have z9:=m1.size
  refine Qa (Qg Z) Z (Qf (Yb (Yv (Qi [true,true,true] Z Z (Qa (Qe Z) Z (Qa (Yw Z Z (K5 (by unfold maxLen;omega))) Z (Qa (Qg Z) Z (Qf (Yb (Yy (k + 1,v1,(ls ++ [(⟨0,(⟨Ag (IntKind.i64.wrap (ep + ((dx2 : Nat) : Int))) 0 2,0⟩ : Stamp),((dx3 : Nat) : Int),((dx4 : Nat) : Int)⟩ : Record)]),(Ag (IntKind.i64.wrap (ep + ((dx2 : Nat) : Int))) 0 2)) (by simp;omega) ⟨Z,Z,Z,Z,Z,trivial⟩ ⟨E,(by omega),hcu,(by omega),(by simp;omega),Own.fin ho1 (by omega) (by omega) (by first | (simp [*];done) | (simp [Enc.enc];done))⟩))))))))))
 ·have hc1n : ¬ k < dx1:=by first | (have h:=of_decide_eq_false hc1;omega) | (have h:=hc1;simp at h;omega)
  refine Xl (Ys (Yj ?_))
  refine Qh (Qi [true,true] Z Z (Qa (Qe Z) Z (Qa (Qg Z) Z (Qf (Qx (Q0 Z Z E ?_))))))
  exact ⟨ls,(by omega),hcu,Own.fin ho (by have:=E.size;omega) (by omega) (by first | (simp [*];done) | (simp [*];rfl))⟩

set_option maxHeartbeats 4000000 in
set_option maxRecDepth 20000 in
theorem s_l12Worker (lo : Nat) (vb : Value) (bs : List Byt) (og : Value) (g : Graph) (w : World) (hcu : CurO w lo vb bs) (hbs : RdD w 0 lo vb bs) (hg : Stab w lo (fun w'=>RdD w' 0 w'.heap.size og g.nodes)) (hcg : Uq g ≤ 1048576) : CtR Tryz.prog 73 [.pointer (some ⟨lo,0,none⟩),.agg [og,.int .i64 g.workers,.int .i64 g.cap].toArray] w lo (lo + 1) (fun v w'=>∃ (dr0 : Worker),Q4 dr0 ≤ 100 ∧ dr0.sums.length = 4 ∧ CurO w' lo vb bs ∧ ∃ cs,v = .agg cs.toArray ∧ Own1.O w' w.heap.size w'.heap.size cs dr0):=by
 have y_lo:=CurO.lt hcu
 refine U2 Tryz.func73 Z Tryz.ntmps73 Z ?_
 refine Yh [(0,.pointer (some ⟨lo,0,none⟩)),(1,.agg [og,.int .i64 g.workers,.int .i64 g.cap].toArray)] ⟨Z,Z,trivial⟩ ?_
 have E : ModR w w lo (lo + 1):=ModR.refl w lo (lo + 1)
 refine Qh (Qi [false,false] Z Z (Y5 Z Z (fun b1 w1 e1 s1 h1=>?_)))
 have g_b1 : w.heap.size ≤ b1:=by have:=E.size;omega
 have y_b1:=h1.lt
 replace E:=E.ext e1;replace hcu:=hcu.ext e1
 have z1:=e1.size
 refine Q6 Q7 Z (fun b2 w2 e2 s2 h2=>?_)
 have g_b2 : w.heap.size ≤ b2:=by have:=E.size;omega
 have y_b2:=h2.lt
 replace E:=E.ext e2;replace hcu:=hcu.ext e2;replace h1:=h1.ext e2
 have z2:=e2.size
 refine Qf (Qh (Qi [true,false,false,false,false] Z Z (Qa (Qe Z) Z (Yu Tryz.call92 Z Z (s_l11Inputs lo vb bs _ hcu (RdD.modR hbs E (.inl (Nat.le_refl _)))) Z (fun v1 w3 e3 ho1=>?_)))))
 obtain ⟨dx1,q1,hcu',ho1⟩:=ho1
 replace hcu:=hcu'
 have g_ho1 : w.heap.size ≤ w2.heap.size:=E.size
 replace E:=E.trans e3 (by omega) (by omega);replace h1:=h1.modR e3 (by omega);replace h2:=h2.modR e3 (by omega)
 have z3:=e3.size
 refine Qv Tryz.call25 Z (s_WorkerNew v1 dx1 _ (Own.rd (by decide) ho1) (by omega)) Z (fun _ w4 e4 ho2=>?_)
 obtain ⟨_,rfl,ho2⟩:=ho2
 have g_ho2 : w.heap.size ≤ w3.heap.size:=E.size
 replace E:=E.ext e4;replace hcu:=hcu.ext e4;replace h1:=h1.ext e4;replace h2:=h2.ext e4;replace ho1:=ho1.ext e4
 have z4:=e4.size
 obtain ⟨o1,o2,o3,o4,o5,o6,o7,o8,rfl,sp1,hw1,hw2,hw3,hw4,hw5,hw6,hw7,hw8⟩:=Worker.opO ho2
 refine Q6 Q7 Z (fun b3 w5 e5 s3 h3=>?_)
 have g_b3 : w.heap.size ≤ b3:=by have:=E.size;omega
 have y_b3:=h3.lt
 replace E:=E.ext e5;replace hcu:=hcu.ext e5;replace h1:=h1.ext e5;replace h2:=h2.ext e5;replace ho1:=ho1.ext e5;replace hw1:=hw1.ext e5;replace hw2:=hw2.ext e5;replace hw3:=hw3.ext e5;replace hw4:=hw4.ext e5;replace hw5:=hw5.ext e5;replace hw6:=hw6.ext e5;replace hw7:=hw7.ext e5;replace hw8:=hw8.ext e5
 have z5:=e5.size
 refine Qs (cs':=[o1,o2,o3,o4,o5,o6,o7,o8]) Q7 Z Z Z (Qb hw1.one (Qb hw2.one (Qb hw3.one (Qb hw4.one (Qb hw5.one (Qb hw6.one (Qb hw7.one (Qb hw8.one Z)))))))) h3 (Nat.le_of_ble_eq_true Z) Z (fun w6 m1 h3'=>?_)
 replace h3:=h3'
 replace E:=E.mod m1 (fun g hg=>by cases hg;omega);replace hcu:=hcu.mod m1 (fun g hg=>by cases hg;omega);replace h1:=h1.mod m1 (fun g hg=>by cases hg;omega);replace h2:=h2.mod m1 (fun g hg=>by cases hg;omega);replace ho1:=ho1.mod m1 (fun g hg=>by cases hg;omega);replace hw1:=hw1.mod m1 (fun g hg=>by cases hg;omega);replace hw2:=hw2.mod m1 (fun g hg=>by cases hg;omega);replace hw3:=hw3.mod m1 (fun g hg=>by cases hg;omega);replace hw4:=hw4.mod m1 (fun g hg=>by cases hg;omega);replace hw5:=hw5.mod m1 (fun g hg=>by cases hg;omega);replace hw6:=hw6.mod m1 (fun g hg=>by cases hg;omega);replace hw7:=hw7.mod m1 (fun g hg=>by cases hg;omega);replace hw8:=hw8.mod m1 (fun g hg=>by cases hg;omega)
 have z6:=m1.size
 refine Qf (Qh (Qh (Qi [true] Z Z (Qa (Qg Z) Z (Qf (Q9 (Xk (fun (xq : Nat × Nat × Nat × Value × Value × Value × Value × Value × Value × Value × Value × Worker)=>let ⟨k,plo,phi,p1,p2,p3,p4,p5,p6,p7,p8,wx⟩:=xq;[(0,.pointer (some ⟨lo,0,none⟩)),(3,.pointer (some ⟨b1,0,none⟩)),(4,.pointer (some ⟨b2,0,none⟩)),(5,.pointer (some ⟨b3,0,none⟩)),(6,.int .i64 ((k : Nat) : Int))]) (fun (xq : Nat × Nat × Nat × Value × Value × Value × Value × Value × Value × Value × Value × Worker) w'=>let ⟨k,plo,phi,p1,p2,p3,p4,p5,p6,p7,p8,wx⟩:=xq;ModR w w' lo (lo + 1) ∧ w6.heap.size ≤ w'.heap.size ∧ CurO w' lo vb bs ∧ Blk w' b1 ([og,.int .i64 g.workers,.int .i64 g.cap]) ∧ Blk w' b2 [.slice none 0 0,.slice none 0 0,.slice none 0 0,.slice none 0 0,.slice none 0 0,.slice none 0 0,.slice none 0 0,.slice none 0 0] ∧ Own w' w2.heap.size w3.heap.size 5 v1 (List.flatMap (Enc.enc (α:=Record)) dx1) ∧ k ≤ 8 ∧ Q4 wx ≤ 60 + 4 * k ∧ wx.sums.length = 4 ∧ phi ≤ w'.heap.size ∧ (phi ≤ b3 ∨ b3 < plo) ∧ w3.heap.size ≤ plo ∧ Own1.O (α:=Worker) w' plo phi [p1,p2,p3,p4,p5,p6,p7,p8] wx ∧ Blk w' b3 [p1,p2,p3,p4,p5,p6,p7,p8]) (fun (xq : Nat × Nat × Nat × Value × Value × Value × Value × Value × Value × Value × Value × Worker)=>let ⟨k,plo,phi,p1,p2,p3,p4,p5,p6,p7,p8,wx⟩:=xq;8 - k) (0,w3.heap.size,w4.heap.size,o1,o2,o3,o4,o5,o6,o7,o8,(Yi dx1)) ⟨Z,Z,Z,Z,Z,trivial⟩ ⟨E,Nat.le_refl _,hcu,h1,h2,ho1,Nat.zero_le _,(by rw [V2];omega),Z,(by omega),(by omega),(by omega),(Worker.mkO (Yi dx1) sp1 (Own.widen hw1 (by omega) (by omega)) (Own.widen hw2 (by omega) (by omega)) (Own.widen hw3 (by omega) (by omega)) (Own.widen hw4 (by omega) (by omega)) (Own.widen hw5 (by omega) (by omega)) (Own.widen hw6 (by omega) (by omega)) (Own.widen hw7 (by omega) (by omega)) (Own.widen hw8 (by omega) (by omega))),h3⟩ ?_)))))))
 clear E hcu h1 h2 ho1 hw1 hw2 hw3 hw4 hw5 hw6 hw7 hw8 h3
 rintro ⟨k,plo,phi,p1,p2,p3,p4,p5,p6,p7,p8,wx⟩ w7 ⟨E,z7,hcu,h1,h2,ho1,hk,hcw,hsm,hpa,hpb,hpc,hP,h3⟩
 refine Yh [(0,.pointer (some ⟨lo,0,none⟩)),(3,.pointer (some ⟨b1,0,none⟩)),(4,.pointer (some ⟨b2,0,none⟩)),(5,.pointer (some ⟨b3,0,none⟩)),(6,.int .i64 ((k : Nat) : Int))] ⟨Z,Z,Z,Z,Z,trivial⟩ ?_
 obtain ⟨gP,hp1,hp2,hp3,hp4,hp5,hp6,hp7,hp8⟩:=Worker.opL hP
 clear hP
 refine Qh (Qh (Qi [true,true,false,true] Z Z (Qa (Qe Z) Z (Qa (Qe Z) Z (Yu Tryz.call70 Z Z (s_l01Below lo vb bs 8 _ hcu (RdD.modR hbs E (.inl (Nat.le_refl _)))) Z (fun _ w8 e6 hv=>?_))))))
 obtain ⟨dx2,q2,q3,hcu',hv⟩:=hv
 replace hcu:=hcu'
 subst hv
 replace E:=E.trans e6 (by omega) (by omega);replace h1:=h1.modR e6 (by omega);replace h2:=h2.modR e6 (by omega);replace ho1:=ho1.modR e6 (by omega);replace hp1:=hp1.modR e6 (by omega);replace hp2:=hp2.modR e6 (by omega);replace hp3:=hp3.modR e6 (by omega);replace hp4:=hp4.modR e6 (by omega);replace hp5:=hp5.modR e6 (by omega);replace hp6:=hp6.modR e6 (by omega);replace hp7:=hp7.modR e6 (by omega);replace hp8:=hp8.modR e6 (by omega);replace h3:=h3.modR e6 (by omega)
 have z8:=e6.size
 refine Qa (Xn Z Z) Z (Qf (Qw Z (fun hc1=>?_) (fun hc1=>?_)))
 ·have hc1n : k < dx2:=by first | (have h:=of_decide_eq_true hc1;omega) | (have h:=hc1;simp at h;omega)
  refine Qy (Qh (Q9 (Qh (Qi [true,false] Z Z (Qa (Qe Z) Z (Yu Tryz.call70 Z Z (s_l01Below lo vb bs 5 _ hcu (RdD.modR hbs E (.inl (Nat.le_refl _)))) Z (fun _ w9 e7 hv=>?_)))))))
  obtain ⟨dx3,q4,q5,hcu',hv⟩:=hv
  replace hcu:=hcu'
  subst hv
  replace E:=E.trans e7 (by omega) (by omega);replace h1:=h1.modR e7 (by omega);replace h2:=h2.modR e7 (by omega);replace ho1:=ho1.modR e7 (by omega);replace hp1:=hp1.modR e7 (by omega);replace hp2:=hp2.modR e7 (by omega);replace hp3:=hp3.modR e7 (by omega);replace hp4:=hp4.modR e7 (by omega);replace hp5:=hp5.modR e7 (by omega);replace hp6:=hp6.modR e7 (by omega);replace hp7:=hp7.modR e7 (by omega);replace hp8:=hp8.modR e7 (by omega);replace h3:=h3.modR e7 (by omega)
  have z9:=e7.size
  refine Qf (Q9 (Qh (Qi [true,true] Z Z (Qa (Yq Z Z) Z (Qa (Qg Z) Z (Qf (Qw Z (fun hc2=>?_) (fun hc2=>?_))))))))
  ·have hc2n : dx3 = 0:=by first | (have h:=of_decide_eq_true hc2;omega) | (have h:=hc2;simp at h;omega)
   refine Qi [true,true,false,true,true,true,false] Z Z (Qa (Qo Xt Z h1.at Z) Z (Qa (Qo Q7 Z h3.at Z) Z (Qv Tryz.call9 Z (s_TakeInput [og,.int .i64 g.workers,.int .i64 g.cap] g [p1,p2,p3,p4,p5,p6,p7,p8] wx _ (Graph.mkR g (RdD.any (hg _ E))) (Worker.mkR wx (RdD.any (Own.rdD hp1)) (RdD.any (Own.rdD hp2)) (RdD.any (Own.rdD hp3)) (RdD.any (Own.rdD hp4)) (RdD.any (Own.rdD hp5)) (RdD.any (Own.rdD hp6)) (RdD.any (Own.rdD hp7)) (RdD.any (Own.rdD hp8))) (by omega)) Z (fun _ w10 e8 ho3=>?_))))
   obtain ⟨_,rfl,ho4⟩:=ho3
   have g_ho3 : w.heap.size ≤ w9.heap.size:=E.size
   replace E:=E.ext e8;replace hcu:=hcu.ext e8;replace h1:=h1.ext e8;replace h2:=h2.ext e8;replace ho1:=ho1.ext e8;replace hp1:=hp1.ext e8;replace hp2:=hp2.ext e8;replace hp3:=hp3.ext e8;replace hp4:=hp4.ext e8;replace hp5:=hp5.ext e8;replace hp6:=hp6.ext e8;replace hp7:=hp7.ext e8;replace hp8:=hp8.ext e8;replace h3:=h3.ext e8
   have z10:=e8.size
   obtain ⟨o9,o10,o11,o12,o13,o14,o15,o16,rfl,sp2,hw9,hw10,hw11,hw12,hw13,hw14,hw15,hw16⟩:=Worker.opO ho4
   refine Qa (Qe Z) Z (Qa (Q5 Z Z) Z (Qa (Q5 Z Z) Z (Qs (cs':=[o9,o10,o11,o12,o13,o14,o15,o16]) Q7 Z Z Z (Qb hw9.one (Qb hw10.one (Qb hw11.one (Qb hw12.one (Qb hw13.one (Qb hw14.one (Qb hw15.one (Qb hw16.one Z)))))))) h3 (Nat.le_of_ble_eq_true Z) Z (fun w11 m2 h3'=>?_))))
   replace h3:=h3'
   replace E:=E.mod m2 (fun g hg=>by cases hg;omega);replace hcu:=hcu.mod m2 (fun g hg=>by cases hg;omega);replace h1:=h1.mod m2 (fun g hg=>by cases hg;omega);replace h2:=h2.mod m2 (fun g hg=>by cases hg;omega);replace ho1:=ho1.mod m2 (fun g hg=>by cases hg;omega);replace hp1:=hp1.mod m2 (fun g hg=>by cases hg;omega);replace hp2:=hp2.mod m2 (fun g hg=>by cases hg;omega);replace hp3:=hp3.mod m2 (fun g hg=>by cases hg;omega);replace hp4:=hp4.mod m2 (fun g hg=>by cases hg;omega);replace hp5:=hp5.mod m2 (fun g hg=>by cases hg;omega);replace hp6:=hp6.mod m2 (fun g hg=>by cases hg;omega);replace hp7:=hp7.mod m2 (fun g hg=>by cases hg;omega);replace hp8:=hp8.mod m2 (fun g hg=>by cases hg;omega);replace hw9:=hw9.mod m2 (fun g hg=>by cases hg;omega);replace hw10:=hw10.mod m2 (fun g hg=>by cases hg;omega);replace hw11:=hw11.mod m2 (fun g hg=>by cases hg;omega);replace hw12:=hw12.mod m2 (fun g hg=>by cases hg;omega);replace hw13:=hw13.mod m2 (fun g hg=>by cases hg;omega);replace hw14:=hw14.mod m2 (fun g hg=>by cases hg;omega);replace hw15:=hw15.mod m2 (fun g hg=>by cases hg;omega);replace hw16:=hw16.mod m2 (fun g hg=>by cases hg;omega)
   have z11:=m2.size
   refine Qf (Yb (Yv (Yb (Yv (Qi [true,true,true] Z Z (Qa (Qe Z) Z (Qa (Yw Z Z (K5 (by unfold maxLen;omega))) Z (Qa (Qg Z) Z (Qf (Yb (Yy (k + 1,w9.heap.size,w10.heap.size,o9,o10,o11,o12,o13,o14,o15,o16,((Yd g wx).1)) (by simp;omega) ⟨Z,Z,Z,Z,Z,trivial⟩ ⟨E,(by omega),hcu,h1,h2,ho1,(by omega),wl_take hcw,ws_take hsm,(by omega),(by omega),(by omega),(Worker.mkO ((Yd g wx).1) sp2 (Own.widen hw9 (by omega) (by omega)) (Own.widen hw10 (by omega) (by omega)) (Own.widen hw11 (by omega) (by omega)) (Own.widen hw12 (by omega) (by omega)) (Own.widen hw13 (by omega) (by omega)) (Own.widen hw14 (by omega) (by omega)) (Own.widen hw15 (by omega) (by omega)) (Own.widen hw16 (by omega) (by omega))),h3⟩)))))))))))
  ·have hc2n : ¬ dx3 = 0:=by first | (have h:=of_decide_eq_false hc2;omega) | (have h:=hc2;simp at h;omega)
   refine Qh (Qi [true,true] Z Z (Qa (Yq Z Z) Z (Qa (Qg Z) Z (Qf (Qw Z (fun hc3=>?_) (fun hc3=>?_))))))
   ·have hc3n : dx3 = 1:=by first | (have h:=of_decide_eq_true hc3;omega) | (have h:=hc3;simp at h;omega)
    refine Hd Xo [1] [(0,true),(1,true),(2,true),(3,false),(4,false)] [(5,false)] (by decide +kernel) Z Z (fun w'=>ModR w w' lo (lo + 1) ∧ w9.heap.size ≤ w'.heap.size ∧ CurO w' lo vb bs ∧ Blk w' b1 ([og,.int .i64 g.workers,.int .i64 g.cap]) ∧ Blk w' b2 [.slice none 0 0,.slice none 0 0,.slice none 0 0,.slice none 0 0,.slice none 0 0,.slice none 0 0,.slice none 0 0,.slice none 0 0] ∧ Own w' w2.heap.size w3.heap.size 5 v1 (List.flatMap (Enc.enc (α:=Record)) dx1) ∧ Own w' plo phi 5 p1 (List.flatMap (Enc.enc (α:=Record)) wx.queue) ∧ Own w' plo phi 5 p2 (List.flatMap (Enc.enc (α:=Record)) wx.staged) ∧ Own w' plo phi 5 p3 (List.flatMap (Enc.enc (α:=Record)) wx.inputs) ∧ Own w' plo phi 4 p4 (List.flatMap (Enc.enc (α:=Cell)) wx.cells) ∧ Own w' plo phi 1 p5 (List.flatMap (Enc.enc (α:=Int)) wx.sums) ∧ Own w' plo phi 1 p6 (List.flatMap (Enc.enc (α:=Bool)) wx.black) ∧ Own w' plo phi 1 p7 (List.flatMap (Enc.enc (α:=Bool)) wx.caps) ∧ Own w' plo phi 2 p8 (List.flatMap (Enc.enc (α:=Done)) wx.dones) ∧ Blk w' b3 [p1,p2,p3,p4,p5,p6,p7,p8]) (fun w12 e9=>?_)
    replace E:=E.ext e9;replace hcu:=hcu.ext e9;replace h1:=h1.ext e9;replace h2:=h2.ext e9;replace ho1:=ho1.ext e9;replace hp1:=hp1.ext e9;replace hp2:=hp2.ext e9;replace hp3:=hp3.ext e9;replace hp4:=hp4.ext e9;replace hp5:=hp5.ext e9;replace hp6:=hp6.ext e9;replace hp7:=hp7.ext e9;replace hp8:=hp8.ext e9;replace h3:=h3.ext e9
    have z12:=e9.size
    refine ⟨⟨E,(by omega),hcu,h1,h2,ho1,hp1,hp2,hp3,hp4,hp5,hp6,hp7,hp8,h3⟩,?_⟩
    refine G3 rfl (fun wX hX=>by obtain ⟨E,zX,hcu,h1,h2,ho1,hp1,hp2,hp3,hp4,hp5,hp6,hp7,hp8,h3⟩:=hX;exact Qo Q7 rfl h3.at rfl) rfl ?_
    refine U6 Z (fun wX=>Qe Z) Z ?_
    refine G3 rfl (fun wX hX=>by obtain ⟨E,zX,hcu,h1,h2,ho1,hp1,hp2,hp3,hp4,hp5,hp6,hp7,hp8,h3⟩:=hX;exact Qo Xt rfl h1.at rfl) rfl ?_
    refine Vr Z ?_
    refine Yu Tryz.call93 Z Z (s_l10Record lo vb bs og g _ hcu (RdD.modR hbs E (.inl (Nat.le_refl _))) (Stab.on hg E)) Z (fun _ w13 e10 hv=>?_)
    obtain ⟨dx4,hcu',hv⟩:=hv
    replace hcu:=hcu'
    subst hv
    replace E:=E.trans e10 (by omega) (by omega);replace h1:=h1.modR e10 (by omega);replace h2:=h2.modR e10 (by omega);replace ho1:=ho1.modR e10 (by omega);replace hp1:=hp1.modR e10 (by omega);replace hp2:=hp2.modR e10 (by omega);replace hp3:=hp3.modR e10 (by omega);replace hp4:=hp4.modR e10 (by omega);replace hp5:=hp5.modR e10 (by omega);replace hp6:=hp6.modR e10 (by omega);replace hp7:=hp7.modR e10 (by omega);replace hp8:=hp8.modR e10 (by omega);replace h3:=h3.modR e10 (by omega)
    have z13:=e10.size
    refine Ub ⟨E,(by omega),hcu,h1,h2,ho1,hp1,hp2,hp3,hp4,hp5,hp6,hp7,hp8,h3⟩ ?_
    refine Vr Z ?_
    refine Qv Tryz.call19 Z (s_Received [p1,p2,p3,p4,p5,p6,p7,p8] wx dx4 _ (Worker.mkR wx (RdD.any (Own.rdD hp1)) (RdD.any (Own.rdD hp2)) (RdD.any (Own.rdD hp3)) (RdD.any (Own.rdD hp4)) (RdD.any (Own.rdD hp5)) (RdD.any (Own.rdD hp6)) (RdD.any (Own.rdD hp7)) (RdD.any (Own.rdD hp8))) (by omega)) Z (fun _ w14 e11 ho5=>?_)
    obtain ⟨_,rfl,ho5⟩:=ho5
    have g_ho5 : w.heap.size ≤ w13.heap.size:=E.size
    replace E:=E.ext e11;replace hcu:=hcu.ext e11;replace h1:=h1.ext e11;replace h2:=h2.ext e11;replace ho1:=ho1.ext e11;replace hp1:=hp1.ext e11;replace hp2:=hp2.ext e11;replace hp3:=hp3.ext e11;replace hp4:=hp4.ext e11;replace hp5:=hp5.ext e11;replace hp6:=hp6.ext e11;replace hp7:=hp7.ext e11;replace hp8:=hp8.ext e11;replace h3:=h3.ext e11
    have z14:=e11.size
    obtain ⟨o17,o18,o19,o20,o21,o22,o23,o24,rfl,sp3,hw17,hw18,hw19,hw20,hw21,hw22,hw23,hw24⟩:=Worker.opO ho5
    refine Ub ⟨E,(by omega),hcu,h1,h2,ho1,hp1,hp2,hp3,hp4,hp5,hp6,hp7,hp8,h3⟩ ?_
    refine Hg ?_
    refine Qs (cs':=[o17,o18,o19,o20,o21,o22,o23,o24]) Q7 Z Z Z (Qb hw17.one (Qb hw18.one (Qb hw19.one (Qb hw20.one (Qb hw21.one (Qb hw22.one (Qb hw23.one (Qb hw24.one Z)))))))) h3 (Nat.le_of_ble_eq_true Z) Z (fun w15 m3 h3'=>?_)
    replace h3:=h3'
    replace E:=E.mod m3 (fun g hg=>by cases hg;omega);replace hcu:=hcu.mod m3 (fun g hg=>by cases hg;omega);replace h1:=h1.mod m3 (fun g hg=>by cases hg;omega);replace h2:=h2.mod m3 (fun g hg=>by cases hg;omega);replace ho1:=ho1.mod m3 (fun g hg=>by cases hg;omega);replace hp1:=hp1.mod m3 (fun g hg=>by cases hg;omega);replace hp2:=hp2.mod m3 (fun g hg=>by cases hg;omega);replace hp3:=hp3.mod m3 (fun g hg=>by cases hg;omega);replace hp4:=hp4.mod m3 (fun g hg=>by cases hg;omega);replace hp5:=hp5.mod m3 (fun g hg=>by cases hg;omega);replace hp6:=hp6.mod m3 (fun g hg=>by cases hg;omega);replace hp7:=hp7.mod m3 (fun g hg=>by cases hg;omega);replace hp8:=hp8.mod m3 (fun g hg=>by cases hg;omega);replace hw17:=hw17.mod m3 (fun g hg=>by cases hg;omega);replace hw18:=hw18.mod m3 (fun g hg=>by cases hg;omega);replace hw19:=hw19.mod m3 (fun g hg=>by cases hg;omega);replace hw20:=hw20.mod m3 (fun g hg=>by cases hg;omega);replace hw21:=hw21.mod m3 (fun g hg=>by cases hg;omega);replace hw22:=hw22.mod m3 (fun g hg=>by cases hg;omega);replace hw23:=hw23.mod m3 (fun g hg=>by cases hg;omega);replace hw24:=hw24.mod m3 (fun g hg=>by cases hg;omega)
    have z15:=m3.size
    refine Qf (Yb (Yv (Yb (Yv (Qi [true,true,true] Z Z (Qa (Qe Z) Z (Qa (Yw Z Z (K5 (by unfold maxLen;omega))) Z (Qa (Qg Z) Z (Qf (Yb (Yy (k + 1,w13.heap.size,w14.heap.size,o17,o18,o19,o20,o21,o22,o23,o24,(Ut wx dx4)) (by simp;omega) ⟨Z,Z,Z,Z,Z,trivial⟩ ⟨E,(by omega),hcu,h1,h2,ho1,(by omega),wl_recv hcw,ws_recv hsm,(by omega),(by omega),(by omega),(Worker.mkO (Ut wx dx4) sp3 (Own.widen hw17 (by omega) (by omega)) (Own.widen hw18 (by omega) (by omega)) (Own.widen hw19 (by omega) (by omega)) (Own.widen hw20 (by omega) (by omega)) (Own.widen hw21 (by omega) (by omega)) (Own.widen hw22 (by omega) (by omega)) (Own.widen hw23 (by omega) (by omega)) (Own.widen hw24 (by omega) (by omega))),h3⟩)))))))))))
   ·have hc3n : ¬ dx3 = 1:=by first | (have h:=of_decide_eq_false hc3;omega) | (have h:=hc3;simp at h;omega)
    refine Qh (Qi [true,true] Z Z (Qa (Yq Z Z) Z (Qa (Qg Z) Z (Qf (Qw Z (fun hc4=>?_) (fun hc4=>?_))))))
    ·have hc4n : dx3 = 2:=by first | (have h:=of_decide_eq_true hc4;omega) | (have h:=hc4;simp at h;omega)
     refine Qi [true,false,true,true,true,true,false] Z Z (Qa (Qo Q7 Z h3.at Z) Z (Qv Tryz.call18 Z (s_Unstaged [p1,p2,p3,p4,p5,p6,p7,p8] wx _ (Worker.mkR wx (RdD.any (Own.rdD hp1)) (RdD.any (Own.rdD hp2)) (RdD.any (Own.rdD hp3)) (RdD.any (Own.rdD hp4)) (RdD.any (Own.rdD hp5)) (RdD.any (Own.rdD hp6)) (RdD.any (Own.rdD hp7)) (RdD.any (Own.rdD hp8))) (by omega)) Z (fun _ w16 e12 ho6=>?_)))
     obtain ⟨_,rfl,ho7⟩:=ho6
     have g_ho6 : w.heap.size ≤ w9.heap.size:=E.size
     replace E:=E.ext e12;replace hcu:=hcu.ext e12;replace h1:=h1.ext e12;replace h2:=h2.ext e12;replace ho1:=ho1.ext e12;replace hp1:=hp1.ext e12;replace hp2:=hp2.ext e12;replace hp3:=hp3.ext e12;replace hp4:=hp4.ext e12;replace hp5:=hp5.ext e12;replace hp6:=hp6.ext e12;replace hp7:=hp7.ext e12;replace hp8:=hp8.ext e12;replace h3:=h3.ext e12
     have z16:=e12.size
     obtain ⟨o25,o26,o27,o28,o29,o30,o31,o32,rfl,sp4,hw25,hw26,hw27,hw28,hw29,hw30,hw31,hw32⟩:=Worker.opO ho7
     refine Qa (Qe Z) Z (Qa (Q5 Z Z) Z (Qa (Q5 Z Z) Z (Qa (Q5 Z Z) Z (Qs (cs':=[o25,o26,o27,o28,o29,o30,o31,o32]) Q7 Z Z Z (Qb hw25.one (Qb hw26.one (Qb hw27.one (Qb hw28.one (Qb hw29.one (Qb hw30.one (Qb hw31.one (Qb hw32.one Z)))))))) h3 (Nat.le_of_ble_eq_true Z) Z (fun w17 m4 h3'=>?_)))))
     replace h3:=h3'
     replace E:=E.mod m4 (fun g hg=>by cases hg;omega);replace hcu:=hcu.mod m4 (fun g hg=>by cases hg;omega);replace h1:=h1.mod m4 (fun g hg=>by cases hg;omega);replace h2:=h2.mod m4 (fun g hg=>by cases hg;omega);replace ho1:=ho1.mod m4 (fun g hg=>by cases hg;omega);replace hp1:=hp1.mod m4 (fun g hg=>by cases hg;omega);replace hp2:=hp2.mod m4 (fun g hg=>by cases hg;omega);replace hp3:=hp3.mod m4 (fun g hg=>by cases hg;omega);replace hp4:=hp4.mod m4 (fun g hg=>by cases hg;omega);replace hp5:=hp5.mod m4 (fun g hg=>by cases hg;omega);replace hp6:=hp6.mod m4 (fun g hg=>by cases hg;omega);replace hp7:=hp7.mod m4 (fun g hg=>by cases hg;omega);replace hp8:=hp8.mod m4 (fun g hg=>by cases hg;omega);replace hw25:=hw25.mod m4 (fun g hg=>by cases hg;omega);replace hw26:=hw26.mod m4 (fun g hg=>by cases hg;omega);replace hw27:=hw27.mod m4 (fun g hg=>by cases hg;omega);replace hw28:=hw28.mod m4 (fun g hg=>by cases hg;omega);replace hw29:=hw29.mod m4 (fun g hg=>by cases hg;omega);replace hw30:=hw30.mod m4 (fun g hg=>by cases hg;omega);replace hw31:=hw31.mod m4 (fun g hg=>by cases hg;omega);replace hw32:=hw32.mod m4 (fun g hg=>by cases hg;omega)
     have z17:=m4.size
     refine Qf (Yb (Yv (Yb (Yv (Qi [true,true,true] Z Z (Qa (Qe Z) Z (Qa (Yw Z Z (K5 (by unfold maxLen;omega))) Z (Qa (Qg Z) Z (Qf (Yb (Yy (k + 1,w9.heap.size,w16.heap.size,o25,o26,o27,o28,o29,o30,o31,o32,((Xa wx).1)) (by simp;omega) ⟨Z,Z,Z,Z,Z,trivial⟩ ⟨E,(by omega),hcu,h1,h2,ho1,(by omega),wl_unst hcw,ws_unst hsm,(by omega),(by omega),(by omega),(Worker.mkO ((Xa wx).1) sp4 (Own.widen hw25 (by omega) (by omega)) (Own.widen hw26 (by omega) (by omega)) (Own.widen hw27 (by omega) (by omega)) (Own.widen hw28 (by omega) (by omega)) (Own.widen hw29 (by omega) (by omega)) (Own.widen hw30 (by omega) (by omega)) (Own.widen hw31 (by omega) (by omega)) (Own.widen hw32 (by omega) (by omega))),h3⟩)))))))))))
    ·have hc4n : ¬ dx3 = 2:=by first | (have h:=of_decide_eq_false hc4;omega) | (have h:=hc4;simp at h;omega)
     refine Qi [true,true,false,true,true,true,false] Z Z (Qa (Qo Xt Z h1.at Z) Z (Qa (Qo Q7 Z h3.at Z) Z (Qv Tryz.call7 Z (s_WorkOn [og,.int .i64 g.workers,.int .i64 g.cap] g [p1,p2,p3,p4,p5,p6,p7,p8] wx _ (Graph.mkR g (RdD.any (hg _ E))) (Worker.mkR wx (RdD.any (Own.rdD hp1)) (RdD.any (Own.rdD hp2)) (RdD.any (Own.rdD hp3)) (RdD.any (Own.rdD hp4)) (RdD.any (Own.rdD hp5)) (RdD.any (Own.rdD hp6)) (RdD.any (Own.rdD hp7)) (RdD.any (Own.rdD hp8))) (by omega) hcg) Z (fun _ w18 e13 ho8=>?_))))
     obtain ⟨_,rfl,ho9⟩:=ho8
     have g_ho8 : w.heap.size ≤ w9.heap.size:=E.size
     replace E:=E.ext e13;replace hcu:=hcu.ext e13;replace h1:=h1.ext e13;replace h2:=h2.ext e13;replace ho1:=ho1.ext e13;replace hp1:=hp1.ext e13;replace hp2:=hp2.ext e13;replace hp3:=hp3.ext e13;replace hp4:=hp4.ext e13;replace hp5:=hp5.ext e13;replace hp6:=hp6.ext e13;replace hp7:=hp7.ext e13;replace hp8:=hp8.ext e13;replace h3:=h3.ext e13
     have z18:=e13.size
     obtain ⟨o33,o34,o35,o36,o37,o38,o39,o40,rfl,sp5,hw33,hw34,hw35,hw36,hw37,hw38,hw39,hw40⟩:=Worker.opO ho9
     refine Qa (Qe Z) Z (Qa (Q5 Z Z) Z (Qa (Q5 Z Z) Z (Qs (cs':=[o33,o34,o35,o36,o37,o38,o39,o40]) Q7 Z Z Z (Qb hw33.one (Qb hw34.one (Qb hw35.one (Qb hw36.one (Qb hw37.one (Qb hw38.one (Qb hw39.one (Qb hw40.one Z)))))))) h3 (Nat.le_of_ble_eq_true Z) Z (fun w19 m5 h3'=>?_))))
     replace h3:=h3'
     replace E:=E.mod m5 (fun g hg=>by cases hg;omega);replace hcu:=hcu.mod m5 (fun g hg=>by cases hg;omega);replace h1:=h1.mod m5 (fun g hg=>by cases hg;omega);replace h2:=h2.mod m5 (fun g hg=>by cases hg;omega);replace ho1:=ho1.mod m5 (fun g hg=>by cases hg;omega);replace hp1:=hp1.mod m5 (fun g hg=>by cases hg;omega);replace hp2:=hp2.mod m5 (fun g hg=>by cases hg;omega);replace hp3:=hp3.mod m5 (fun g hg=>by cases hg;omega);replace hp4:=hp4.mod m5 (fun g hg=>by cases hg;omega);replace hp5:=hp5.mod m5 (fun g hg=>by cases hg;omega);replace hp6:=hp6.mod m5 (fun g hg=>by cases hg;omega);replace hp7:=hp7.mod m5 (fun g hg=>by cases hg;omega);replace hp8:=hp8.mod m5 (fun g hg=>by cases hg;omega);replace hw33:=hw33.mod m5 (fun g hg=>by cases hg;omega);replace hw34:=hw34.mod m5 (fun g hg=>by cases hg;omega);replace hw35:=hw35.mod m5 (fun g hg=>by cases hg;omega);replace hw36:=hw36.mod m5 (fun g hg=>by cases hg;omega);replace hw37:=hw37.mod m5 (fun g hg=>by cases hg;omega);replace hw38:=hw38.mod m5 (fun g hg=>by cases hg;omega);replace hw39:=hw39.mod m5 (fun g hg=>by cases hg;omega);replace hw40:=hw40.mod m5 (fun g hg=>by cases hg;omega)
     have z19:=m5.size
     refine Qf (Yb (Yv (Yb (Yv (Qi [true,true,true] Z Z (Qa (Qe Z) Z (Qa (Yw Z Z (K5 (by unfold maxLen;omega))) Z (Qa (Qg Z) Z (Qf (Yb (Yy (k + 1,w9.heap.size,w18.heap.size,o33,o34,o35,o36,o37,o38,o39,o40,((Q2 g wx).1)) (by simp;omega) ⟨Z,Z,Z,Z,Z,trivial⟩ ⟨E,(by omega),hcu,h1,h2,ho1,(by omega),wl_work hcw,ws_work hsm,(by omega),(by omega),(by omega),(Worker.mkO ((Q2 g wx).1) sp5 (Own.widen hw33 (by omega) (by omega)) (Own.widen hw34 (by omega) (by omega)) (Own.widen hw35 (by omega) (by omega)) (Own.widen hw36 (by omega) (by omega)) (Own.widen hw37 (by omega) (by omega)) (Own.widen hw38 (by omega) (by omega)) (Own.widen hw39 (by omega) (by omega)) (Own.widen hw40 (by omega) (by omega))),h3⟩)))))))))))
 ·have hc1n : ¬ k < dx2:=by first | (have h:=of_decide_eq_false hc1;omega) | (have h:=hc1;simp at h;omega)
  refine Xl (Ys (Yj ?_))
  refine Qh (Qi [true,false] Z Z (Qa (Qo Q7 Z h3.at Z) Z (Qs (cs':=[p1,p2,p3,p4,p5,p6,p7,p8]) Q7 Z Z Z (Qb hp1.one (Qb hp2.one (Qb hp3.one (Qb hp4.one (Qb hp5.one (Qb hp6.one (Qb hp7.one (Qb hp8.one Z)))))))) h2 (Nat.le_of_ble_eq_true Z) Z (fun w20 m6 h2'=>?_))))
  replace h2:=h2'
  replace E:=E.mod m6 (fun g hg=>by cases hg;omega);replace hcu:=hcu.mod m6 (fun g hg=>by cases hg;omega);replace h1:=h1.mod m6 (fun g hg=>by cases hg;omega);replace ho1:=ho1.mod m6 (fun g hg=>by cases hg;omega);replace hp1:=hp1.mod m6 (fun g hg=>by cases hg;omega);replace hp2:=hp2.mod m6 (fun g hg=>by cases hg;omega);replace hp3:=hp3.mod m6 (fun g hg=>by cases hg;omega);replace hp4:=hp4.mod m6 (fun g hg=>by cases hg;omega);replace hp5:=hp5.mod m6 (fun g hg=>by cases hg;omega);replace hp6:=hp6.mod m6 (fun g hg=>by cases hg;omega);replace hp7:=hp7.mod m6 (fun g hg=>by cases hg;omega);replace hp8:=hp8.mod m6 (fun g hg=>by cases hg;omega);replace h3:=h3.mod m6 (fun g hg=>by cases hg;omega)
  have z20:=m6.size
  refine Qf (Qx (Y8 Z Z (Qu Q7 h2.at Z) E ?_))
  exact ⟨wx,(by omega),(by assumption),hcu,⟨_,Z,Worker.mkO wx gP (Own.widen hp1 (by omega) (by omega)) (Own.widen hp2 (by omega) (by omega)) (Own.widen hp3 (by omega) (by omega)) (Own.widen hp4 (by omega) (by omega)) (Own.widen hp5 (by omega) (by omega)) (Own.widen hp6 (by omega) (by omega)) (Own.widen hp7 (by omega) (by omega)) (Own.widen hp8 (by omega) (by omega))⟩⟩

set_option maxHeartbeats 4000000 in
set_option maxRecDepth 20000 in
theorem s_l12Any (lo : Nat) (vb : Value) (bs : List Byt) (og : Value) (g : Graph) (w : World) (hcu : CurO w lo vb bs) (hbs : RdD w 0 lo vb bs) (hg : Stab w lo (fun w'=>RdD w' 0 w'.heap.size og g.nodes)) (hcg : Uq g ≤ 1048576) : CtR Tryz.prog 50 [.pointer (some ⟨lo,0,none⟩),.agg [og,.int .i64 g.workers,.int .i64 g.cap].toArray] w lo (lo + 1) (fun v w'=>∃ (dr0 : Worker),Q4 dr0 ≤ 200 ∧ CurO w' lo vb bs ∧ ∃ cs,v = .agg cs.toArray ∧ Dat.R w' w.heap.size w'.heap.size cs dr0):=by
 have y_lo:=CurO.lt hcu
 refine U2 Tryz.func50 Z Tryz.ntmps50 Z ?_
 refine Yh [(0,.pointer (some ⟨lo,0,none⟩)),(1,.agg [og,.int .i64 g.workers,.int .i64 g.cap].toArray)] ⟨Z,Z,trivial⟩ ?_
 have E : ModR w w lo (lo + 1):=ModR.refl w lo (lo + 1)
 refine Qh (Qi [false,false] Z Z (Y5 Z Z (fun b1 w1 e1 s1 h1=>?_)))
 have g_b1 : w.heap.size ≤ b1:=by have:=E.size;omega
 have y_b1:=h1.lt
 replace E:=E.ext e1;replace hcu:=hcu.ext e1
 have z1:=e1.size
 refine Q6 Q7 Z (fun b2 w2 e2 s2 h2=>?_)
 have g_b2 : w.heap.size ≤ b2:=by have:=E.size;omega
 have y_b2:=h2.lt
 replace E:=E.ext e2;replace hcu:=hcu.ext e2;replace h1:=h1.ext e2
 have z2:=e2.size
 refine Qf (Qh (Qi [true,true,false,false,false] Z Z (Qa (Qe Z) Z (Qa (Qo Xt Z h1.at Z) Z (Yu Tryz.call73 Z Z (s_l12Worker lo vb bs og g _ hcu (RdD.modR hbs E (.inl (Nat.le_refl _))) (Stab.on hg E) hcg) Z (fun _ w3 e3 ho1=>?_))))))
 obtain ⟨dx1,q1,q2,hcu',ho1⟩:=ho1
 replace hcu:=hcu'
 obtain ⟨_,rfl,ho1⟩:=ho1
 have g_ho1 : w.heap.size ≤ w2.heap.size:=E.size
 replace E:=E.trans e3 (by omega) (by omega);replace h1:=h1.modR e3 (by omega);replace h2:=h2.modR e3 (by omega)
 have z3:=e3.size
 obtain ⟨o1,o2,o3,o4,o5,o6,o7,o8,rfl,sp1,hw1,hw2,hw3,hw4,hw5,hw6,hw7,hw8⟩:=Worker.opO ho1
 refine Q6 Q7 Z (fun b3 w4 e4 s3 h3=>?_)
 have g_b3 : w.heap.size ≤ b3:=by have:=E.size;omega
 have y_b3:=h3.lt
 replace E:=E.ext e4;replace hcu:=hcu.ext e4;replace h1:=h1.ext e4;replace h2:=h2.ext e4;replace hw1:=hw1.ext e4;replace hw2:=hw2.ext e4;replace hw3:=hw3.ext e4;replace hw4:=hw4.ext e4;replace hw5:=hw5.ext e4;replace hw6:=hw6.ext e4;replace hw7:=hw7.ext e4;replace hw8:=hw8.ext e4
 have z4:=e4.size
 refine Qs (cs':=[o1,o2,o3,o4,o5,o6,o7,o8]) Q7 Z Z Z (Qb hw1.one (Qb hw2.one (Qb hw3.one (Qb hw4.one (Qb hw5.one (Qb hw6.one (Qb hw7.one (Qb hw8.one Z)))))))) h3 (Nat.le_of_ble_eq_true Z) Z (fun w5 m1 h3'=>?_)
 replace h3:=h3'
 replace E:=E.mod m1 (fun g hg=>by cases hg;omega);replace hcu:=hcu.mod m1 (fun g hg=>by cases hg;omega);replace h1:=h1.mod m1 (fun g hg=>by cases hg;omega);replace h2:=h2.mod m1 (fun g hg=>by cases hg;omega);replace hw1:=hw1.mod m1 (fun g hg=>by cases hg;omega);replace hw2:=hw2.mod m1 (fun g hg=>by cases hg;omega);replace hw3:=hw3.mod m1 (fun g hg=>by cases hg;omega);replace hw4:=hw4.mod m1 (fun g hg=>by cases hg;omega);replace hw5:=hw5.mod m1 (fun g hg=>by cases hg;omega);replace hw6:=hw6.mod m1 (fun g hg=>by cases hg;omega);replace hw7:=hw7.mod m1 (fun g hg=>by cases hg;omega);replace hw8:=hw8.mod m1 (fun g hg=>by cases hg;omega)
 have z5:=m1.size
 refine Qf (Qh (Qh (Qi [true,false] Z Z (Qa (Qe Z) Z (Yu Tryz.call70 Z Z (s_l01Below lo vb bs 16 _ hcu (RdD.modR hbs E (.inl (Nat.le_refl _)))) Z (fun _ w6 e5 hv=>?_))))))
 obtain ⟨dx2,q3,q4,hcu',hv⟩:=hv
 replace hcu:=hcu'
 subst hv
 replace E:=E.trans e5 (by omega) (by omega);replace h1:=h1.modR e5 (by omega);replace h2:=h2.modR e5 (by omega);replace hw1:=hw1.modR e5 (by omega);replace hw2:=hw2.modR e5 (by omega);replace hw3:=hw3.modR e5 (by omega);replace hw4:=hw4.modR e5 (by omega);replace hw5:=hw5.modR e5 (by omega);replace hw6:=hw6.modR e5 (by omega);replace hw7:=hw7.modR e5 (by omega);replace hw8:=hw8.modR e5 (by omega);replace h3:=h3.modR e5 (by omega)
 have z6:=e5.size
 refine Qf (Q9 (Qh (Qi [true,true] Z Z (Qa (Yq Z Z) Z (Qa (Qg Z) Z (Qf (Qw Z (fun hc1=>?_) (fun hc1=>?_))))))))
 ·have hc1n : dx2 = 0:=by first | (have h:=of_decide_eq_true hc1;omega) | (have h:=hc1;simp at h;omega)
  refine Hd Xo [0,2,6] [(0,true),(1,true),(2,true),(3,false),(4,false),(5,false),(6,true)] [(7,false)] (by decide +kernel) Z Z (fun w'=>ModR w w' lo (lo + 1) ∧ w6.heap.size ≤ w'.heap.size ∧ CurO w' lo vb bs ∧ Blk w' b1 ([og,.int .i64 g.workers,.int .i64 g.cap]) ∧ Blk w' b2 [.slice none 0 0,.slice none 0 0,.slice none 0 0,.slice none 0 0,.slice none 0 0,.slice none 0 0,.slice none 0 0,.slice none 0 0] ∧ Own w' w2.heap.size w3.heap.size 5 o2 (List.flatMap (Enc.enc (α:=Record)) dx1.staged) ∧ Own w' w2.heap.size w3.heap.size 5 o3 (List.flatMap (Enc.enc (α:=Record)) dx1.inputs) ∧ Own w' w2.heap.size w3.heap.size 4 o4 (List.flatMap (Enc.enc (α:=Cell)) dx1.cells) ∧ Own w' w2.heap.size w3.heap.size 1 o5 (List.flatMap (Enc.enc (α:=Int)) dx1.sums) ∧ Own w' w2.heap.size w3.heap.size 1 o6 (List.flatMap (Enc.enc (α:=Bool)) dx1.black) ∧ Own w' w2.heap.size w3.heap.size 1 o7 (List.flatMap (Enc.enc (α:=Bool)) dx1.caps) ∧ Own w' w2.heap.size w3.heap.size 2 o8 (List.flatMap (Enc.enc (α:=Done)) dx1.dones) ∧ Blk w' b3 [o1,o2,o3,o4,o5,o6,o7,o8]) (fun w7 e6=>?_)
  replace E:=E.ext e6;replace hcu:=hcu.ext e6;replace h1:=h1.ext e6;replace h2:=h2.ext e6;replace hw1:=hw1.ext e6;replace hw2:=hw2.ext e6;replace hw3:=hw3.ext e6;replace hw4:=hw4.ext e6;replace hw5:=hw5.ext e6;replace hw6:=hw6.ext e6;replace hw7:=hw7.ext e6;replace hw8:=hw8.ext e6;replace h3:=h3.ext e6
  have z7:=e6.size
  refine ⟨⟨E,(by omega),hcu,h1,h2,hw2,hw3,hw4,hw5,hw6,hw7,hw8,h3⟩,?_⟩
  refine U6 Z (fun wX=>Qd Xj Z) Z ?_
  refine G3 rfl (fun wX hX=>by obtain ⟨E,zX,hcu,h1,h2,hw2,hw3,hw4,hw5,hw6,hw7,hw8,h3⟩:=hX;exact Qj Xi rfl (h3.one 0 rfl)) rfl ?_
  refine U6 Z (fun wX=>Qe Z) Z ?_
  refine Vr Z ?_
  refine Yu Tryz.call69 Z Z (s_l05Any lo vb bs _ hcu (RdD.modR hbs E (.inl (Nat.le_refl _)))) Z (fun _ w8 e7 hv=>?_)
  obtain ⟨dx3,hcu',hv⟩:=hv
  replace hcu:=hcu'
  subst hv
  replace E:=E.trans e7 (by omega) (by omega);replace h1:=h1.modR e7 (by omega);replace h2:=h2.modR e7 (by omega);replace hw1:=hw1.modR e7 (by omega);replace hw2:=hw2.modR e7 (by omega);replace hw3:=hw3.modR e7 (by omega);replace hw4:=hw4.modR e7 (by omega);replace hw5:=hw5.modR e7 (by omega);replace hw6:=hw6.modR e7 (by omega);replace hw7:=hw7.modR e7 (by omega);replace hw8:=hw8.modR e7 (by omega);replace h3:=h3.modR e7 (by omega)
  have z8:=e7.size
  refine Ub ⟨E,(by omega),hcu,h1,h2,hw2,hw3,hw4,hw5,hw6,hw7,hw8,h3⟩ ?_
  refine Vr Z ?_
  refine Q8 (vs:=[.agg (Enc.enc dx3).toArray]) (css:=[[.int .i64 dx3.op,.int .i64 dx3.stamp.epoch,.int .i64 dx3.stamp.turn,.int .i64 dx3.key,.int .i64 dx3.val]]) X3 Z Z ⟨⟨Z,Z⟩,trivial⟩ Z Z (fun b4 w9 e8 s4 h4=>?_)
  replace h4 : Blk w9 b4 [.int .i64 dx3.op,.int .i64 dx3.stamp.epoch,.int .i64 dx3.stamp.turn,.int .i64 dx3.key,.int .i64 dx3.val]:=h4
  have g_b4 : w.heap.size ≤ b4:=by have:=E.size;omega
  have y_b4:=h4.lt
  replace E:=E.ext e8;replace hcu:=hcu.ext e8;replace h1:=h1.ext e8;replace h2:=h2.ext e8;replace hw1:=hw1.ext e8;replace hw2:=hw2.ext e8;replace hw3:=hw3.ext e8;replace hw4:=hw4.ext e8;replace hw5:=hw5.ext e8;replace hw6:=hw6.ext e8;replace hw7:=hw7.ext e8;replace hw8:=hw8.ext e8;replace h3:=h3.ext e8
  have z9:=e8.size
  refine Ub ⟨E,(by omega),hcu,h1,h2,hw2,hw3,hw4,hw5,hw6,hw7,hw8,h3⟩ ?_
  refine Vr Z ?_
  refine Kd X3 Z Z hw1 (Src.ofBlk h4 Z) Z (by unfold Q4 at q1;simp only [Ya,List.length_cons,List.length_nil];simp only [Enc.sz];omega) (by decide) (by omega) (by omega) Z Z (fun v1 w10 m2 ho2 hb1=>?_)
  have hn1 : ∀ g,Value.ownBlock v1 = some g → g < w3.heap.size ∨ w9.heap.size ≤ g:=fun g hg=>(hb1 g hg).elim (fun h=>.inl (by have:=Own.blk hw1 g h;omega)) (fun h=>.inr h)
  have sq1:=sp1
  replace sp1:=SepL.set hb1 0 rfl sp1 ⟨(Own.lt hw1),(Own.lt hw2),(Own.lt hw3),(Own.lt hw4),(Own.lt hw5),(Own.lt hw6),(Own.lt hw7),(Own.lt hw8),trivial⟩
  replace sp1 : SepL [v1,o2,o3,o4,o5,o6,o7,o8]:=sp1
  replace E:=E.mod m2 (fun g hg=>by have:=Own.blk hw1 g hg;omega);replace hcu:=hcu.mod m2 (fun g hg=>by have:=Own.blk hw1 g hg;omega);replace h1:=h1.mod m2 (fun g hg=>by have:=Own.blk hw1 g hg;omega);replace h2:=h2.mod m2 (fun g hg=>by have:=Own.blk hw1 g hg;omega);replace hw2:=Own.modS hw2 m2 sq1.1.1;replace hw3:=Own.modS hw3 m2 sq1.1.2.1;replace hw4:=Own.modS hw4 m2 sq1.1.2.2.1;replace hw5:=Own.modS hw5 m2 sq1.1.2.2.2.1;replace hw6:=Own.modS hw6 m2 sq1.1.2.2.2.2.1;replace hw7:=Own.modS hw7 m2 sq1.1.2.2.2.2.2.1;replace hw8:=Own.modS hw8 m2 sq1.1.2.2.2.2.2.2.1;replace h3:=h3.mod m2 (fun g hg=>by have:=Own.blk hw1 g hg;omega)
  have z10:=m2.size
  replace ho2 : Own w10 w2.heap.size w10.heap.size 5 v1 (List.flatMap (Enc.enc (α:=Record)) (dx1.queue ++ [dx3])):=by rw [List.flatMap_append];exact ho2
  refine Ub ⟨E,(by omega),hcu,h1,h2,hw2,hw3,hw4,hw5,hw6,hw7,hw8,h3⟩ ?_
  refine U6 Z (fun wX=>Qd Xj Z) Z ?_
  refine Hg ?_
  refine Y4 (cs':=[v1,o2,o3,o4,o5,o6,o7,o8]) Xi Z Z ho2.one h3 (Nat.le_of_ble_eq_true Z) Z (fun w11 m3 h3'=>?_)
  replace h3:=h3'
  replace E:=E.mod m3 (fun g hg=>by cases hg;omega);replace hcu:=hcu.mod m3 (fun g hg=>by cases hg;omega);replace h1:=h1.mod m3 (fun g hg=>by cases hg;omega);replace h2:=h2.mod m3 (fun g hg=>by cases hg;omega);replace hw2:=hw2.mod m3 (fun g hg=>by cases hg;omega);replace hw3:=hw3.mod m3 (fun g hg=>by cases hg;omega);replace hw4:=hw4.mod m3 (fun g hg=>by cases hg;omega);replace hw5:=hw5.mod m3 (fun g hg=>by cases hg;omega);replace hw6:=hw6.mod m3 (fun g hg=>by cases hg;omega);replace hw7:=hw7.mod m3 (fun g hg=>by cases hg;omega);replace hw8:=hw8.mod m3 (fun g hg=>by cases hg;omega);replace ho2:=Own.modN ho2 m3 (fun g hg hv=>by have hN:=hn1 g hv;have hB:=Own.blk ho2 g hv;cases hg;omega)
  have z11:=m3.size
  refine Qf (Yb (Yv (Qh (Qi [true,false] Z Z (Qa (Qo Q7 Z h3.at Z) Z (Qs (cs':=[v1,o2,o3,o4,o5,o6,o7,o8]) Q7 Z Z Z (Qb ho2.one (Qb hw2.one (Qb hw3.one (Qb hw4.one (Qb hw5.one (Qb hw6.one (Qb hw7.one (Qb hw8.one Z)))))))) h2 (Nat.le_of_ble_eq_true Z) Z (fun w12 m4 h2'=>?_)))))))
  replace h2:=h2'
  replace E:=E.mod m4 (fun g hg=>by cases hg;omega);replace hcu:=hcu.mod m4 (fun g hg=>by cases hg;omega);replace h1:=h1.mod m4 (fun g hg=>by cases hg;omega);replace hw2:=hw2.mod m4 (fun g hg=>by cases hg;omega);replace hw3:=hw3.mod m4 (fun g hg=>by cases hg;omega);replace hw4:=hw4.mod m4 (fun g hg=>by cases hg;omega);replace hw5:=hw5.mod m4 (fun g hg=>by cases hg;omega);replace hw6:=hw6.mod m4 (fun g hg=>by cases hg;omega);replace hw7:=hw7.mod m4 (fun g hg=>by cases hg;omega);replace hw8:=hw8.mod m4 (fun g hg=>by cases hg;omega);replace h3:=h3.mod m4 (fun g hg=>by cases hg;omega);replace ho2:=Own.modN ho2 m4 (fun g hg hv=>by have hN:=hn1 g hv;have hB:=Own.blk ho2 g hv;cases hg;omega)
  have z12:=m4.size
  refine Qf (Qx (Y8 Z Z (Qu Q7 h2.at Z) E ?_))
  exact ⟨(⟨dx1.queue ++ [dx3],dx1.staged,dx1.inputs,dx1.cells,dx1.sums,dx1.black,dx1.caps,dx1.dones⟩ : Worker),(by first | omega | (simp only [Q4,List.length_append,List.length_cons,List.length_nil,List.length_take,List.length_set] at *;omega)),hcu,⟨_,Z,Worker.mkR (⟨dx1.queue ++ [dx3],dx1.staged,dx1.inputs,dx1.cells,dx1.sums,dx1.black,dx1.caps,dx1.dones⟩ : Worker) (RdD.widen (Own.rdD ho2) (by have:=E.size;omega) (by omega)) (RdD.widen (Own.rdD hw2) (by have:=E.size;omega) (by omega)) (RdD.widen (Own.rdD hw3) (by have:=E.size;omega) (by omega)) (RdD.widen (Own.rdD hw4) (by have:=E.size;omega) (by omega)) (RdD.widen (Own.rdD hw5) (by have:=E.size;omega) (by omega)) (RdD.widen (Own.rdD hw6) (by have:=E.size;omega) (by omega)) (RdD.widen (Own.rdD hw7) (by have:=E.size;omega) (by omega)) (RdD.widen (Own.rdD hw8) (by have:=E.size;omega) (by omega))⟩⟩
 ·have hc1n : ¬ dx2 = 0:=by first | (have h:=of_decide_eq_false hc1;omega) | (have h:=hc1;simp at h;omega)
  refine Qh (Qi [true,true] Z Z (Qa (Yq Z Z) Z (Qa (Qg Z) Z (Qf (Qw Z (fun hc2=>?_) (fun hc2=>?_))))))
  ·have hc2n : dx2 = 1:=by first | (have h:=of_decide_eq_true hc2;omega) | (have h:=hc2;simp at h;omega)
   refine Hd Xo [0,2,6] [(0,true),(1,true),(2,true),(3,false),(4,false),(5,false),(6,true)] [(7,false)] (by decide +kernel) Z Z (fun w'=>ModR w w' lo (lo + 1) ∧ w6.heap.size ≤ w'.heap.size ∧ CurO w' lo vb bs ∧ Blk w' b1 ([og,.int .i64 g.workers,.int .i64 g.cap]) ∧ Blk w' b2 [.slice none 0 0,.slice none 0 0,.slice none 0 0,.slice none 0 0,.slice none 0 0,.slice none 0 0,.slice none 0 0,.slice none 0 0] ∧ Own w' w2.heap.size w3.heap.size 5 o1 (List.flatMap (Enc.enc (α:=Record)) dx1.queue) ∧ Own w' w2.heap.size w3.heap.size 5 o2 (List.flatMap (Enc.enc (α:=Record)) dx1.staged) ∧ Own w' w2.heap.size w3.heap.size 4 o4 (List.flatMap (Enc.enc (α:=Cell)) dx1.cells) ∧ Own w' w2.heap.size w3.heap.size 1 o5 (List.flatMap (Enc.enc (α:=Int)) dx1.sums) ∧ Own w' w2.heap.size w3.heap.size 1 o6 (List.flatMap (Enc.enc (α:=Bool)) dx1.black) ∧ Own w' w2.heap.size w3.heap.size 1 o7 (List.flatMap (Enc.enc (α:=Bool)) dx1.caps) ∧ Own w' w2.heap.size w3.heap.size 2 o8 (List.flatMap (Enc.enc (α:=Done)) dx1.dones) ∧ Blk w' b3 [o1,o2,o3,o4,o5,o6,o7,o8]) (fun w13 e9=>?_)
   replace E:=E.ext e9;replace hcu:=hcu.ext e9;replace h1:=h1.ext e9;replace h2:=h2.ext e9;replace hw1:=hw1.ext e9;replace hw2:=hw2.ext e9;replace hw3:=hw3.ext e9;replace hw4:=hw4.ext e9;replace hw5:=hw5.ext e9;replace hw6:=hw6.ext e9;replace hw7:=hw7.ext e9;replace hw8:=hw8.ext e9;replace h3:=h3.ext e9
   have z13:=e9.size
   refine ⟨⟨E,(by omega),hcu,h1,h2,hw1,hw2,hw4,hw5,hw6,hw7,hw8,h3⟩,?_⟩
   refine U6 Z (fun wX=>Qd Kc Z) Z ?_
   refine G3 rfl (fun wX hX=>by obtain ⟨E,zX,hcu,h1,h2,hw1,hw2,hw4,hw5,hw6,hw7,hw8,h3⟩:=hX;exact Qj Xi rfl (h3.one 2 rfl)) rfl ?_
   refine U6 Z (fun wX=>Qe Z) Z ?_
   refine Vr Z ?_
   refine Yu Tryz.call74 Z Z (s_l05Record lo vb bs _ hcu (RdD.modR hbs E (.inl (Nat.le_refl _)))) Z (fun _ w14 e10 hv=>?_)
   obtain ⟨dx4,hcu',hv⟩:=hv
   replace hcu:=hcu'
   subst hv
   replace E:=E.trans e10 (by omega) (by omega);replace h1:=h1.modR e10 (by omega);replace h2:=h2.modR e10 (by omega);replace hw1:=hw1.modR e10 (by omega);replace hw2:=hw2.modR e10 (by omega);replace hw3:=hw3.modR e10 (by omega);replace hw4:=hw4.modR e10 (by omega);replace hw5:=hw5.modR e10 (by omega);replace hw6:=hw6.modR e10 (by omega);replace hw7:=hw7.modR e10 (by omega);replace hw8:=hw8.modR e10 (by omega);replace h3:=h3.modR e10 (by omega)
   have z14:=e10.size
   refine Ub ⟨E,(by omega),hcu,h1,h2,hw1,hw2,hw4,hw5,hw6,hw7,hw8,h3⟩ ?_
   refine Vr Z ?_
   refine Q8 (vs:=[.agg (Enc.enc dx4).toArray]) (css:=[[.int .i64 dx4.op,.int .i64 dx4.stamp.epoch,.int .i64 dx4.stamp.turn,.int .i64 dx4.key,.int .i64 dx4.val]]) X3 Z Z ⟨⟨Z,Z⟩,trivial⟩ Z Z (fun b5 w15 e11 s5 h5=>?_)
   replace h5 : Blk w15 b5 [.int .i64 dx4.op,.int .i64 dx4.stamp.epoch,.int .i64 dx4.stamp.turn,.int .i64 dx4.key,.int .i64 dx4.val]:=h5
   have g_b5 : w.heap.size ≤ b5:=by have:=E.size;omega
   have y_b5:=h5.lt
   replace E:=E.ext e11;replace hcu:=hcu.ext e11;replace h1:=h1.ext e11;replace h2:=h2.ext e11;replace hw1:=hw1.ext e11;replace hw2:=hw2.ext e11;replace hw3:=hw3.ext e11;replace hw4:=hw4.ext e11;replace hw5:=hw5.ext e11;replace hw6:=hw6.ext e11;replace hw7:=hw7.ext e11;replace hw8:=hw8.ext e11;replace h3:=h3.ext e11
   have z15:=e11.size
   refine Ub ⟨E,(by omega),hcu,h1,h2,hw1,hw2,hw4,hw5,hw6,hw7,hw8,h3⟩ ?_
   refine Vr Z ?_
   refine Kd X3 Z Z hw3 (Src.ofBlk h5 Z) Z (by unfold Q4 at q1;simp only [Ya,List.length_cons,List.length_nil];simp only [Enc.sz];omega) (by decide) (by omega) (by omega) Z Z (fun v2 w16 m5 ho3 hb2=>?_)
   have hn2 : ∀ g,Value.ownBlock v2 = some g → g < w3.heap.size ∨ w15.heap.size ≤ g:=fun g hg=>(hb2 g hg).elim (fun h=>.inl (by have:=Own.blk hw3 g h;omega)) (fun h=>.inr h)
   have sq2:=sp1
   replace sp1:=SepL.set hb2 2 rfl sp1 ⟨(Own.lt hw1),(Own.lt hw2),(Own.lt hw3),(Own.lt hw4),(Own.lt hw5),(Own.lt hw6),(Own.lt hw7),(Own.lt hw8),trivial⟩
   replace sp1 : SepL [o1,o2,v2,o4,o5,o6,o7,o8]:=sp1
   replace E:=E.mod m5 (fun g hg=>by have:=Own.blk hw3 g hg;omega);replace hcu:=hcu.mod m5 (fun g hg=>by have:=Own.blk hw3 g hg;omega);replace h1:=h1.mod m5 (fun g hg=>by have:=Own.blk hw3 g hg;omega);replace h2:=h2.mod m5 (fun g hg=>by have:=Own.blk hw3 g hg;omega);replace hw1:=Own.modS hw1 m5 (sq2.1.2.1).symm;replace hw2:=Own.modS hw2 m5 (sq2.2.1.1).symm;replace hw4:=Own.modS hw4 m5 sq2.2.2.1.1;replace hw5:=Own.modS hw5 m5 sq2.2.2.1.2.1;replace hw6:=Own.modS hw6 m5 sq2.2.2.1.2.2.1;replace hw7:=Own.modS hw7 m5 sq2.2.2.1.2.2.2.1;replace hw8:=Own.modS hw8 m5 sq2.2.2.1.2.2.2.2.1;replace h3:=h3.mod m5 (fun g hg=>by have:=Own.blk hw3 g hg;omega)
   have z16:=m5.size
   replace ho3 : Own w16 w2.heap.size w16.heap.size 5 v2 (List.flatMap (Enc.enc (α:=Record)) (dx1.inputs ++ [dx4])):=by rw [List.flatMap_append];exact ho3
   refine Ub ⟨E,(by omega),hcu,h1,h2,hw1,hw2,hw4,hw5,hw6,hw7,hw8,h3⟩ ?_
   refine U6 Z (fun wX=>Qd Kc Z) Z ?_
   refine Hg ?_
   refine Y4 (cs':=[o1,o2,v2,o4,o5,o6,o7,o8]) Xi Z Z ho3.one h3 (Nat.le_of_ble_eq_true Z) Z (fun w17 m6 h3'=>?_)
   replace h3:=h3'
   replace E:=E.mod m6 (fun g hg=>by cases hg;omega);replace hcu:=hcu.mod m6 (fun g hg=>by cases hg;omega);replace h1:=h1.mod m6 (fun g hg=>by cases hg;omega);replace h2:=h2.mod m6 (fun g hg=>by cases hg;omega);replace hw1:=hw1.mod m6 (fun g hg=>by cases hg;omega);replace hw2:=hw2.mod m6 (fun g hg=>by cases hg;omega);replace hw4:=hw4.mod m6 (fun g hg=>by cases hg;omega);replace hw5:=hw5.mod m6 (fun g hg=>by cases hg;omega);replace hw6:=hw6.mod m6 (fun g hg=>by cases hg;omega);replace hw7:=hw7.mod m6 (fun g hg=>by cases hg;omega);replace hw8:=hw8.mod m6 (fun g hg=>by cases hg;omega);replace ho3:=Own.modN ho3 m6 (fun g hg hv=>by have hN:=hn2 g hv;have hB:=Own.blk ho3 g hv;cases hg;omega)
   have z17:=m6.size
   refine Qf (Yb (Yv (Qh (Qi [true,false] Z Z (Qa (Qo Q7 Z h3.at Z) Z (Qs (cs':=[o1,o2,v2,o4,o5,o6,o7,o8]) Q7 Z Z Z (Qb hw1.one (Qb hw2.one (Qb ho3.one (Qb hw4.one (Qb hw5.one (Qb hw6.one (Qb hw7.one (Qb hw8.one Z)))))))) h2 (Nat.le_of_ble_eq_true Z) Z (fun w18 m7 h2'=>?_)))))))
   replace h2:=h2'
   replace E:=E.mod m7 (fun g hg=>by cases hg;omega);replace hcu:=hcu.mod m7 (fun g hg=>by cases hg;omega);replace h1:=h1.mod m7 (fun g hg=>by cases hg;omega);replace hw1:=hw1.mod m7 (fun g hg=>by cases hg;omega);replace hw2:=hw2.mod m7 (fun g hg=>by cases hg;omega);replace hw4:=hw4.mod m7 (fun g hg=>by cases hg;omega);replace hw5:=hw5.mod m7 (fun g hg=>by cases hg;omega);replace hw6:=hw6.mod m7 (fun g hg=>by cases hg;omega);replace hw7:=hw7.mod m7 (fun g hg=>by cases hg;omega);replace hw8:=hw8.mod m7 (fun g hg=>by cases hg;omega);replace h3:=h3.mod m7 (fun g hg=>by cases hg;omega);replace ho3:=Own.modN ho3 m7 (fun g hg hv=>by have hN:=hn2 g hv;have hB:=Own.blk ho3 g hv;cases hg;omega)
   have z18:=m7.size
   refine Qf (Qx (Y8 Z Z (Qu Q7 h2.at Z) E ?_))
   exact ⟨(⟨dx1.queue,dx1.staged,dx1.inputs ++ [dx4],dx1.cells,dx1.sums,dx1.black,dx1.caps,dx1.dones⟩ : Worker),(by first | omega | (simp only [Q4,List.length_append,List.length_cons,List.length_nil,List.length_take,List.length_set] at *;omega)),hcu,⟨_,Z,Worker.mkR (⟨dx1.queue,dx1.staged,dx1.inputs ++ [dx4],dx1.cells,dx1.sums,dx1.black,dx1.caps,dx1.dones⟩ : Worker) (RdD.widen (Own.rdD hw1) (by have:=E.size;omega) (by omega)) (RdD.widen (Own.rdD hw2) (by have:=E.size;omega) (by omega)) (RdD.widen (Own.rdD ho3) (by have:=E.size;omega) (by omega)) (RdD.widen (Own.rdD hw4) (by have:=E.size;omega) (by omega)) (RdD.widen (Own.rdD hw5) (by have:=E.size;omega) (by omega)) (RdD.widen (Own.rdD hw6) (by have:=E.size;omega) (by omega)) (RdD.widen (Own.rdD hw7) (by have:=E.size;omega) (by omega)) (RdD.widen (Own.rdD hw8) (by have:=E.size;omega) (by omega))⟩⟩
  ·have hc2n : ¬ dx2 = 1:=by first | (have h:=of_decide_eq_false hc2;omega) | (have h:=hc2;simp at h;omega)
   refine Qh (Qi [true,true] Z Z (Qa (Yq Z Z) Z (Qa (Qg Z) Z (Qf (Qw Z (fun hc3=>?_) (fun hc3=>?_))))))
   ·have hc3n : dx2 = 2:=by first | (have h:=of_decide_eq_true hc3;omega) | (have h:=hc3;simp at h;omega)
    refine Hd Xo [0,2,5] [(0,true),(1,true),(2,true),(3,false),(4,true),(5,true)] [(6,false)] (by decide +kernel) Z Z (fun w'=>ModR w w' lo (lo + 1) ∧ w6.heap.size ≤ w'.heap.size ∧ CurO w' lo vb bs ∧ Blk w' b1 ([og,.int .i64 g.workers,.int .i64 g.cap]) ∧ Blk w' b2 [.slice none 0 0,.slice none 0 0,.slice none 0 0,.slice none 0 0,.slice none 0 0,.slice none 0 0,.slice none 0 0,.slice none 0 0] ∧ Own w' w2.heap.size w3.heap.size 5 o1 (List.flatMap (Enc.enc (α:=Record)) dx1.queue) ∧ Own w' w2.heap.size w3.heap.size 5 o2 (List.flatMap (Enc.enc (α:=Record)) dx1.staged) ∧ Own w' w2.heap.size w3.heap.size 5 o3 (List.flatMap (Enc.enc (α:=Record)) dx1.inputs) ∧ Own w' w2.heap.size w3.heap.size 4 o4 (List.flatMap (Enc.enc (α:=Cell)) dx1.cells) ∧ Own w' w2.heap.size w3.heap.size 1 o5 (List.flatMap (Enc.enc (α:=Int)) dx1.sums) ∧ Own w' w2.heap.size w3.heap.size 1 o6 (List.flatMap (Enc.enc (α:=Bool)) dx1.black) ∧ Own w' w2.heap.size w3.heap.size 1 o7 (List.flatMap (Enc.enc (α:=Bool)) dx1.caps) ∧ Own w' w2.heap.size w3.heap.size 2 o8 (List.flatMap (Enc.enc (α:=Done)) dx1.dones) ∧ Blk w' b3 [o1,o2,o3,o4,o5,o6,o7,o8]) (fun w19 e12=>?_)
    replace E:=E.ext e12;replace hcu:=hcu.ext e12;replace h1:=h1.ext e12;replace h2:=h2.ext e12;replace hw1:=hw1.ext e12;replace hw2:=hw2.ext e12;replace hw3:=hw3.ext e12;replace hw4:=hw4.ext e12;replace hw5:=hw5.ext e12;replace hw6:=hw6.ext e12;replace hw7:=hw7.ext e12;replace hw8:=hw8.ext e12;replace h3:=h3.ext e12
    have z19:=e12.size
    refine ⟨⟨E,(by omega),hcu,h1,h2,hw1,hw2,hw3,hw4,hw5,hw6,hw7,hw8,h3⟩,?_⟩
    refine U6 Z (fun wX=>Qd Uc Z) Z ?_
    refine G3 rfl (fun wX hX=>by obtain ⟨E,zX,hcu,h1,h2,hw1,hw2,hw3,hw4,hw5,hw6,hw7,hw8,h3⟩:=hX;exact Qj Kg rfl (h3.one 4 rfl)) rfl ?_
    refine U6 Z (fun wX=>Qe Z) Z ?_
    refine Vr Z ?_
    refine Yu Tryz.call70 Z Z (s_l01Below lo vb bs 4 _ hcu (RdD.modR hbs E (.inl (Nat.le_refl _)))) Z (fun _ w20 e13 hv=>?_)
    obtain ⟨dx5,q5,q6,hcu',hv⟩:=hv
    replace hcu:=hcu'
    subst hv
    replace E:=E.trans e13 (by omega) (by omega);replace h1:=h1.modR e13 (by omega);replace h2:=h2.modR e13 (by omega);replace hw1:=hw1.modR e13 (by omega);replace hw2:=hw2.modR e13 (by omega);replace hw3:=hw3.modR e13 (by omega);replace hw4:=hw4.modR e13 (by omega);replace hw5:=hw5.modR e13 (by omega);replace hw6:=hw6.modR e13 (by omega);replace hw7:=hw7.modR e13 (by omega);replace hw8:=hw8.modR e13 (by omega);replace h3:=h3.modR e13 (by omega)
    have z20:=e13.size
    refine Ub ⟨E,(by omega),hcu,h1,h2,hw1,hw2,hw3,hw4,hw5,hw6,hw7,hw8,h3⟩ ?_
    have hk1 : dx5 ≤ dx1.sums.length:=by first | assumption | omega
    have hs1 : RdD (α:=Int) w20 w2.heap.size w3.heap.size (slTo o5 dx5) (List.take dx5 dx1.sums):=RdB.slTo (Own.rdD hw5) hk1
    refine G3 rfl (fun wX hX=>by obtain ⟨E,zX,hcu,h1,h2,hw1,hw2,hw3,hw4,hw5,hw6,hw7,hw8,h3⟩:=hX;exact Hp Ke rfl rfl (RdL.room (Own.rdD hw5).1) hk1) rfl ?_
    refine U6 Z (fun wX=>Qd Uc Z) Z ?_
    refine Hg ?_
    refine Y4 (cs':=[o1,o2,o3,o4,slTo o5 dx5,o6,o7,o8]) Kg Z Z (RdD.one hs1) h3 (Nat.le_of_ble_eq_true Z) Z (fun w21 m8 h3'=>?_)
    replace h3:=h3'
    replace E:=E.mod m8 (fun g hg=>by cases hg;omega);replace hcu:=hcu.mod m8 (fun g hg=>by cases hg;omega);replace h1:=h1.mod m8 (fun g hg=>by cases hg;omega);replace h2:=h2.mod m8 (fun g hg=>by cases hg;omega);replace hw1:=hw1.mod m8 (fun g hg=>by cases hg;omega);replace hw2:=hw2.mod m8 (fun g hg=>by cases hg;omega);replace hw3:=hw3.mod m8 (fun g hg=>by cases hg;omega);replace hw4:=hw4.mod m8 (fun g hg=>by cases hg;omega);replace hw5:=hw5.mod m8 (fun g hg=>by cases hg;omega);replace hw6:=hw6.mod m8 (fun g hg=>by cases hg;omega);replace hw7:=hw7.mod m8 (fun g hg=>by cases hg;omega);replace hw8:=hw8.mod m8 (fun g hg=>by cases hg;omega);replace hs1:=hs1.mod m8 (fun g hg=>by cases hg;omega)
    have z21:=m8.size
    refine Qf (Yb (Yv (Qh (Qi [true,false] Z Z (Qa (Qo Q7 Z h3.at Z) Z (Qs (cs':=[o1,o2,o3,o4,slTo o5 dx5,o6,o7,o8]) Q7 Z Z Z (Qb hw1.one (Qb hw2.one (Qb hw3.one (Qb hw4.one (Qb (RdD.one hs1) (Qb hw6.one (Qb hw7.one (Qb hw8.one Z)))))))) h2 (Nat.le_of_ble_eq_true Z) Z (fun w22 m9 h2'=>?_)))))))
    replace h2:=h2'
    replace E:=E.mod m9 (fun g hg=>by cases hg;omega);replace hcu:=hcu.mod m9 (fun g hg=>by cases hg;omega);replace h1:=h1.mod m9 (fun g hg=>by cases hg;omega);replace hw1:=hw1.mod m9 (fun g hg=>by cases hg;omega);replace hw2:=hw2.mod m9 (fun g hg=>by cases hg;omega);replace hw3:=hw3.mod m9 (fun g hg=>by cases hg;omega);replace hw4:=hw4.mod m9 (fun g hg=>by cases hg;omega);replace hw5:=hw5.mod m9 (fun g hg=>by cases hg;omega);replace hw6:=hw6.mod m9 (fun g hg=>by cases hg;omega);replace hw7:=hw7.mod m9 (fun g hg=>by cases hg;omega);replace hw8:=hw8.mod m9 (fun g hg=>by cases hg;omega);replace h3:=h3.mod m9 (fun g hg=>by cases hg;omega);replace hs1:=hs1.mod m9 (fun g hg=>by cases hg;omega)
    have z22:=m9.size
    refine Qf (Qx (Y8 Z Z (Qu Q7 h2.at Z) E ?_))
    exact ⟨(⟨dx1.queue,dx1.staged,dx1.inputs,dx1.cells,List.take dx5 dx1.sums,dx1.black,dx1.caps,dx1.dones⟩ : Worker),(by first | omega | (simp only [Q4,List.length_append,List.length_cons,List.length_nil,List.length_take,List.length_set] at *;omega)),hcu,⟨_,Z,Worker.mkR (⟨dx1.queue,dx1.staged,dx1.inputs,dx1.cells,List.take dx5 dx1.sums,dx1.black,dx1.caps,dx1.dones⟩ : Worker) (RdD.widen (Own.rdD hw1) (by have:=E.size;omega) (by omega)) (RdD.widen (Own.rdD hw2) (by have:=E.size;omega) (by omega)) (RdD.widen (Own.rdD hw3) (by have:=E.size;omega) (by omega)) (RdD.widen (Own.rdD hw4) (by have:=E.size;omega) (by omega)) (RdD.widen hs1 (by have:=E.size;omega) (by omega)) (RdD.widen (Own.rdD hw6) (by have:=E.size;omega) (by omega)) (RdD.widen (Own.rdD hw7) (by have:=E.size;omega) (by omega)) (RdD.widen (Own.rdD hw8) (by have:=E.size;omega) (by omega))⟩⟩
   ·have hc3n : ¬ dx2 = 2:=by first | (have h:=of_decide_eq_false hc3;omega) | (have h:=hc3;simp at h;omega)
    refine Qh (Qi [true,true] Z Z (Qa (Yq Z Z) Z (Qa (Qg Z) Z (Qf (Qw Z (fun hc4=>?_) (fun hc4=>?_))))))
    ·have hc4n : dx2 = 3:=by first | (have h:=of_decide_eq_true hc4;omega) | (have h:=hc4;simp at h;omega)
     refine Hd Xo [0,2] [(0,true),(1,true),(2,true),(3,false),(4,false),(5,true)] [(6,false)] (by decide +kernel) Z Z (fun w'=>ModR w w' lo (lo + 1) ∧ w6.heap.size ≤ w'.heap.size ∧ CurO w' lo vb bs ∧ Blk w' b1 ([og,.int .i64 g.workers,.int .i64 g.cap]) ∧ Blk w' b2 [.slice none 0 0,.slice none 0 0,.slice none 0 0,.slice none 0 0,.slice none 0 0,.slice none 0 0,.slice none 0 0,.slice none 0 0] ∧ Own w' w2.heap.size w3.heap.size 5 o1 (List.flatMap (Enc.enc (α:=Record)) dx1.queue) ∧ Own w' w2.heap.size w3.heap.size 5 o2 (List.flatMap (Enc.enc (α:=Record)) dx1.staged) ∧ Own w' w2.heap.size w3.heap.size 5 o3 (List.flatMap (Enc.enc (α:=Record)) dx1.inputs) ∧ Own w' w2.heap.size w3.heap.size 4 o4 (List.flatMap (Enc.enc (α:=Cell)) dx1.cells) ∧ Own w' w2.heap.size w3.heap.size 1 o5 (List.flatMap (Enc.enc (α:=Int)) dx1.sums) ∧ Own w' w2.heap.size w3.heap.size 1 o6 (List.flatMap (Enc.enc (α:=Bool)) dx1.black) ∧ Own w' w2.heap.size w3.heap.size 1 o7 (List.flatMap (Enc.enc (α:=Bool)) dx1.caps) ∧ Own w' w2.heap.size w3.heap.size 2 o8 (List.flatMap (Enc.enc (α:=Done)) dx1.dones) ∧ Blk w' b3 [o1,o2,o3,o4,o5,o6,o7,o8]) (fun w23 e14=>?_)
     replace E:=E.ext e14;replace hcu:=hcu.ext e14;replace h1:=h1.ext e14;replace h2:=h2.ext e14;replace hw1:=hw1.ext e14;replace hw2:=hw2.ext e14;replace hw3:=hw3.ext e14;replace hw4:=hw4.ext e14;replace hw5:=hw5.ext e14;replace hw6:=hw6.ext e14;replace hw7:=hw7.ext e14;replace hw8:=hw8.ext e14;replace h3:=h3.ext e14
     have z23:=e14.size
     refine ⟨⟨E,(by omega),hcu,h1,h2,hw1,hw2,hw3,hw4,hw5,hw6,hw7,hw8,h3⟩,?_⟩
     refine U6 Z (fun wX=>Qd Uc Z) Z ?_
     refine G3 rfl (fun wX hX=>by obtain ⟨E,zX,hcu,h1,h2,hw1,hw2,hw3,hw4,hw5,hw6,hw7,hw8,h3⟩:=hX;exact Qj Kg rfl (h3.one 4 rfl)) rfl ?_
     refine U6 Z (fun wX=>Qe Z) Z ?_
     refine Vr Z ?_
     refine Q8 (vs:=[.int .i64 1000000,.int .i64 1000001,.int .i64 (-1000001)]) (css:=[[.int .i64 1000000],[.int .i64 1000001],[.int .i64 (-1000001)]]) Ke Z Z ⟨⟨Z,Z⟩,⟨Z,Z⟩,⟨Z,Z⟩,trivial⟩ Z Z (fun b6 w24 e15 s6 h6=>?_)
     replace h6 : Blk w24 b6 [.int .i64 1000000,.int .i64 1000001,.int .i64 (-1000001)]:=h6
     have g_b6 : w.heap.size ≤ b6:=by have:=E.size;omega
     have y_b6:=h6.lt
     replace E:=E.ext e15;replace hcu:=hcu.ext e15;replace h1:=h1.ext e15;replace h2:=h2.ext e15;replace hw1:=hw1.ext e15;replace hw2:=hw2.ext e15;replace hw3:=hw3.ext e15;replace hw4:=hw4.ext e15;replace hw5:=hw5.ext e15;replace hw6:=hw6.ext e15;replace hw7:=hw7.ext e15;replace hw8:=hw8.ext e15;replace h3:=h3.ext e15
     have z24:=e15.size
     refine Ub ⟨E,(by omega),hcu,h1,h2,hw1,hw2,hw3,hw4,hw5,hw6,hw7,hw8,h3⟩ ?_
     refine Vr Z ?_
     refine Yu Tryz.call75 Z Z (s_l01PickInt lo vb bs (.slice (some ⟨b6,0,none⟩) 3 3) [1000000,1000001,(-1000001)] _ hcu (RdD.modR hbs E (.inl (Nat.le_refl _))) (fun wX eX=>(Blk.rd (α:=Int) (xs:=[1000000,1000001,(-1000001)]) (by decide) (Blk.modR h6 eX (by omega)) Z (by simp [maxLen]))) (by decide)) Z (fun _ w25 e16 hv=>?_)
     obtain ⟨dx6,q7,hcu',hv⟩:=hv
     replace hcu:=hcu'
     subst hv
     replace E:=E.trans e16 (by omega) (by omega);replace h1:=h1.modR e16 (by omega);replace h2:=h2.modR e16 (by omega);replace hw1:=hw1.modR e16 (by omega);replace hw2:=hw2.modR e16 (by omega);replace hw3:=hw3.modR e16 (by omega);replace hw4:=hw4.modR e16 (by omega);replace hw5:=hw5.modR e16 (by omega);replace hw6:=hw6.modR e16 (by omega);replace hw7:=hw7.modR e16 (by omega);replace hw8:=hw8.modR e16 (by omega);replace h3:=h3.modR e16 (by omega);replace h6:=h6.modR e16 (by omega)
     have z25:=e16.size
     refine Ub ⟨E,(by omega),hcu,h1,h2,hw1,hw2,hw3,hw4,hw5,hw6,hw7,hw8,h3⟩ ?_
     have hi1 : 0 < dx1.sums.length:=(by first | assumption | omega | (simp only [List.length_set];first | assumption | omega) | (simp only [List.getElem_set_self,List.length_set];first | assumption | omega) | (simp only [Xc,Yp,List.length_set];first | assumption | omega) | (simp;done))
     refine G3 rfl (fun wX hX=>by obtain ⟨E,zX,hcu,h1,h2,hw1,hw2,hw3,hw4,hw5,hw6,hw7,hw8,h3⟩:=hX;exact Ye (i:=0) Ke rfl rfl (Own.rd (by decide) hw5) hi1) rfl ?_
     refine Hg ?_
     refine Ul (α:=Int) (i:=0) (f:=0) dx6 Y6 Z Z Z Z hw5 hi1 (by decide) Z (fun w26 m10 hw5'=>?_)
     have hq:=Own.blk hw5
     replace hw5:=hw5'
     replace E:=E.mod m10 (fun g hg=>by have:=hq g hg;omega);replace hcu:=hcu.mod m10 (fun g hg=>by have:=hq g hg;omega);replace h1:=h1.mod m10 (fun g hg=>by have:=hq g hg;omega);replace h2:=h2.mod m10 (fun g hg=>by have:=hq g hg;omega);replace hw1:=Own.modS hw1 m10 (sp1.1.2.2.2.1).symm;replace hw2:=Own.modS hw2 m10 (sp1.2.1.2.2.1).symm;replace hw3:=Own.modS hw3 m10 (sp1.2.2.1.2.1).symm;replace hw4:=Own.modS hw4 m10 (sp1.2.2.2.1.1).symm;replace hw6:=Own.modS hw6 m10 sp1.2.2.2.2.1.1;replace hw7:=Own.modS hw7 m10 sp1.2.2.2.2.1.2.1;replace hw8:=Own.modS hw8 m10 sp1.2.2.2.2.1.2.2.1;replace h3:=h3.mod m10 (fun g hg=>by have:=hq g hg;omega);replace h6:=h6.mod m10 (fun g hg=>by have:=hq g hg;omega)
     have z26:=m10.size
     clear hq
     refine Qf (Yb (Yv (Qh (Qi [true,false] Z Z (Qa (Qo Q7 Z h3.at Z) Z (Qs (cs':=[o1,o2,o3,o4,o5,o6,o7,o8]) Q7 Z Z Z (Qb hw1.one (Qb hw2.one (Qb hw3.one (Qb hw4.one (Qb hw5.one (Qb hw6.one (Qb hw7.one (Qb hw8.one Z)))))))) h2 (Nat.le_of_ble_eq_true Z) Z (fun w27 m11 h2'=>?_)))))))
     replace h2:=h2'
     replace E:=E.mod m11 (fun g hg=>by cases hg;omega);replace hcu:=hcu.mod m11 (fun g hg=>by cases hg;omega);replace h1:=h1.mod m11 (fun g hg=>by cases hg;omega);replace hw1:=hw1.mod m11 (fun g hg=>by cases hg;omega);replace hw2:=hw2.mod m11 (fun g hg=>by cases hg;omega);replace hw3:=hw3.mod m11 (fun g hg=>by cases hg;omega);replace hw4:=hw4.mod m11 (fun g hg=>by cases hg;omega);replace hw6:=hw6.mod m11 (fun g hg=>by cases hg;omega);replace hw7:=hw7.mod m11 (fun g hg=>by cases hg;omega);replace hw8:=hw8.mod m11 (fun g hg=>by cases hg;omega);replace h3:=h3.mod m11 (fun g hg=>by cases hg;omega);replace h6:=h6.mod m11 (fun g hg=>by cases hg;omega);replace hw5:=hw5.mod m11 (fun g hg=>by cases hg;omega)
     have z27:=m11.size
     refine Qf (Qx (Y8 Z Z (Qu Q7 h2.at Z) E ?_))
     exact ⟨(⟨dx1.queue,dx1.staged,dx1.inputs,dx1.cells,List.set dx1.sums 0 dx6,dx1.black,dx1.caps,dx1.dones⟩ : Worker),(by first | omega | (simp only [Q4,List.length_append,List.length_cons,List.length_nil,List.length_take,List.length_set] at *;omega)),hcu,⟨_,Z,Worker.mkR (⟨dx1.queue,dx1.staged,dx1.inputs,dx1.cells,List.set dx1.sums 0 dx6,dx1.black,dx1.caps,dx1.dones⟩ : Worker) (RdD.widen (Own.rdD hw1) (by have:=E.size;omega) (by omega)) (RdD.widen (Own.rdD hw2) (by have:=E.size;omega) (by omega)) (RdD.widen (Own.rdD hw3) (by have:=E.size;omega) (by omega)) (RdD.widen (Own.rdD hw4) (by have:=E.size;omega) (by omega)) (RdD.widen (Own.rdD hw5) (by have:=E.size;omega) (by omega)) (RdD.widen (Own.rdD hw6) (by have:=E.size;omega) (by omega)) (RdD.widen (Own.rdD hw7) (by have:=E.size;omega) (by omega)) (RdD.widen (Own.rdD hw8) (by have:=E.size;omega) (by omega))⟩⟩
    ·have hc4n : ¬ dx2 = 3:=by first | (have h:=of_decide_eq_false hc4;omega) | (have h:=hc4;simp at h;omega)
     refine Qh (Qi [true,true] Z Z (Qa (Yq Z Z) Z (Qa (Qg Z) Z (Qf (Qw Z (fun hc5=>?_) (fun hc5=>?_))))))
     ·have hc5n : dx2 = 4:=by first | (have h:=of_decide_eq_true hc5;omega) | (have h:=hc5;simp at h;omega)
      refine Hd Xo [0,2,4,5,8] [(0,true),(1,true),(2,true),(3,false),(4,true),(5,true),(6,false),(7,false),(8,true)] [(9,false)] (by decide +kernel) Z Z (fun w'=>ModR w w' lo (lo + 1) ∧ w6.heap.size ≤ w'.heap.size ∧ CurO w' lo vb bs ∧ Blk w' b1 ([og,.int .i64 g.workers,.int .i64 g.cap]) ∧ Blk w' b2 [.slice none 0 0,.slice none 0 0,.slice none 0 0,.slice none 0 0,.slice none 0 0,.slice none 0 0,.slice none 0 0,.slice none 0 0] ∧ Own w' w2.heap.size w3.heap.size 5 o1 (List.flatMap (Enc.enc (α:=Record)) dx1.queue) ∧ Own w' w2.heap.size w3.heap.size 5 o2 (List.flatMap (Enc.enc (α:=Record)) dx1.staged) ∧ Own w' w2.heap.size w3.heap.size 5 o3 (List.flatMap (Enc.enc (α:=Record)) dx1.inputs) ∧ Own w' w2.heap.size w3.heap.size 4 o4 (List.flatMap (Enc.enc (α:=Cell)) dx1.cells) ∧ Own w' w2.heap.size w3.heap.size 1 o5 (List.flatMap (Enc.enc (α:=Int)) dx1.sums) ∧ Own w' w2.heap.size w3.heap.size 1 o6 (List.flatMap (Enc.enc (α:=Bool)) dx1.black) ∧ Own w' w2.heap.size w3.heap.size 1 o7 (List.flatMap (Enc.enc (α:=Bool)) dx1.caps) ∧ Blk w' b3 [o1,o2,o3,o4,o5,o6,o7,o8]) (fun w28 e17=>?_)
      replace E:=E.ext e17;replace hcu:=hcu.ext e17;replace h1:=h1.ext e17;replace h2:=h2.ext e17;replace hw1:=hw1.ext e17;replace hw2:=hw2.ext e17;replace hw3:=hw3.ext e17;replace hw4:=hw4.ext e17;replace hw5:=hw5.ext e17;replace hw6:=hw6.ext e17;replace hw7:=hw7.ext e17;replace hw8:=hw8.ext e17;replace h3:=h3.ext e17
      have z28:=e17.size
      refine ⟨⟨E,(by omega),hcu,h1,h2,hw1,hw2,hw3,hw4,hw5,hw6,hw7,h3⟩,?_⟩
      refine U6 Z (fun wX=>Qd Vk Z) Z ?_
      refine G3 rfl (fun wX hX=>by obtain ⟨E,zX,hcu,h1,h2,hw1,hw2,hw3,hw4,hw5,hw6,hw7,h3⟩:=hX;exact Qj Ts rfl (h3.one 7 rfl)) rfl ?_
      refine U6 Z (fun wX=>Qe Z) Z ?_
      refine Vr Z ?_
      refine Yu Tryz.call70 Z Z (s_l01Below lo vb bs 6 _ hcu (RdD.modR hbs E (.inl (Nat.le_refl _)))) Z (fun _ w29 e18 hv=>?_)
      obtain ⟨dx7,q8,q9,hcu',hv⟩:=hv
      replace hcu:=hcu'
      subst hv
      replace E:=E.trans e18 (by omega) (by omega);replace h1:=h1.modR e18 (by omega);replace h2:=h2.modR e18 (by omega);replace hw1:=hw1.modR e18 (by omega);replace hw2:=hw2.modR e18 (by omega);replace hw3:=hw3.modR e18 (by omega);replace hw4:=hw4.modR e18 (by omega);replace hw5:=hw5.modR e18 (by omega);replace hw6:=hw6.modR e18 (by omega);replace hw7:=hw7.modR e18 (by omega);replace hw8:=hw8.modR e18 (by omega);replace h3:=h3.modR e18 (by omega)
      have z29:=e18.size
      refine Ub ⟨E,(by omega),hcu,h1,h2,hw1,hw2,hw3,hw4,hw5,hw6,hw7,h3⟩ ?_
      refine U6 Z (fun wX=>U5 Z Z Z) Z ?_
      refine U6 Z (fun wX=>Kl (⟨IntKind.i64.wrap (((dx7 : Nat) : Int) - 1),false⟩ : Done) Z (fun _=>by kernel_rfl)) Z ?_
      refine Vr Z ?_
      refine Q8 (vs:=[.agg (Enc.enc (⟨IntKind.i64.wrap (((dx7 : Nat) : Int) - 1),false⟩ : Done)).toArray]) (css:=[[.int .i64 ((⟨IntKind.i64.wrap (((dx7 : Nat) : Int) - 1),false⟩ : Done).epoch),.bool ((⟨IntKind.i64.wrap (((dx7 : Nat) : Int) - 1),false⟩ : Done).capped)]]) Ta Z Z ⟨⟨Z,Z⟩,trivial⟩ Z Z (fun b7 w30 e19 s7 h7=>?_)
      replace h7 : Blk w30 b7 [.int .i64 ((⟨IntKind.i64.wrap (((dx7 : Nat) : Int) - 1),false⟩ : Done).epoch),.bool ((⟨IntKind.i64.wrap (((dx7 : Nat) : Int) - 1),false⟩ : Done).capped)]:=h7
      have g_b7 : w.heap.size ≤ b7:=by have:=E.size;omega
      have y_b7:=h7.lt
      replace E:=E.ext e19;replace hcu:=hcu.ext e19;replace h1:=h1.ext e19;replace h2:=h2.ext e19;replace hw1:=hw1.ext e19;replace hw2:=hw2.ext e19;replace hw3:=hw3.ext e19;replace hw4:=hw4.ext e19;replace hw5:=hw5.ext e19;replace hw6:=hw6.ext e19;replace hw7:=hw7.ext e19;replace hw8:=hw8.ext e19;replace h3:=h3.ext e19
      have z30:=e19.size
      refine Ub ⟨E,(by omega),hcu,h1,h2,hw1,hw2,hw3,hw4,hw5,hw6,hw7,h3⟩ ?_
      refine Vr Z ?_
      refine Kd Ta Z Z hw8 (Src.ofBlk h7 Z) Z (by unfold Q4 at q1;simp only [Ya,List.length_cons,List.length_nil];simp only [Enc.sz];omega) (by decide) (by omega) (by omega) Z Z (fun v3 w31 m12 ho4 hb3=>?_)
      have hn3 : ∀ g,Value.ownBlock v3 = some g → g < w3.heap.size ∨ w30.heap.size ≤ g:=fun g hg=>(hb3 g hg).elim (fun h=>.inl (by have:=Own.blk hw8 g h;omega)) (fun h=>.inr h)
      have sq3:=sp1
      replace sp1:=SepL.set hb3 7 rfl sp1 ⟨(Own.lt hw1),(Own.lt hw2),(Own.lt hw3),(Own.lt hw4),(Own.lt hw5),(Own.lt hw6),(Own.lt hw7),(Own.lt hw8),trivial⟩
      replace sp1 : SepL [o1,o2,o3,o4,o5,o6,o7,v3]:=sp1
      replace E:=E.mod m12 (fun g hg=>by have:=Own.blk hw8 g hg;omega);replace hcu:=hcu.mod m12 (fun g hg=>by have:=Own.blk hw8 g hg;omega);replace h1:=h1.mod m12 (fun g hg=>by have:=Own.blk hw8 g hg;omega);replace h2:=h2.mod m12 (fun g hg=>by have:=Own.blk hw8 g hg;omega);replace hw1:=Own.modS hw1 m12 (sq3.1.2.2.2.2.2.2.1).symm;replace hw2:=Own.modS hw2 m12 (sq3.2.1.2.2.2.2.2.1).symm;replace hw3:=Own.modS hw3 m12 (sq3.2.2.1.2.2.2.2.1).symm;replace hw4:=Own.modS hw4 m12 (sq3.2.2.2.1.2.2.2.1).symm;replace hw5:=Own.modS hw5 m12 (sq3.2.2.2.2.1.2.2.1).symm;replace hw6:=Own.modS hw6 m12 (sq3.2.2.2.2.2.1.2.1).symm;replace hw7:=Own.modS hw7 m12 (sq3.2.2.2.2.2.2.1.1).symm;replace h3:=h3.mod m12 (fun g hg=>by have:=Own.blk hw8 g hg;omega)
      have z31:=m12.size
      replace ho4 : Own w31 w2.heap.size w31.heap.size 2 v3 (List.flatMap (Enc.enc (α:=Done)) (dx1.dones ++ [(⟨IntKind.i64.wrap (((dx7 : Nat) : Int) - 1),false⟩ : Done)])):=by rw [List.flatMap_append];exact ho4
      refine Ub ⟨E,(by omega),hcu,h1,h2,hw1,hw2,hw3,hw4,hw5,hw6,hw7,h3⟩ ?_
      refine U6 Z (fun wX=>Qd Vk Z) Z ?_
      refine Hg ?_
      refine Y4 (cs':=[o1,o2,o3,o4,o5,o6,o7,v3]) Ts Z Z ho4.one h3 (Nat.le_of_ble_eq_true Z) Z (fun w32 m13 h3'=>?_)
      replace h3:=h3'
      replace E:=E.mod m13 (fun g hg=>by cases hg;omega);replace hcu:=hcu.mod m13 (fun g hg=>by cases hg;omega);replace h1:=h1.mod m13 (fun g hg=>by cases hg;omega);replace h2:=h2.mod m13 (fun g hg=>by cases hg;omega);replace hw1:=hw1.mod m13 (fun g hg=>by cases hg;omega);replace hw2:=hw2.mod m13 (fun g hg=>by cases hg;omega);replace hw3:=hw3.mod m13 (fun g hg=>by cases hg;omega);replace hw4:=hw4.mod m13 (fun g hg=>by cases hg;omega);replace hw5:=hw5.mod m13 (fun g hg=>by cases hg;omega);replace hw6:=hw6.mod m13 (fun g hg=>by cases hg;omega);replace hw7:=hw7.mod m13 (fun g hg=>by cases hg;omega);replace ho4:=Own.modN ho4 m13 (fun g hg hv=>by have hN:=hn3 g hv;have hB:=Own.blk ho4 g hv;cases hg;omega)
      have z32:=m13.size
      refine Qf (Yb (Yv (Qh (Qi [true,false] Z Z (Qa (Qo Q7 Z h3.at Z) Z (Qs (cs':=[o1,o2,o3,o4,o5,o6,o7,v3]) Q7 Z Z Z (Qb hw1.one (Qb hw2.one (Qb hw3.one (Qb hw4.one (Qb hw5.one (Qb hw6.one (Qb hw7.one (Qb ho4.one Z)))))))) h2 (Nat.le_of_ble_eq_true Z) Z (fun w33 m14 h2'=>?_)))))))
      replace h2:=h2'
      replace E:=E.mod m14 (fun g hg=>by cases hg;omega);replace hcu:=hcu.mod m14 (fun g hg=>by cases hg;omega);replace h1:=h1.mod m14 (fun g hg=>by cases hg;omega);replace hw1:=hw1.mod m14 (fun g hg=>by cases hg;omega);replace hw2:=hw2.mod m14 (fun g hg=>by cases hg;omega);replace hw3:=hw3.mod m14 (fun g hg=>by cases hg;omega);replace hw4:=hw4.mod m14 (fun g hg=>by cases hg;omega);replace hw5:=hw5.mod m14 (fun g hg=>by cases hg;omega);replace hw6:=hw6.mod m14 (fun g hg=>by cases hg;omega);replace hw7:=hw7.mod m14 (fun g hg=>by cases hg;omega);replace h3:=h3.mod m14 (fun g hg=>by cases hg;omega);replace ho4:=Own.modN ho4 m14 (fun g hg hv=>by have hN:=hn3 g hv;have hB:=Own.blk ho4 g hv;cases hg;omega)
      have z33:=m14.size
      refine Qf (Qx (Y8 Z Z (Qu Q7 h2.at Z) E ?_))
      exact ⟨(⟨dx1.queue,dx1.staged,dx1.inputs,dx1.cells,dx1.sums,dx1.black,dx1.caps,dx1.dones ++ [(⟨IntKind.i64.wrap (((dx7 : Nat) : Int) - 1),false⟩ : Done)]⟩ : Worker),(by first | omega | (simp only [Q4,List.length_append,List.length_cons,List.length_nil,List.length_take,List.length_set] at *;omega)),hcu,⟨_,Z,Worker.mkR (⟨dx1.queue,dx1.staged,dx1.inputs,dx1.cells,dx1.sums,dx1.black,dx1.caps,dx1.dones ++ [(⟨IntKind.i64.wrap (((dx7 : Nat) : Int) - 1),false⟩ : Done)]⟩ : Worker) (RdD.widen (Own.rdD hw1) (by have:=E.size;omega) (by omega)) (RdD.widen (Own.rdD hw2) (by have:=E.size;omega) (by omega)) (RdD.widen (Own.rdD hw3) (by have:=E.size;omega) (by omega)) (RdD.widen (Own.rdD hw4) (by have:=E.size;omega) (by omega)) (RdD.widen (Own.rdD hw5) (by have:=E.size;omega) (by omega)) (RdD.widen (Own.rdD hw6) (by have:=E.size;omega) (by omega)) (RdD.widen (Own.rdD hw7) (by have:=E.size;omega) (by omega)) (RdD.widen (Own.rdD ho4) (by have:=E.size;omega) (by omega))⟩⟩
     ·have hc5n : ¬ dx2 = 4:=by first | (have h:=of_decide_eq_false hc5;omega) | (have h:=hc5;simp at h;omega)
      refine Qh (Qi [true,true] Z Z (Qa (Yq Z Z) Z (Qa (Qg Z) Z (Qf (Qw Z (fun hc6=>?_) (fun hc6=>?_))))))
      ·have hc6n : dx2 = 5:=by first | (have h:=of_decide_eq_true hc6;omega) | (have h:=hc6;simp at h;omega)
       refine Qi [true,true,false,true,false,true,false] Z Z (Qa (Kl (⟨1,false⟩ : Done) Z (fun _=>by kernel_rfl)) Z (Qa (Qe Z) Z (Yu Tryz.call70 Z Z (s_l01Below lo vb bs 2 _ hcu (RdD.modR hbs E (.inl (Nat.le_refl _)))) Z (fun _ w34 e20 hv=>?_))))
       obtain ⟨dx8,q10,q11,hcu',hv⟩:=hv
       replace hcu:=hcu'
       subst hv
       replace E:=E.trans e20 (by omega) (by omega);replace h1:=h1.modR e20 (by omega);replace h2:=h2.modR e20 (by omega);replace hw1:=hw1.modR e20 (by omega);replace hw2:=hw2.modR e20 (by omega);replace hw3:=hw3.modR e20 (by omega);replace hw4:=hw4.modR e20 (by omega);replace hw5:=hw5.modR e20 (by omega);replace hw6:=hw6.modR e20 (by omega);replace hw7:=hw7.modR e20 (by omega);replace hw8:=hw8.modR e20 (by omega);replace h3:=h3.modR e20 (by omega)
       have z34:=e20.size
       refine Qa (Kl (⟨((dx8 : Nat) : Int),true⟩ : Done) Z (fun _=>by kernel_rfl)) Z (Q8 (vs:=[.agg (Enc.enc (⟨1,false⟩ : Done)).toArray,.agg (Enc.enc (⟨((dx8 : Nat) : Int),true⟩ : Done)).toArray]) (css:=[[.int .i64 ((⟨1,false⟩ : Done).epoch),.bool ((⟨1,false⟩ : Done).capped)],[.int .i64 ((⟨((dx8 : Nat) : Int),true⟩ : Done).epoch),.bool ((⟨((dx8 : Nat) : Int),true⟩ : Done).capped)]]) Ta Z Z ⟨⟨Z,Z⟩,⟨Z,Z⟩,trivial⟩ Z Z (fun b8 w35 e21 s8 h8=>?_))
       replace h8 : Blk w35 b8 [.int .i64 ((⟨1,false⟩ : Done).epoch),.bool ((⟨1,false⟩ : Done).capped),.int .i64 ((⟨((dx8 : Nat) : Int),true⟩ : Done).epoch),.bool ((⟨((dx8 : Nat) : Int),true⟩ : Done).capped)]:=h8
       have g_b8 : w.heap.size ≤ b8:=by have:=E.size;omega
       have y_b8:=h8.lt
       replace E:=E.ext e21;replace hcu:=hcu.ext e21;replace h1:=h1.ext e21;replace h2:=h2.ext e21;replace hw1:=hw1.ext e21;replace hw2:=hw2.ext e21;replace hw3:=hw3.ext e21;replace hw4:=hw4.ext e21;replace hw5:=hw5.ext e21;replace hw6:=hw6.ext e21;replace hw7:=hw7.ext e21;replace hw8:=hw8.ext e21;replace h3:=h3.ext e21
       have z35:=e21.size
       refine Qa (Qd Vk Z) Z (Y4 (cs':=[o1,o2,o3,o4,o5,o6,o7,.slice (some ⟨b8,0,none⟩) 2 2]) Ts Z Z Z h3 (Nat.le_of_ble_eq_true Z) Z (fun w36 m15 h3'=>?_))
       replace h3:=h3'
       replace E:=E.mod m15 (fun g hg=>by cases hg;omega);replace hcu:=hcu.mod m15 (fun g hg=>by cases hg;omega);replace h1:=h1.mod m15 (fun g hg=>by cases hg;omega);replace h2:=h2.mod m15 (fun g hg=>by cases hg;omega);replace hw1:=hw1.mod m15 (fun g hg=>by cases hg;omega);replace hw2:=hw2.mod m15 (fun g hg=>by cases hg;omega);replace hw3:=hw3.mod m15 (fun g hg=>by cases hg;omega);replace hw4:=hw4.mod m15 (fun g hg=>by cases hg;omega);replace hw5:=hw5.mod m15 (fun g hg=>by cases hg;omega);replace hw6:=hw6.mod m15 (fun g hg=>by cases hg;omega);replace hw7:=hw7.mod m15 (fun g hg=>by cases hg;omega);replace hw8:=hw8.mod m15 (fun g hg=>by cases hg;omega);replace h8:=h8.mod m15 (fun g hg=>by cases hg;omega)
       have z36:=m15.size
       refine Qf (Yb (Yv (Qh (Qi [true,false] Z Z (Qa (Qo Q7 Z h3.at Z) Z (Qs (cs':=[o1,o2,o3,o4,o5,o6,o7,.slice (some ⟨b8,0,none⟩) 2 2]) Q7 Z Z Z (Qb hw1.one (Qb hw2.one (Qb hw3.one (Qb hw4.one (Qb hw5.one (Qb hw6.one (Qb hw7.one (Qb Z Z)))))))) h2 (Nat.le_of_ble_eq_true Z) Z (fun w37 m16 h2'=>?_)))))))
       replace h2:=h2'
       replace E:=E.mod m16 (fun g hg=>by cases hg;omega);replace hcu:=hcu.mod m16 (fun g hg=>by cases hg;omega);replace h1:=h1.mod m16 (fun g hg=>by cases hg;omega);replace hw1:=hw1.mod m16 (fun g hg=>by cases hg;omega);replace hw2:=hw2.mod m16 (fun g hg=>by cases hg;omega);replace hw3:=hw3.mod m16 (fun g hg=>by cases hg;omega);replace hw4:=hw4.mod m16 (fun g hg=>by cases hg;omega);replace hw5:=hw5.mod m16 (fun g hg=>by cases hg;omega);replace hw6:=hw6.mod m16 (fun g hg=>by cases hg;omega);replace hw7:=hw7.mod m16 (fun g hg=>by cases hg;omega);replace hw8:=hw8.mod m16 (fun g hg=>by cases hg;omega);replace h3:=h3.mod m16 (fun g hg=>by cases hg;omega);replace h8:=h8.mod m16 (fun g hg=>by cases hg;omega)
       have z37:=m16.size
       refine Qf (Qx (Y8 Z Z (Qu Q7 h2.at Z) E ?_))
       exact ⟨(⟨dx1.queue,dx1.staged,dx1.inputs,dx1.cells,dx1.sums,dx1.black,dx1.caps,[(⟨1,false⟩ : Done),(⟨((dx8 : Nat) : Int),true⟩ : Done)]⟩ : Worker),(by first | omega | (simp only [Q4,List.length_append,List.length_cons,List.length_nil,List.length_take,List.length_set] at *;omega)),hcu,⟨_,Z,Worker.mkR (⟨dx1.queue,dx1.staged,dx1.inputs,dx1.cells,dx1.sums,dx1.black,dx1.caps,[(⟨1,false⟩ : Done),(⟨((dx8 : Nat) : Int),true⟩ : Done)]⟩ : Worker) (RdD.widen (Own.rdD hw1) (by have:=E.size;omega) (by omega)) (RdD.widen (Own.rdD hw2) (by have:=E.size;omega) (by omega)) (RdD.widen (Own.rdD hw3) (by have:=E.size;omega) (by omega)) (RdD.widen (Own.rdD hw4) (by have:=E.size;omega) (by omega)) (RdD.widen (Own.rdD hw5) (by have:=E.size;omega) (by omega)) (RdD.widen (Own.rdD hw6) (by have:=E.size;omega) (by omega)) (RdD.widen (Own.rdD hw7) (by have:=E.size;omega) (by omega)) (RdD.widen (Own.rdD (Own.ofBlk (lo:=b8) (hi:=b8 + 1) (sz:=2) h8 (Nat.le_refl _) (Nat.lt_succ_self _) (by rfl) (by unfold maxLen;omega))) (by have:=E.size;omega) (by omega))⟩⟩
      ·have hc6n : ¬ dx2 = 5:=by first | (have h:=of_decide_eq_false hc6;omega) | (have h:=hc6;simp at h;omega)
       refine Qh (Qi [true,true] Z Z (Qa (Yq Z Z) Z (Qa (Qg Z) Z (Qf (Qw Z (fun hc7=>?_) (fun hc7=>?_))))))
       ·have hc7n : dx2 = 6:=by first | (have h:=of_decide_eq_true hc7;omega) | (have h:=hc7;simp at h;omega)
        refine Qi [true,true,false,false,true,false] Z Z (Qa (Qd Vw Z) Z (Qa (Qj Gk Z (h3.one 5 Z)) Z (Q8 (vs:=[.bool true]) (css:=[[.bool true]]) Hr Z Z ⟨⟨Z,Z⟩,trivial⟩ Z Z (fun b9 w38 e22 s9 h9=>?_))))
        replace h9 : Blk w38 b9 [.bool true]:=h9
        have g_b9 : w.heap.size ≤ b9:=by have:=E.size;omega
        have y_b9:=h9.lt
        replace E:=E.ext e22;replace hcu:=hcu.ext e22;replace h1:=h1.ext e22;replace h2:=h2.ext e22;replace hw1:=hw1.ext e22;replace hw2:=hw2.ext e22;replace hw3:=hw3.ext e22;replace hw4:=hw4.ext e22;replace hw5:=hw5.ext e22;replace hw6:=hw6.ext e22;replace hw7:=hw7.ext e22;replace hw8:=hw8.ext e22;replace h3:=h3.ext e22
        have z38:=e22.size
        refine Kd Hr Z Z hw6 (Src.ofBlk h9 Z) Z (by unfold Q4 at q1;simp only [Ya,List.length_cons,List.length_nil];simp only [Enc.sz];omega) (by decide) (by omega) (by omega) Z Z (fun v4 w39 m17 ho5 hb4=>?_)
        have hn4 : ∀ g,Value.ownBlock v4 = some g → g < w3.heap.size ∨ w38.heap.size ≤ g:=fun g hg=>(hb4 g hg).elim (fun h=>.inl (by have:=Own.blk hw6 g h;omega)) (fun h=>.inr h)
        have sq4:=sp1
        replace sp1:=SepL.set hb4 5 rfl sp1 ⟨(Own.lt hw1),(Own.lt hw2),(Own.lt hw3),(Own.lt hw4),(Own.lt hw5),(Own.lt hw6),(Own.lt hw7),(Own.lt hw8),trivial⟩
        replace sp1 : SepL [o1,o2,o3,o4,o5,v4,o7,o8]:=sp1
        replace E:=E.mod m17 (fun g hg=>by have:=Own.blk hw6 g hg;omega);replace hcu:=hcu.mod m17 (fun g hg=>by have:=Own.blk hw6 g hg;omega);replace h1:=h1.mod m17 (fun g hg=>by have:=Own.blk hw6 g hg;omega);replace h2:=h2.mod m17 (fun g hg=>by have:=Own.blk hw6 g hg;omega);replace hw1:=Own.modS hw1 m17 (sq4.1.2.2.2.2.1).symm;replace hw2:=Own.modS hw2 m17 (sq4.2.1.2.2.2.1).symm;replace hw3:=Own.modS hw3 m17 (sq4.2.2.1.2.2.1).symm;replace hw4:=Own.modS hw4 m17 (sq4.2.2.2.1.2.1).symm;replace hw5:=Own.modS hw5 m17 (sq4.2.2.2.2.1.1).symm;replace hw7:=Own.modS hw7 m17 sq4.2.2.2.2.2.1.1;replace hw8:=Own.modS hw8 m17 sq4.2.2.2.2.2.1.2.1;replace h3:=h3.mod m17 (fun g hg=>by have:=Own.blk hw6 g hg;omega)
        have z39:=m17.size
        replace ho5 : Own w39 w2.heap.size w39.heap.size 1 v4 (List.flatMap (Enc.enc (α:=Bool)) (dx1.black ++ [true])):=by rw [List.flatMap_append];exact ho5
        refine Qa (Qd Vw Z) Z (Y4 (cs':=[o1,o2,o3,o4,o5,v4,o7,o8]) Gk Z Z ho5.one h3 (Nat.le_of_ble_eq_true Z) Z (fun w40 m18 h3'=>?_))
        replace h3:=h3'
        replace E:=E.mod m18 (fun g hg=>by cases hg;omega);replace hcu:=hcu.mod m18 (fun g hg=>by cases hg;omega);replace h1:=h1.mod m18 (fun g hg=>by cases hg;omega);replace h2:=h2.mod m18 (fun g hg=>by cases hg;omega);replace hw1:=hw1.mod m18 (fun g hg=>by cases hg;omega);replace hw2:=hw2.mod m18 (fun g hg=>by cases hg;omega);replace hw3:=hw3.mod m18 (fun g hg=>by cases hg;omega);replace hw4:=hw4.mod m18 (fun g hg=>by cases hg;omega);replace hw5:=hw5.mod m18 (fun g hg=>by cases hg;omega);replace hw7:=hw7.mod m18 (fun g hg=>by cases hg;omega);replace hw8:=hw8.mod m18 (fun g hg=>by cases hg;omega);replace ho5:=Own.modN ho5 m18 (fun g hg hv=>by have hN:=hn4 g hv;have hB:=Own.blk ho5 g hv;cases hg;omega)
        have z40:=m18.size
        refine Qf (Yb (Yv (Qh (Qi [true,false] Z Z (Qa (Qo Q7 Z h3.at Z) Z (Qs (cs':=[o1,o2,o3,o4,o5,v4,o7,o8]) Q7 Z Z Z (Qb hw1.one (Qb hw2.one (Qb hw3.one (Qb hw4.one (Qb hw5.one (Qb ho5.one (Qb hw7.one (Qb hw8.one Z)))))))) h2 (Nat.le_of_ble_eq_true Z) Z (fun w41 m19 h2'=>?_)))))))
        replace h2:=h2'
        replace E:=E.mod m19 (fun g hg=>by cases hg;omega);replace hcu:=hcu.mod m19 (fun g hg=>by cases hg;omega);replace h1:=h1.mod m19 (fun g hg=>by cases hg;omega);replace hw1:=hw1.mod m19 (fun g hg=>by cases hg;omega);replace hw2:=hw2.mod m19 (fun g hg=>by cases hg;omega);replace hw3:=hw3.mod m19 (fun g hg=>by cases hg;omega);replace hw4:=hw4.mod m19 (fun g hg=>by cases hg;omega);replace hw5:=hw5.mod m19 (fun g hg=>by cases hg;omega);replace hw7:=hw7.mod m19 (fun g hg=>by cases hg;omega);replace hw8:=hw8.mod m19 (fun g hg=>by cases hg;omega);replace h3:=h3.mod m19 (fun g hg=>by cases hg;omega);replace ho5:=Own.modN ho5 m19 (fun g hg hv=>by have hN:=hn4 g hv;have hB:=Own.blk ho5 g hv;cases hg;omega)
        have z41:=m19.size
        refine Qf (Qx (Y8 Z Z (Qu Q7 h2.at Z) E ?_))
        exact ⟨(⟨dx1.queue,dx1.staged,dx1.inputs,dx1.cells,dx1.sums,dx1.black ++ [true],dx1.caps,dx1.dones⟩ : Worker),(by first | omega | (simp only [Q4,List.length_append,List.length_cons,List.length_nil,List.length_take,List.length_set] at *;omega)),hcu,⟨_,Z,Worker.mkR (⟨dx1.queue,dx1.staged,dx1.inputs,dx1.cells,dx1.sums,dx1.black ++ [true],dx1.caps,dx1.dones⟩ : Worker) (RdD.widen (Own.rdD hw1) (by have:=E.size;omega) (by omega)) (RdD.widen (Own.rdD hw2) (by have:=E.size;omega) (by omega)) (RdD.widen (Own.rdD hw3) (by have:=E.size;omega) (by omega)) (RdD.widen (Own.rdD hw4) (by have:=E.size;omega) (by omega)) (RdD.widen (Own.rdD hw5) (by have:=E.size;omega) (by omega)) (RdD.widen (Own.rdD ho5) (by have:=E.size;omega) (by omega)) (RdD.widen (Own.rdD hw7) (by have:=E.size;omega) (by omega)) (RdD.widen (Own.rdD hw8) (by have:=E.size;omega) (by omega))⟩⟩
       ·have hc7n : ¬ dx2 = 6:=by first | (have h:=of_decide_eq_false hc7;omega) | (have h:=hc7;simp at h;omega)
        refine Qh (Qi [true,true] Z Z (Qa (Yq Z Z) Z (Qa (Qg Z) Z (Qf (Qw Z (fun hc8=>?_) (fun hc8=>?_))))))
        ·have hc8n : dx2 = 7:=by first | (have h:=of_decide_eq_true hc8;omega) | (have h:=hc8;simp at h;omega)
         refine Qi [true,true,true,false,false,true,false] Z Z (Qa (Qd Vx Z) Z (Qa (Qj Cd Z (h3.one 3 Z)) Z (Qa (Kl (⟨0,0,0,0⟩ : Cell) Z (fun _=>by kernel_rfl)) Z (Q8 (vs:=[.agg (Enc.enc (⟨0,0,0,0⟩ : Cell)).toArray]) (css:=[[.int .i64 ((⟨0,0,0,0⟩ : Cell).op),.int .i64 ((⟨0,0,0,0⟩ : Cell).epoch),.int .i64 ((⟨0,0,0,0⟩ : Cell).key),.int .i64 ((⟨0,0,0,0⟩ : Cell).val)]]) X0 Z Z ⟨⟨Z,Z⟩,trivial⟩ Z Z (fun b10 w42 e23 s10 h10=>?_)))))
         replace h10 : Blk w42 b10 [.int .i64 ((⟨0,0,0,0⟩ : Cell).op),.int .i64 ((⟨0,0,0,0⟩ : Cell).epoch),.int .i64 ((⟨0,0,0,0⟩ : Cell).key),.int .i64 ((⟨0,0,0,0⟩ : Cell).val)]:=h10
         have g_b10 : w.heap.size ≤ b10:=by have:=E.size;omega
         have y_b10:=h10.lt
         replace E:=E.ext e23;replace hcu:=hcu.ext e23;replace h1:=h1.ext e23;replace h2:=h2.ext e23;replace hw1:=hw1.ext e23;replace hw2:=hw2.ext e23;replace hw3:=hw3.ext e23;replace hw4:=hw4.ext e23;replace hw5:=hw5.ext e23;replace hw6:=hw6.ext e23;replace hw7:=hw7.ext e23;replace hw8:=hw8.ext e23;replace h3:=h3.ext e23
         have z42:=e23.size
         refine Kd X0 Z Z hw4 (Src.ofBlk h10 Z) Z (by unfold Q4 at q1;simp only [Ya,List.length_cons,List.length_nil];simp only [Enc.sz];omega) (by decide) (by omega) (by omega) Z Z (fun v5 w43 m20 ho6 hb5=>?_)
         have hn5 : ∀ g,Value.ownBlock v5 = some g → g < w3.heap.size ∨ w42.heap.size ≤ g:=fun g hg=>(hb5 g hg).elim (fun h=>.inl (by have:=Own.blk hw4 g h;omega)) (fun h=>.inr h)
         have sq5:=sp1
         replace sp1:=SepL.set hb5 3 rfl sp1 ⟨(Own.lt hw1),(Own.lt hw2),(Own.lt hw3),(Own.lt hw4),(Own.lt hw5),(Own.lt hw6),(Own.lt hw7),(Own.lt hw8),trivial⟩
         replace sp1 : SepL [o1,o2,o3,v5,o5,o6,o7,o8]:=sp1
         replace E:=E.mod m20 (fun g hg=>by have:=Own.blk hw4 g hg;omega);replace hcu:=hcu.mod m20 (fun g hg=>by have:=Own.blk hw4 g hg;omega);replace h1:=h1.mod m20 (fun g hg=>by have:=Own.blk hw4 g hg;omega);replace h2:=h2.mod m20 (fun g hg=>by have:=Own.blk hw4 g hg;omega);replace hw1:=Own.modS hw1 m20 (sq5.1.2.2.1).symm;replace hw2:=Own.modS hw2 m20 (sq5.2.1.2.1).symm;replace hw3:=Own.modS hw3 m20 (sq5.2.2.1.1).symm;replace hw5:=Own.modS hw5 m20 sq5.2.2.2.1.1;replace hw6:=Own.modS hw6 m20 sq5.2.2.2.1.2.1;replace hw7:=Own.modS hw7 m20 sq5.2.2.2.1.2.2.1;replace hw8:=Own.modS hw8 m20 sq5.2.2.2.1.2.2.2.1;replace h3:=h3.mod m20 (fun g hg=>by have:=Own.blk hw4 g hg;omega)
         have z43:=m20.size
         replace ho6 : Own w43 w2.heap.size w43.heap.size 4 v5 (List.flatMap (Enc.enc (α:=Cell)) (dx1.cells ++ [(⟨0,0,0,0⟩ : Cell)])):=by rw [List.flatMap_append];exact ho6
         refine Qa (Qd Vx Z) Z (Y4 (cs':=[o1,o2,o3,v5,o5,o6,o7,o8]) Cd Z Z ho6.one h3 (Nat.le_of_ble_eq_true Z) Z (fun w44 m21 h3'=>?_))
         replace h3:=h3'
         replace E:=E.mod m21 (fun g hg=>by cases hg;omega);replace hcu:=hcu.mod m21 (fun g hg=>by cases hg;omega);replace h1:=h1.mod m21 (fun g hg=>by cases hg;omega);replace h2:=h2.mod m21 (fun g hg=>by cases hg;omega);replace hw1:=hw1.mod m21 (fun g hg=>by cases hg;omega);replace hw2:=hw2.mod m21 (fun g hg=>by cases hg;omega);replace hw3:=hw3.mod m21 (fun g hg=>by cases hg;omega);replace hw5:=hw5.mod m21 (fun g hg=>by cases hg;omega);replace hw6:=hw6.mod m21 (fun g hg=>by cases hg;omega);replace hw7:=hw7.mod m21 (fun g hg=>by cases hg;omega);replace hw8:=hw8.mod m21 (fun g hg=>by cases hg;omega);replace ho6:=Own.modN ho6 m21 (fun g hg hv=>by have hN:=hn5 g hv;have hB:=Own.blk ho6 g hv;cases hg;omega)
         have z44:=m21.size
         refine Qf (Yb (Yv (Qh (Qi [true,false] Z Z (Qa (Qo Q7 Z h3.at Z) Z (Qs (cs':=[o1,o2,o3,v5,o5,o6,o7,o8]) Q7 Z Z Z (Qb hw1.one (Qb hw2.one (Qb hw3.one (Qb ho6.one (Qb hw5.one (Qb hw6.one (Qb hw7.one (Qb hw8.one Z)))))))) h2 (Nat.le_of_ble_eq_true Z) Z (fun w45 m22 h2'=>?_)))))))
         replace h2:=h2'
         replace E:=E.mod m22 (fun g hg=>by cases hg;omega);replace hcu:=hcu.mod m22 (fun g hg=>by cases hg;omega);replace h1:=h1.mod m22 (fun g hg=>by cases hg;omega);replace hw1:=hw1.mod m22 (fun g hg=>by cases hg;omega);replace hw2:=hw2.mod m22 (fun g hg=>by cases hg;omega);replace hw3:=hw3.mod m22 (fun g hg=>by cases hg;omega);replace hw5:=hw5.mod m22 (fun g hg=>by cases hg;omega);replace hw6:=hw6.mod m22 (fun g hg=>by cases hg;omega);replace hw7:=hw7.mod m22 (fun g hg=>by cases hg;omega);replace hw8:=hw8.mod m22 (fun g hg=>by cases hg;omega);replace h3:=h3.mod m22 (fun g hg=>by cases hg;omega);replace ho6:=Own.modN ho6 m22 (fun g hg hv=>by have hN:=hn5 g hv;have hB:=Own.blk ho6 g hv;cases hg;omega)
         have z45:=m22.size
         refine Qf (Qx (Y8 Z Z (Qu Q7 h2.at Z) E ?_))
         exact ⟨(⟨dx1.queue,dx1.staged,dx1.inputs,dx1.cells ++ [(⟨0,0,0,0⟩ : Cell)],dx1.sums,dx1.black,dx1.caps,dx1.dones⟩ : Worker),(by first | omega | (simp only [Q4,List.length_append,List.length_cons,List.length_nil,List.length_take,List.length_set] at *;omega)),hcu,⟨_,Z,Worker.mkR (⟨dx1.queue,dx1.staged,dx1.inputs,dx1.cells ++ [(⟨0,0,0,0⟩ : Cell)],dx1.sums,dx1.black,dx1.caps,dx1.dones⟩ : Worker) (RdD.widen (Own.rdD hw1) (by have:=E.size;omega) (by omega)) (RdD.widen (Own.rdD hw2) (by have:=E.size;omega) (by omega)) (RdD.widen (Own.rdD hw3) (by have:=E.size;omega) (by omega)) (RdD.widen (Own.rdD ho6) (by have:=E.size;omega) (by omega)) (RdD.widen (Own.rdD hw5) (by have:=E.size;omega) (by omega)) (RdD.widen (Own.rdD hw6) (by have:=E.size;omega) (by omega)) (RdD.widen (Own.rdD hw7) (by have:=E.size;omega) (by omega)) (RdD.widen (Own.rdD hw8) (by have:=E.size;omega) (by omega))⟩⟩
        ·have hc8n : ¬ dx2 = 7:=by first | (have h:=of_decide_eq_false hc8;omega) | (have h:=hc8;simp at h;omega)
         refine Qy (Yb (Yv (Qh (Qi [true,false] Z Z (Qa (Qo Q7 Z h3.at Z) Z (Qs (cs':=[o1,o2,o3,o4,o5,o6,o7,o8]) Q7 Z Z Z (Qb hw1.one (Qb hw2.one (Qb hw3.one (Qb hw4.one (Qb hw5.one (Qb hw6.one (Qb hw7.one (Qb hw8.one Z)))))))) h2 (Nat.le_of_ble_eq_true Z) Z (fun w46 m23 h2'=>?_)))))))
         replace h2:=h2'
         replace E:=E.mod m23 (fun g hg=>by cases hg;omega);replace hcu:=hcu.mod m23 (fun g hg=>by cases hg;omega);replace h1:=h1.mod m23 (fun g hg=>by cases hg;omega);replace hw1:=hw1.mod m23 (fun g hg=>by cases hg;omega);replace hw2:=hw2.mod m23 (fun g hg=>by cases hg;omega);replace hw3:=hw3.mod m23 (fun g hg=>by cases hg;omega);replace hw4:=hw4.mod m23 (fun g hg=>by cases hg;omega);replace hw5:=hw5.mod m23 (fun g hg=>by cases hg;omega);replace hw6:=hw6.mod m23 (fun g hg=>by cases hg;omega);replace hw7:=hw7.mod m23 (fun g hg=>by cases hg;omega);replace hw8:=hw8.mod m23 (fun g hg=>by cases hg;omega);replace h3:=h3.mod m23 (fun g hg=>by cases hg;omega)
         have z46:=m23.size
         refine Qf (Qx (Y8 Z Z (Qu Q7 h2.at Z) E ?_))
         exact ⟨dx1,(by first | omega | (simp only [Q4,List.length_append,List.length_cons,List.length_nil,List.length_take,List.length_set] at *;omega)),hcu,⟨_,Z,Worker.mkR dx1 (RdD.widen (Own.rdD hw1) (by have:=E.size;omega) (by omega)) (RdD.widen (Own.rdD hw2) (by have:=E.size;omega) (by omega)) (RdD.widen (Own.rdD hw3) (by have:=E.size;omega) (by omega)) (RdD.widen (Own.rdD hw4) (by have:=E.size;omega) (by omega)) (RdD.widen (Own.rdD hw5) (by have:=E.size;omega) (by omega)) (RdD.widen (Own.rdD hw6) (by have:=E.size;omega) (by omega)) (RdD.widen (Own.rdD hw7) (by have:=E.size;omega) (by omega)) (RdD.widen (Own.rdD hw8) (by have:=E.size;omega) (by omega))⟩⟩

set_option maxRecDepth 20000 in
theorem s_l12Case (vcode : Value) (code : List Byt) (w : World) (hcode : RdS w vcode code) : Ct Tryz.prog 26 [vcode] w (fun v w'=>∃ (dr0 : Graph) (dr1 : Worker),smG dr0 ∧ Q4 dr1 ≤ 200 ∧ ∃ c0 c1,v = .tuple [.agg c0.toArray,.agg c1.toArray].toArray ∧ Dat.R w' w.heap.size w'.heap.size c0 dr0 ∧ Dat.R w' w.heap.size w'.heap.size c1 dr1):=by
 refine Yx Tryz.func26 Z Tryz.ntmps26 Z ?_
 refine Yh [(0,vcode)] ⟨Z,trivial⟩ ?_
 have E : Ext w w:=Ext.refl w
 refine Qh (Qi [false,false] Z Z (Q6 Xt Z (fun b1 w1 e1 s1 h1=>?_)))
 have g_b1 : w.heap.size ≤ b1:=by have:=E.size;omega
 have y_b1:=h1.lt
 replace E:=E.trans e1
 have z1:=e1.size
 refine Q6 Q7 Z (fun b2 w2 e2 s2 h2=>?_)
 have g_b2 : w.heap.size ≤ b2:=by have:=E.size;omega
 have y_b2:=h2.lt
 replace E:=E.trans e2;replace h1:=h1.ext e2
 have z2:=e2.size
 refine Qf (Qh (Qi [true,false,true] Z Z (Qa (Qe Z) Z (Qv Tryz.call48 Z (s_l01New vcode code _ (hcode.ext E)) Z (fun _ w3 e3 hcu1=>?_)))))
 obtain ⟨bc1,rfl,ybc1,hcu1⟩:=hcu1
 have g_bc1 : w.heap.size ≤ bc1:=Nat.le_trans E.size ybc1
 have y_bc1:=CurO.lt hcu1
 replace E:=E.trans e3;replace h1:=h1.ext e3;replace h2:=h2.ext e3
 have z3:=e3.size
 refine Qa (Qg Z) Z (Qf (Qh (Qi [true,false,false,false] Z Z (Qa (Qe Z) Z (Yu Tryz.call49 Z Z (s_l08Graph bc1 vcode code _ hcu1 (RdD.widen (RdD.ext (RdS.rdD hcode) E) (Nat.le_refl _) (by omega))) Z (fun _ w4 e4 ho1=>?_))))))
 obtain ⟨dx1,q1,q2,q3,hcu1',ho1⟩:=ho1
 replace hcu1:=hcu1'
 obtain ⟨o1,rfl,ho1⟩:=ho1
 have g_ho1 : w.heap.size ≤ w3.heap.size:=E.size
 replace E:=E.stepR e4 (by omega);replace h1:=h1.modR e4 (by omega);replace h2:=h2.modR e4 (by omega)
 have z4:=e4.size
 refine Q6 Xt Z (fun b3 w5 e5 s3 h3=>?_)
 have g_b3 : w.heap.size ≤ b3:=by have:=E.size;omega
 have y_b3:=h3.lt
 replace E:=E.trans e5;replace h1:=h1.ext e5;replace h2:=h2.ext e5;replace hcu1:=hcu1.ext e5;replace ho1:=ho1.ext e5
 have z5:=e5.size
 refine Qs (cs':=[o1,.int .i64 dx1.workers,.int .i64 dx1.cap]) Xt Z Z Z (Qb (RdD.one (OwS.rd ho1)) (Qb Z (Qb Z Z))) h3 (Nat.le_of_ble_eq_true Z) Z (fun w6 m1 h3'=>?_)
 replace h3:=h3'
 replace E:=E.step m1 (fun g hg=>by cases hg;omega);replace h1:=h1.mod m1 (fun g hg=>by cases hg;omega);replace h2:=h2.mod m1 (fun g hg=>by cases hg;omega);replace hcu1:=hcu1.mod m1 (fun g hg=>by cases hg;omega);replace ho1:=ho1.mod m1 (fun g hg=>by cases hg;omega)
 have z6:=m1.size
 refine Qf (Qh (Hd Xo [1] [(0,true),(1,true),(2,true),(3,false)] [(4,false),(5,false)] (by decide +kernel) Z Z (fun w'=>Ext w w' ∧ w6.heap.size ≤ w'.heap.size ∧ Blk w' b1 [.slice none 0 0,.int .i64 0,.int .i64 0] ∧ Blk w' b2 [.slice none 0 0,.slice none 0 0,.slice none 0 0,.slice none 0 0,.slice none 0 0,.slice none 0 0,.slice none 0 0,.slice none 0 0] ∧ CurO w' bc1 vcode code ∧ OwS w' w3.heap.size w4.heap.size o1 dx1.nodes ∧ Blk w' b3 [o1,.int .i64 dx1.workers,.int .i64 dx1.cap]) (fun w7 e6=>?_)))
 replace E:=E.trans e6;replace h1:=h1.ext e6;replace h2:=h2.ext e6;replace hcu1:=hcu1.ext e6;replace ho1:=ho1.ext e6;replace h3:=h3.ext e6
 have z7:=e6.size
 refine ⟨⟨E,(by omega),h1,h2,hcu1,ho1,h3⟩,?_⟩
 refine G3 rfl (fun wX hX=>by obtain ⟨E,zX,h1,h2,hcu1,ho1,h3⟩:=hX;exact Qo Xt rfl h3.at rfl) rfl ?_
 refine U6 Z (fun wX=>Qe Z) Z ?_
 refine G3 rfl (fun wX hX=>by obtain ⟨E,zX,h1,h2,hcu1,ho1,h3⟩:=hX;exact Qo Xt rfl h3.at rfl) rfl ?_
 refine Vr Z ?_
 refine Yu Tryz.call50 Z Z (s_l12Any bc1 vcode code o1 dx1 _ hcu1 (RdD.widen (RdD.ext (RdS.rdD hcode) E) (Nat.le_refl _) (by omega)) (fun wX eX=>RdD.any (OwS.rd (OwS.modR ho1 eX (by omega)))) (smG_cnt (by assumption))) Z (fun v1 w8 e7 ho2=>?_)
 obtain ⟨dx2,q4,hcu1',ho2⟩:=ho2
 replace hcu1:=hcu1'
 obtain ⟨_,rfl,ho2⟩:=ho2
 obtain ⟨o2,o3,o4,o5,o6,o7,o8,o9,rfl,hd1,hd2,hd3,hd4,hd5,hd6,hd7,hd8⟩:=Worker.op ho2
 replace E:=E.stepR e7 (by omega);replace h1:=h1.modR e7 (by omega);replace h2:=h2.modR e7 (by omega);replace ho1:=ho1.modR e7 (by omega);replace h3:=h3.modR e7 (by omega)
 have z8:=e7.size
 refine Ub ⟨E,(by omega),h1,h2,hcu1,ho1,h3⟩ ?_
 refine Hg ?_
 refine Qs (cs':=[o1,.int .i64 dx1.workers,.int .i64 dx1.cap]) Xt Z Z Z (Qb (RdD.one (OwS.rd ho1)) (Qb Z (Qb Z Z))) h1 (Nat.le_of_ble_eq_true Z) Z (fun w9 m2 h1'=>?_)
 replace h1:=h1'
 replace E:=E.step m2 (fun g hg=>by cases hg;omega);replace h2:=h2.mod m2 (fun g hg=>by cases hg;omega);replace hcu1:=hcu1.mod m2 (fun g hg=>by cases hg;omega);replace ho1:=ho1.mod m2 (fun g hg=>by cases hg;omega);replace h3:=h3.mod m2 (fun g hg=>by cases hg;omega);replace hd1:=hd1.mod m2 (fun g hg=>by cases hg;omega);replace hd2:=hd2.mod m2 (fun g hg=>by cases hg;omega);replace hd3:=hd3.mod m2 (fun g hg=>by cases hg;omega);replace hd4:=hd4.mod m2 (fun g hg=>by cases hg;omega);replace hd5:=hd5.mod m2 (fun g hg=>by cases hg;omega);replace hd6:=hd6.mod m2 (fun g hg=>by cases hg;omega);replace hd7:=hd7.mod m2 (fun g hg=>by cases hg;omega);replace hd8:=hd8.mod m2 (fun g hg=>by cases hg;omega)
 have z9:=m2.size
 refine Qs (cs':=[o2,o3,o4,o5,o6,o7,o8,o9]) Q7 Z Z Z (Qb (RdD.one hd1) (Qb (RdD.one hd2) (Qb (RdD.one hd3) (Qb (RdD.one hd4) (Qb (RdD.one hd5) (Qb (RdD.one hd6) (Qb (RdD.one hd7) (Qb (RdD.one hd8) Z)))))))) h2 (Nat.le_of_ble_eq_true Z) Z (fun w10 m3 h2'=>?_)
 replace h2:=h2'
 replace E:=E.step m3 (fun g hg=>by cases hg;omega);replace h1:=h1.mod m3 (fun g hg=>by cases hg;omega);replace hcu1:=hcu1.mod m3 (fun g hg=>by cases hg;omega);replace ho1:=ho1.mod m3 (fun g hg=>by cases hg;omega);replace h3:=h3.mod m3 (fun g hg=>by cases hg;omega);replace hd1:=hd1.mod m3 (fun g hg=>by cases hg;omega);replace hd2:=hd2.mod m3 (fun g hg=>by cases hg;omega);replace hd3:=hd3.mod m3 (fun g hg=>by cases hg;omega);replace hd4:=hd4.mod m3 (fun g hg=>by cases hg;omega);replace hd5:=hd5.mod m3 (fun g hg=>by cases hg;omega);replace hd6:=hd6.mod m3 (fun g hg=>by cases hg;omega);replace hd7:=hd7.mod m3 (fun g hg=>by cases hg;omega);replace hd8:=hd8.mod m3 (fun g hg=>by cases hg;omega)
 have z10:=m3.size
 refine Qf (Qx (Yo (l:=[.cell 2 26,.cell 3 33]) (vs:=[.agg [o1,.int .i64 dx1.workers,.int .i64 dx1.cap].toArray,.agg [o2,o3,o4,o5,o6,o7,o8,o9].toArray]) Z ⟨.cell Z (Qu Xt h1.at Z),.cell Z (Qu Q7 h2.at Z),trivial⟩ Z E ?_))
 exact ⟨dx1,dx2,(by assumption),(by assumption),⟨_,_,Z,(Graph.mkR _ (RdD.widen (OwS.rd ho1) (by have:=E.size;omega) (by omega))),(Worker.mkR _ (RdD.widen hd1 (by have:=E.size;omega) (by omega)) (RdD.widen hd2 (by have:=E.size;omega) (by omega)) (RdD.widen hd3 (by have:=E.size;omega) (by omega)) (RdD.widen hd4 (by have:=E.size;omega) (by omega)) (RdD.widen hd5 (by have:=E.size;omega) (by omega)) (RdD.widen hd6 (by have:=E.size;omega) (by omega)) (RdD.widen hd7 (by have:=E.size;omega) (by omega)) (RdD.widen hd8 (by have:=E.size;omega) (by omega)))⟩⟩

set_option maxRecDepth 20000 in
theorem l_sameBools (vxs : Value) (xs : List Bool) (vys : Value) (ys : List Bool) (w : World) (hxs : RdS w vxs xs) (hys : RdS w vys ys) : Ct Tryz.prog 39 [vxs,vys] w (fun v _=>v = .bool (decide (xs = ys))):=by
 refine Yx Tryz.func39 Z Tryz.ntmps39 Z ?_
 refine Yh [(0,vxs),(1,vys)] ⟨Z,Z,trivial⟩ ?_
 have E : Ext w w:=Ext.refl w
 refine Qh (Qi [true] Z Z (Qa (Qg Z) Z (Qf (Qh (Qh (Qi [true,true,true,true,true] Z Z (Qa (Qe Z) Z (Qa (Yg Tryz.underlying30 Z (hxs.ext E).len) Z (Qa (Qe Z) Z (Qa (Yg Tryz.underlying30 Z (hys.ext E).len) Z (Qa (Xs Z Z) Z (Qf (Qw Z (fun hc1=>?_) (fun hc1=>?_))))))))))))))
 ·have hc1n : ¬ xs.length = ys.length:=by first | (have h:=of_decide_eq_true hc1;omega) | (have h:=hc1;simp at h;omega)
  refine Qh (Qi [true] Z Z (Qa (Qg Z) Z (Qf (Qx (Q0 Z Z E ?_)))))
  simp [C4 hc1n]
 ·have hc1n : xs.length = ys.length:=by first | (have h:=of_decide_eq_false hc1;omega) | (have h:=hc1;simp at h;omega)
  refine Qy (Qh (Qh (Qi [true] Z Z (Qa (Qg Z) Z (Qf (Q9 (Xk (fun (k : Nat)=>[(0,vxs),(1,vys),(4,.bool false),(5,.int .i64 ((k : Nat) : Int))]) (fun (k : Nat) w'=>Ext w w' ∧ w.heap.size ≤ w'.heap.size ∧ k ≤ xs.length ∧ xs.take k = ys.take k) (fun (k : Nat)=>xs.length - k) 0 ⟨Z,Z,Z,Z,trivial⟩ ⟨E,Nat.le_refl _,Nat.zero_le _,Z⟩ ?_)))))))
  clear E
  rintro k w1 ⟨E,z1,hk,hp⟩
  refine Qh (Qh (Qi [true,true,true,true] Z Z (Qa (Qe Z) Z (Qa (Qe Z) Z (Qa (Yg Tryz.underlying30 Z (hxs.ext E).len) Z (Qa (Xn Z Z) Z (Qf (Qw Z (fun hc2=>?_) (fun hc2=>?_)))))))))
  ·have hc2n : k < xs.length:=by first | (have h:=of_decide_eq_true hc2;omega) | (have h:=hc2;simp at h;omega)
   refine Qy (Qh (Q9 (Qh (Xu Xo [(0,true),(1,true),(2,true),(3,true),(4,true),(5,true),(6,true),(7,true),(8,true)] (by decide +kernel) Z (fun w2 e1=>?_)))))
   replace E:=E.trans e1
   have z2:=e1.size
   refine Qa (Qe Z) Z (Qa (Qe Z) Z ?_)
   have hi1 : k < xs.length:=(by first | assumption | omega | (simp only [List.length_set];first | assumption | omega) | (simp only [List.getElem_set_self,List.length_set];first | assumption | omega) | (simp only [Xc,Yp,List.length_set];first | assumption | omega) | (simp;done))
   refine Qa (Ye (i:=k) Hr Z Z (hxs.ext E) hi1) Z (Qa (Qj sc4 Z (((hxs.ext E).get hi1).one 0 Z)) Z (Qa (Qe Z) Z (Qa (Qe Z) Z ?_)))
   have hi2 : k < ys.length:=(by first | assumption | omega | (simp only [List.length_set];first | assumption | omega) | (simp only [List.getElem_set_self,List.length_set];first | assumption | omega) | (simp only [Xc,Yp,List.length_set];first | assumption | omega) | (simp;done))
   refine Qa (Ye (i:=k) Hr Z Z (hys.ext E) hi2) Z (Qa (Qj sc4 Z (((hys.ext E).get hi2).one 0 Z)) Z (Qa (H3 (Tryz.underlying4) Z Z) Z (Qf (Qw Z (fun hc3=>?_) (fun hc3=>?_)))))
   ·refine Qh (Qi [true] Z Z (Qa (Qg Z) Z (Qf (Qx (Qz (Xb (Qz (Q0 Z Z E ?_))))))))
    exact C5 (by omega) (by omega) (by simpa using hc3)
   ·refine Qy (Yb (Yv (Qi [true,true,true] Z Z (Qa (Qe Z) Z (Qa (Yw Z Z (Y7 hc2n hxs.1)) Z (Qa (Qg Z) Z (Qf (Yb (Yy (k + 1) (by omega) ⟨Z,Z,Z,Z,trivial⟩ ⟨E,(by omega),(by omega),Hb hp (by assumption) (by omega) (by simpa using hc3)⟩)))))))))
  ·have hc2n : ¬ k < xs.length:=by first | (have h:=of_decide_eq_false hc2;omega) | (have h:=hc2;simp at h;omega)
   refine Xl (Ys (Yj ?_))
   refine Qh (Qi [true] Z Z (Qa (Qg Z) Z (Qf (Qx (Q0 Z Z E ?_)))))
   exact Ti hp hc1n (by omega)

set_option maxRecDepth 20000 in
theorem l_sameDones (vxs : Value) (xs : List Done) (vys : Value) (ys : List Done) (w : World) (hxs : RdS w vxs xs) (hys : RdS w vys ys) : Ct Tryz.prog 40 [vxs,vys] w (fun v _=>v = .bool (decide (xs = ys))):=by
 refine Yx Tryz.func40 Z Tryz.ntmps40 Z ?_
 refine Yh [(0,vxs),(1,vys)] ⟨Z,Z,trivial⟩ ?_
 have E : Ext w w:=Ext.refl w
 refine Qh (Qi [true] Z Z (Qa (Qg Z) Z (Qf (Qh (Qh (Qi [true,true,true,true,true] Z Z (Qa (Qe Z) Z (Qa (Yg Tryz.underlying31 Z (hxs.ext E).len) Z (Qa (Qe Z) Z (Qa (Yg Tryz.underlying31 Z (hys.ext E).len) Z (Qa (Xs Z Z) Z (Qf (Qw Z (fun hc1=>?_) (fun hc1=>?_))))))))))))))
 ·have hc1n : ¬ xs.length = ys.length:=by first | (have h:=of_decide_eq_true hc1;omega) | (have h:=hc1;simp at h;omega)
  refine Qh (Qi [true] Z Z (Qa (Qg Z) Z (Qf (Qx (Q0 Z Z E ?_)))))
  simp [C4 hc1n]
 ·have hc1n : xs.length = ys.length:=by first | (have h:=of_decide_eq_false hc1;omega) | (have h:=hc1;simp at h;omega)
  refine Qy (Qh (Qh (Qi [true] Z Z (Qa (Qg Z) Z (Qf (Q9 (Xk (fun (k : Nat)=>[(0,vxs),(1,vys),(4,.bool false),(5,.int .i64 ((k : Nat) : Int))]) (fun (k : Nat) w'=>Ext w w' ∧ w.heap.size ≤ w'.heap.size ∧ k ≤ xs.length ∧ xs.take k = ys.take k) (fun (k : Nat)=>xs.length - k) 0 ⟨Z,Z,Z,Z,trivial⟩ ⟨E,Nat.le_refl _,Nat.zero_le _,Z⟩ ?_)))))))
  clear E
  rintro k w1 ⟨E,z1,hk,hp⟩
  refine Qh (Qh (Qi [true,true,true,true] Z Z (Qa (Qe Z) Z (Qa (Qe Z) Z (Qa (Yg Tryz.underlying31 Z (hxs.ext E).len) Z (Qa (Xn Z Z) Z (Qf (Qw Z (fun hc2=>?_) (fun hc2=>?_)))))))))
  ·have hc2n : k < xs.length:=by first | (have h:=of_decide_eq_true hc2;omega) | (have h:=hc2;simp at h;omega)
   refine Qy (Qh (Q9 (Qh (Xu Xo [(0,true),(1,true),(2,true),(3,true),(4,true),(5,true),(6,true),(7,true),(8,true)] (by decide +kernel) Z (fun w2 e1=>?_)))))
   replace E:=E.trans e1
   have z2:=e1.size
   refine Qa (Qe Z) Z (Qa (Qe Z) Z ?_)
   have hi1 : k < xs.length:=(by first | assumption | omega | (simp only [List.length_set];first | assumption | omega) | (simp only [List.getElem_set_self,List.length_set];first | assumption | omega) | (simp only [Xc,Yp,List.length_set];first | assumption | omega) | (simp;done))
   refine Qa (Ye (i:=k) Ta Z Z (hxs.ext E) hi1) Z (Qa (Qo st69 Z ((hxs.ext E).get hi1) Z) Z (Qa (Qe Z) Z (Qa (Qe Z) Z ?_)))
   have hi2 : k < ys.length:=(by first | assumption | omega | (simp only [List.length_set];first | assumption | omega) | (simp only [List.getElem_set_self,List.length_set];first | assumption | omega) | (simp only [Xc,Yp,List.length_set];first | assumption | omega) | (simp;done))
   refine Qa (Ye (i:=k) Ta Z Z (hys.ext E) hi2) Z (Qa (Qo st69 Z ((hys.ext E).get hi2) Z) Z (Qa (R_neqS (ne69 (xs[k]'hi1) (ys[k]'hi2)) eqg69 Z Z) Z (Qf (Qw Z (fun hc3=>?_) (fun hc3=>?_)))))
   ·refine Qh (Qi [true] Z Z (Qa (Qg Z) Z (Qf (Qx (Qz (Xb (Qz (Q0 Z Z E ?_))))))))
    exact C5 (by omega) (by omega) (by simpa using hc3)
   ·refine Qy (Yb (Yv (Qi [true,true,true] Z Z (Qa (Qe Z) Z (Qa (Yw Z Z (Y7 hc2n hxs.1)) Z (Qa (Qg Z) Z (Qf (Yb (Yy (k + 1) (by omega) ⟨Z,Z,Z,Z,trivial⟩ ⟨E,(by omega),(by omega),Hb hp (by assumption) (by omega) (by simpa using hc3)⟩)))))))))
  ·have hc2n : ¬ k < xs.length:=by first | (have h:=of_decide_eq_false hc2;omega) | (have h:=hc2;simp at h;omega)
   refine Xl (Ys (Yj ?_))
   refine Qh (Qi [true] Z Z (Qa (Qg Z) Z (Qf (Qx (Q0 Z Z E ?_)))))
   exact Ti hp hc1n (by omega)

set_option maxHeartbeats 4000000 in
set_option maxRecDepth 20000 in
theorem l_sameWorker (cx : List Value) (x : Worker) (cy : List Value) (y : Worker) (w : World) (hx : Dat.R w 0 w.heap.size cx x) (hy : Dat.R w 0 w.heap.size cy y) : Ct Tryz.prog 10 [.agg cx.toArray,.agg cy.toArray] w (fun v _=>v = .bool (decide (x = y))):=by
 refine Yx Tryz.func10 Z Tryz.ntmps10 Z ?_
 obtain ⟨o1,o2,o3,o4,o5,o6,o7,o8,rfl,hd1,hd2,hd3,hd4,hd5,hd6,hd7,hd8⟩:=Worker.op hx
 obtain ⟨o9,o10,o11,o12,o13,o14,o15,o16,rfl,hd9,hd10,hd11,hd12,hd13,hd14,hd15,hd16⟩:=Worker.op hy
 refine Yh [(0,.agg [o1,o2,o3,o4,o5,o6,o7,o8].toArray),(1,.agg [o9,o10,o11,o12,o13,o14,o15,o16].toArray)] ⟨Z,Z,trivial⟩ ?_
 have E : Ext w w:=Ext.refl w
 refine Qh (Qi [false,false,true] Z Z (Y5 Z Z (fun b1 w1 e1 s1 h1=>?_)))
 have g_b1 : w.heap.size ≤ b1:=by have:=E.size;omega
 have y_b1:=h1.lt
 replace E:=E.trans e1
 have z1:=e1.size
 refine Y5 Z Z (fun b2 w2 e2 s2 h2=>?_)
 have g_b2 : w.heap.size ≤ b2:=by have:=E.size;omega
 have y_b2:=h2.lt
 replace E:=E.trans e2;replace h1:=h1.ext e2
 have z2:=e2.size
 refine Qa (Qg Z) Z (Qf (Qh (Qi [true,true,true,true,false,true,true,true,true,true,false,true,true,true,true,true,true,false,true,true,true,true,true,true,false,true,true,true,true,true,true,false,true,true,true,true,true,true,false,true,true,true,true,true,true,false,true,true,true,true,true,true,false,true,true] Z Z (Qa (Qd Xj Z) Z (Qa (Qj Xi Z (h1.one 0 Z)) Z (Qa (Qd Xj Z) Z (Qa (Qj Xi Z (h2.one 0 Z)) Z (Qv Tryz.call36 Z (l_sameRecords o1 x.queue o9 y.queue _ (hd1.rd.ext E) (hd9.rd.ext E)) Z (fun _ w3 e3 hv=>?_)))))))))
 subst hv
 replace E:=E.trans e3;replace h1:=h1.ext e3;replace h2:=h2.ext e3
 have z3:=e3.size
 refine Qa (Qe Z) Z (Xg 48 [(0,.agg [o1,o2,o3,o4,o5,o6,o7,o8].toArray),(1,.agg [o9,o10,o11,o12,o13,o14,o15,o16].toArray),(2,.pointer (some ⟨b1,0,none⟩)),(3,.pointer (some ⟨b2,0,none⟩)),(4,.bool false),(58,.bool ((((((((decide (x.queue = y.queue)) && (decide (x.staged = y.staged))) && (decide (x.inputs = y.inputs))) && (decide (x.cells = y.cells))) && (decide (x.sums = y.sums))) && (decide (x.black = y.black))) && (decide (x.caps = y.caps))) && (decide (x.dones = y.dones))))] (fun w'=>Ext w w' ∧ w3.heap.size ≤ w'.heap.size ∧ Blk w' b1 ([o1,o2,o3,o4,o5,o6,o7,o8]) ∧ Blk w' b2 ([o9,o10,o11,o12,o13,o14,o15,o16])) ?_ ?_)
 ·refine Ym (gd:=10) Z Z (fun hg1=>?_) (fun hg1=>?_)
  ·refine Qk Z Z (Qd K7 Z) Z (Qk Z Z (Qj Xi Z (h1.one 1 Z)) Z (Qk Z Z (Qd K7 Z) Z (Qk Z Z (Qj Xi Z (h2.one 1 Z)) Z ?_)))
   refine Y3 Z Z ?_
   refine Qv Tryz.call36 Z (l_sameRecords o2 x.staged o10 y.staged _ (hd2.rd.ext E) (hd10.rd.ext E)) Z (fun _ w5 e4 hv=>?_)
   subst hv
   replace E:=E.trans e4;replace h1:=h1.ext e4;replace h2:=h2.ext e4
   have z4:=e4.size
   refine Qa (Qr Z Z) Z (Qa (Qe Z) Z (Ym (gd:=17) Z Z (fun hg2=>?_) (fun hg2=>?_)))
   ·refine Qk Z Z (Qd Kc Z) Z (Qk Z Z (Qj Xi Z (h1.one 2 Z)) Z (Qk Z Z (Qd Kc Z) Z (Qk Z Z (Qj Xi Z (h2.one 2 Z)) Z ?_)))
    refine Y3 Z Z ?_
    refine Qv Tryz.call36 Z (l_sameRecords o3 x.inputs o11 y.inputs _ (hd3.rd.ext E) (hd11.rd.ext E)) Z (fun _ w6 e5 hv=>?_)
    subst hv
    replace E:=E.trans e5;replace h1:=h1.ext e5;replace h2:=h2.ext e5
    have z5:=e5.size
    refine Qa (Qr Z Z) Z (Qa (Qe Z) Z (Ym (gd:=24) Z Z (fun hg3=>?_) (fun hg3=>?_)))
    ·refine Qk Z Z (Qd Vx Z) Z (Qk Z Z (Qj Cd Z (h1.one 3 Z)) Z (Qk Z Z (Qd Vx Z) Z (Qk Z Z (Qj Cd Z (h2.one 3 Z)) Z ?_)))
     refine Y3 Z Z ?_
     refine Qv Tryz.call37 Z (l_sameCells o4 x.cells o12 y.cells _ (hd4.rd.ext E) (hd12.rd.ext E)) Z (fun _ w7 e6 hv=>?_)
     subst hv
     replace E:=E.trans e6;replace h1:=h1.ext e6;replace h2:=h2.ext e6
     have z6:=e6.size
     refine Qa (Qr Z Z) Z (Qa (Qe Z) Z (Ym (gd:=31) Z Z (fun hg4=>?_) (fun hg4=>?_)))
     ·refine Qk Z Z (Qd Uc Z) Z (Qk Z Z (Qj Kg Z (h1.one 4 Z)) Z (Qk Z Z (Qd Uc Z) Z (Qk Z Z (Qj Kg Z (h2.one 4 Z)) Z ?_)))
      refine Y3 Z Z ?_
      refine Qv Tryz.call38 Z (l_sameInts o5 x.sums o13 y.sums _ (hd5.rd.ext E) (hd13.rd.ext E)) Z (fun _ w8 e7 hv=>?_)
      subst hv
      replace E:=E.trans e7;replace h1:=h1.ext e7;replace h2:=h2.ext e7
      have z7:=e7.size
      refine Qa (Qr Z Z) Z (Qa (Qe Z) Z (Ym (gd:=38) Z Z (fun hg5=>?_) (fun hg5=>?_)))
      ·refine Qk Z Z (Qd Vw Z) Z (Qk Z Z (Qj Gk Z (h1.one 5 Z)) Z (Qk Z Z (Qd Vw Z) Z (Qk Z Z (Qj Gk Z (h2.one 5 Z)) Z ?_)))
       refine Y3 Z Z ?_
       refine Qv Tryz.call39 Z (l_sameBools o6 x.black o14 y.black _ (hd6.rd.ext E) (hd14.rd.ext E)) Z (fun _ w9 e8 hv=>?_)
       subst hv
       replace E:=E.trans e8;replace h1:=h1.ext e8;replace h2:=h2.ext e8
       have z8:=e8.size
       refine Qa (Qr Z Z) Z (Qa (Qe Z) Z (Ym (gd:=45) Z Z (fun hg6=>?_) (fun hg6=>?_)))
       ·refine Qk Z Z (Qd G9 Z) Z (Qk Z Z (Qj Gk Z (h1.one 6 Z)) Z (Qk Z Z (Qd G9 Z) Z (Qk Z Z (Qj Gk Z (h2.one 6 Z)) Z ?_)))
        refine Y3 Z Z ?_
        refine Qv Tryz.call39 Z (l_sameBools o7 x.caps o15 y.caps _ (hd7.rd.ext E) (hd15.rd.ext E)) Z (fun _ w10 e9 hv=>?_)
        subst hv
        replace E:=E.trans e9;replace h1:=h1.ext e9;replace h2:=h2.ext e9
        have z9:=e9.size
        refine Qa (Qr Z Z) Z (Qa (Qe Z) Z (Ym (gd:=52) Z Z (fun hg7=>?_) (fun hg7=>?_)))
        ·refine Qk Z Z (Qd Vk Z) Z (Qk Z Z (Qj Ts Z (h1.one 7 Z)) Z (Qk Z Z (Qd Vk Z) Z (Qk Z Z (Qj Ts Z (h2.one 7 Z)) Z ?_)))
         refine Y3 Z Z ?_
         refine Qv Tryz.call40 Z (l_sameDones o8 x.dones o16 y.dones _ (hd8.rd.ext E) (hd16.rd.ext E)) Z (fun _ w11 e10 hv=>?_)
         subst hv
         replace E:=E.trans e10;replace h1:=h1.ext e10;replace h2:=h2.ext e10
         have z10:=e10.size
         refine Qa (Qr Z Z) Z (Ql ⟨Z,Z,Z,Z,Z,congrArg (fun b=>some (Value.bool b)) (show (decide (x.dones = y.dones)) = ((((((((decide (x.queue = y.queue)) && (decide (x.staged = y.staged))) && (decide (x.inputs = y.inputs))) && (decide (x.cells = y.cells))) && (decide (x.sums = y.sums))) && (decide (x.black = y.black))) && (decide (x.caps = y.caps))) && (decide (x.dones = y.dones))) by first | (rw [hg1,hg2,hg3,hg4,hg5,hg6,hg7] <;> rfl) | (simp [hg1,hg2,hg3,hg4,hg5,hg6,hg7];done) | (simp only [Qp] <;> simp)),trivial⟩ ⟨E,(by omega),h1,h2⟩)
        ·refine Qc Z Z Z Z (Qc Z Z Z Z (Qc Z Z Z Z (Qc Z Z Z Z ?_)))
         refine Q1 Z Z Z Z ?_
         refine Qa (Qq Z Z) Z (Ql ⟨Z,Z,Z,Z,Z,congrArg (fun b=>some (Value.bool b)) (show false = ((((((((decide (x.queue = y.queue)) && (decide (x.staged = y.staged))) && (decide (x.inputs = y.inputs))) && (decide (x.cells = y.cells))) && (decide (x.sums = y.sums))) && (decide (x.black = y.black))) && (decide (x.caps = y.caps))) && (decide (x.dones = y.dones))) by first | (rw [hg1,hg2,hg3,hg4,hg5,hg6,hg7] <;> rfl) | (simp [hg1,hg2,hg3,hg4,hg5,hg6,hg7];done) | (simp only [Qp] <;> simp)),trivial⟩ ⟨E,(by omega),h1,h2⟩)
       ·refine Qc Z Z Z Z (Qc Z Z Z Z (Qc Z Z Z Z (Qc Z Z Z Z ?_)))
        refine Q1 Z Z Z Z ?_
        refine Qa (Qq Z Z) Z (Qa (Qe Z) Z (Qc Z Z Z Z (Qc Z Z Z Z (Qc Z Z Z Z (Qc Z Z Z Z (Q1 Z Z Z Z (Qa (Qq Z Z) Z (Ql ⟨Z,Z,Z,Z,Z,congrArg (fun b=>some (Value.bool b)) (show false = ((((((((decide (x.queue = y.queue)) && (decide (x.staged = y.staged))) && (decide (x.inputs = y.inputs))) && (decide (x.cells = y.cells))) && (decide (x.sums = y.sums))) && (decide (x.black = y.black))) && (decide (x.caps = y.caps))) && (decide (x.dones = y.dones))) by first | (rw [hg1,hg2,hg3,hg4,hg5,hg6] <;> rfl) | (simp [hg1,hg2,hg3,hg4,hg5,hg6];done) | (simp only [Qp] <;> simp)),trivial⟩ ⟨E,(by omega),h1,h2⟩))))))))
      ·refine Qc Z Z Z Z (Qc Z Z Z Z (Qc Z Z Z Z (Qc Z Z Z Z ?_)))
       refine Q1 Z Z Z Z ?_
       refine Qa (Qq Z Z) Z (Qa (Qe Z) Z (Qc Z Z Z Z (Qc Z Z Z Z (Qc Z Z Z Z (Qc Z Z Z Z (Q1 Z Z Z Z (Qa (Qq Z Z) Z (Qa (Qe Z) Z (Qc Z Z Z Z (Qc Z Z Z Z (Qc Z Z Z Z (Qc Z Z Z Z (Q1 Z Z Z Z (Qa (Qq Z Z) Z (Ql ⟨Z,Z,Z,Z,Z,congrArg (fun b=>some (Value.bool b)) (show false = ((((((((decide (x.queue = y.queue)) && (decide (x.staged = y.staged))) && (decide (x.inputs = y.inputs))) && (decide (x.cells = y.cells))) && (decide (x.sums = y.sums))) && (decide (x.black = y.black))) && (decide (x.caps = y.caps))) && (decide (x.dones = y.dones))) by first | (rw [hg1,hg2,hg3,hg4,hg5] <;> rfl) | (simp [hg1,hg2,hg3,hg4,hg5];done) | (simp only [Qp] <;> simp)),trivial⟩ ⟨E,(by omega),h1,h2⟩)))))))))))))))
     ·refine Qc Z Z Z Z (Qc Z Z Z Z (Qc Z Z Z Z (Qc Z Z Z Z ?_)))
      refine Q1 Z Z Z Z ?_
      refine Qa (Qq Z Z) Z (Qa (Qe Z) Z (Qc Z Z Z Z (Qc Z Z Z Z (Qc Z Z Z Z (Qc Z Z Z Z (Q1 Z Z Z Z (Qa (Qq Z Z) Z (Qa (Qe Z) Z (Qc Z Z Z Z (Qc Z Z Z Z (Qc Z Z Z Z (Qc Z Z Z Z (Q1 Z Z Z Z (Qa (Qq Z Z) Z (Qa (Qe Z) Z (Qc Z Z Z Z (Qc Z Z Z Z (Qc Z Z Z Z (Qc Z Z Z Z (Q1 Z Z Z Z (Qa (Qq Z Z) Z (Ql ⟨Z,Z,Z,Z,Z,congrArg (fun b=>some (Value.bool b)) (show false = ((((((((decide (x.queue = y.queue)) && (decide (x.staged = y.staged))) && (decide (x.inputs = y.inputs))) && (decide (x.cells = y.cells))) && (decide (x.sums = y.sums))) && (decide (x.black = y.black))) && (decide (x.caps = y.caps))) && (decide (x.dones = y.dones))) by first | (rw [hg1,hg2,hg3,hg4] <;> rfl) | (simp [hg1,hg2,hg3,hg4];done) | (simp only [Qp] <;> simp)),trivial⟩ ⟨E,(by omega),h1,h2⟩))))))))))))))))))))))
    ·refine Qc Z Z Z Z (Qc Z Z Z Z (Qc Z Z Z Z (Qc Z Z Z Z ?_)))
     refine Q1 Z Z Z Z ?_
     refine Qa (Qq Z Z) Z (Qa (Qe Z) Z (Qc Z Z Z Z (Qc Z Z Z Z (Qc Z Z Z Z (Qc Z Z Z Z (Q1 Z Z Z Z (Qa (Qq Z Z) Z (Qa (Qe Z) Z (Qc Z Z Z Z (Qc Z Z Z Z (Qc Z Z Z Z (Qc Z Z Z Z (Q1 Z Z Z Z (Qa (Qq Z Z) Z (Qa (Qe Z) Z (Qc Z Z Z Z (Qc Z Z Z Z (Qc Z Z Z Z (Qc Z Z Z Z (Q1 Z Z Z Z (Qa (Qq Z Z) Z (Qa (Qe Z) Z (Qc Z Z Z Z (Qc Z Z Z Z (Qc Z Z Z Z (Qc Z Z Z Z (Q1 Z Z Z Z (Qa (Qq Z Z) Z (Ql ⟨Z,Z,Z,Z,Z,congrArg (fun b=>some (Value.bool b)) (show false = ((((((((decide (x.queue = y.queue)) && (decide (x.staged = y.staged))) && (decide (x.inputs = y.inputs))) && (decide (x.cells = y.cells))) && (decide (x.sums = y.sums))) && (decide (x.black = y.black))) && (decide (x.caps = y.caps))) && (decide (x.dones = y.dones))) by first | (rw [hg1,hg2,hg3] <;> rfl) | (simp [hg1,hg2,hg3];done) | (simp only [Qp] <;> simp)),trivial⟩ ⟨E,(by omega),h1,h2⟩)))))))))))))))))))))))))))))
   ·refine Qc Z Z Z Z (Qc Z Z Z Z (Qc Z Z Z Z (Qc Z Z Z Z ?_)))
    refine Q1 Z Z Z Z ?_
    refine Qa (Qq Z Z) Z (Qa (Qe Z) Z (Qc Z Z Z Z (Qc Z Z Z Z (Qc Z Z Z Z (Qc Z Z Z Z (Q1 Z Z Z Z (Qa (Qq Z Z) Z (Qa (Qe Z) Z (Qc Z Z Z Z (Qc Z Z Z Z (Qc Z Z Z Z (Qc Z Z Z Z (Q1 Z Z Z Z (Qa (Qq Z Z) Z (Qa (Qe Z) Z (Qc Z Z Z Z (Qc Z Z Z Z (Qc Z Z Z Z (Qc Z Z Z Z (Q1 Z Z Z Z (Qa (Qq Z Z) Z (Qa (Qe Z) Z (Qc Z Z Z Z (Qc Z Z Z Z (Qc Z Z Z Z (Qc Z Z Z Z (Q1 Z Z Z Z (Qa (Qq Z Z) Z (Qa (Qe Z) Z (Qc Z Z Z Z (Qc Z Z Z Z (Qc Z Z Z Z (Qc Z Z Z Z (Q1 Z Z Z Z (Qa (Qq Z Z) Z (Ql ⟨Z,Z,Z,Z,Z,congrArg (fun b=>some (Value.bool b)) (show false = ((((((((decide (x.queue = y.queue)) && (decide (x.staged = y.staged))) && (decide (x.inputs = y.inputs))) && (decide (x.cells = y.cells))) && (decide (x.sums = y.sums))) && (decide (x.black = y.black))) && (decide (x.caps = y.caps))) && (decide (x.dones = y.dones))) by first | (rw [hg1,hg2] <;> rfl) | (simp [hg1,hg2];done) | (simp only [Qp] <;> simp)),trivial⟩ ⟨E,(by omega),h1,h2⟩))))))))))))))))))))))))))))))))))))
  ·refine Qc Z Z Z Z (Qc Z Z Z Z (Qc Z Z Z Z (Qc Z Z Z Z ?_)))
   refine Q1 Z Z Z Z ?_
   refine Qa (Qq Z Z) Z (Qa (Qe Z) Z (Qc Z Z Z Z (Qc Z Z Z Z (Qc Z Z Z Z (Qc Z Z Z Z (Q1 Z Z Z Z (Qa (Qq Z Z) Z (Qa (Qe Z) Z (Qc Z Z Z Z (Qc Z Z Z Z (Qc Z Z Z Z (Qc Z Z Z Z (Q1 Z Z Z Z (Qa (Qq Z Z) Z (Qa (Qe Z) Z (Qc Z Z Z Z (Qc Z Z Z Z (Qc Z Z Z Z (Qc Z Z Z Z (Q1 Z Z Z Z (Qa (Qq Z Z) Z (Qa (Qe Z) Z (Qc Z Z Z Z (Qc Z Z Z Z (Qc Z Z Z Z (Qc Z Z Z Z (Q1 Z Z Z Z (Qa (Qq Z Z) Z (Qa (Qe Z) Z (Qc Z Z Z Z (Qc Z Z Z Z (Qc Z Z Z Z (Qc Z Z Z Z (Q1 Z Z Z Z (Qa (Qq Z Z) Z (Qa (Qe Z) Z (Qc Z Z Z Z (Qc Z Z Z Z (Qc Z Z Z Z (Qc Z Z Z Z (Q1 Z Z Z Z (Qa (Qq Z Z) Z (Ql ⟨Z,Z,Z,Z,Z,congrArg (fun b=>some (Value.bool b)) (show false = ((((((((decide (x.queue = y.queue)) && (decide (x.staged = y.staged))) && (decide (x.inputs = y.inputs))) && (decide (x.cells = y.cells))) && (decide (x.sums = y.sums))) && (decide (x.black = y.black))) && (decide (x.caps = y.caps))) && (decide (x.dones = y.dones))) by first | (rw [hg1] <;> rfl) | (simp [hg1];done) | (simp only [Qp] <;> simp)),trivial⟩ ⟨E,(by omega),h1,h2⟩)))))))))))))))))))))))))))))))))))))))))))
 clear E h1 h2
 rintro w4 ⟨E,z11,h1,h2⟩
 refine Qa (Qg Z) Z (Qf (Qx (Q0 Z Z E ?_)))
 refine congrArg Value.bool (Bool.eq_iff_iff.2 ?_);cases x;cases y;simp [and_assoc]

set_option maxRecDepth 20000 in
theorem s_l13Case (vcode : Value) (code : List Byt) (w : World) (hcode : RdS w vcode code) : Ct Tryz.prog 41 [vcode] w (fun v w'=>∃ (dr0 : Worker) (dr1 : Record),Q4 dr0 ≤ 200 ∧ ∃ c0,v = .tuple [.agg c0.toArray,.agg (Enc.enc dr1).toArray].toArray ∧ Dat.R w' w.heap.size w'.heap.size c0 dr0):=by
 refine Yx Tryz.func41 Z Tryz.ntmps41 Z ?_
 refine Yh [(0,vcode)] ⟨Z,trivial⟩ ?_
 have E : Ext w w:=Ext.refl w
 refine Qh (Qi [false,false] Z Z (Q6 Q7 Z (fun b1 w1 e1 s1 h1=>?_)))
 have g_b1 : w.heap.size ≤ b1:=by have:=E.size;omega
 have y_b1:=h1.lt
 replace E:=E.trans e1
 have z1:=e1.size
 refine Q6 Xh Z (fun b2 w2 e2 s2 h2=>?_)
 have g_b2 : w.heap.size ≤ b2:=by have:=E.size;omega
 have y_b2:=h2.lt
 replace E:=E.trans e2;replace h1:=h1.ext e2
 have z2:=e2.size
 refine Qf (Qh (Qi [true,false,true] Z Z (Qa (Qe Z) Z (Qv Tryz.call48 Z (s_l01New vcode code _ (hcode.ext E)) Z (fun _ w3 e3 hcu1=>?_)))))
 obtain ⟨bc1,rfl,ybc1,hcu1⟩:=hcu1
 have g_bc1 : w.heap.size ≤ bc1:=Nat.le_trans E.size ybc1
 have y_bc1:=CurO.lt hcu1
 replace E:=E.trans e3;replace h1:=h1.ext e3;replace h2:=h2.ext e3
 have z3:=e3.size
 refine Qa (Qg Z) Z (Qf (Qh (Qi [true,false,false,false] Z Z (Qa (Qe Z) Z (Yu Tryz.call49 Z Z (s_l08Graph bc1 vcode code _ hcu1 (RdD.widen (RdD.ext (RdS.rdD hcode) E) (Nat.le_refl _) (by omega))) Z (fun _ w4 e4 ho1=>?_))))))
 obtain ⟨dx1,q1,q2,q3,hcu1',ho1⟩:=ho1
 replace hcu1:=hcu1'
 obtain ⟨o1,rfl,ho1⟩:=ho1
 have g_ho1 : w.heap.size ≤ w3.heap.size:=E.size
 replace E:=E.stepR e4 (by omega);replace h1:=h1.modR e4 (by omega);replace h2:=h2.modR e4 (by omega)
 have z4:=e4.size
 refine Q6 Xt Z (fun b3 w5 e5 s3 h3=>?_)
 have g_b3 : w.heap.size ≤ b3:=by have:=E.size;omega
 have y_b3:=h3.lt
 replace E:=E.trans e5;replace h1:=h1.ext e5;replace h2:=h2.ext e5;replace hcu1:=hcu1.ext e5;replace ho1:=ho1.ext e5
 have z5:=e5.size
 refine Qs (cs':=[o1,.int .i64 dx1.workers,.int .i64 dx1.cap]) Xt Z Z Z (Qb (RdD.one (OwS.rd ho1)) (Qb Z (Qb Z Z))) h3 (Nat.le_of_ble_eq_true Z) Z (fun w6 m1 h3'=>?_)
 replace h3:=h3'
 replace E:=E.step m1 (fun g hg=>by cases hg;omega);replace h1:=h1.mod m1 (fun g hg=>by cases hg;omega);replace h2:=h2.mod m1 (fun g hg=>by cases hg;omega);replace hcu1:=hcu1.mod m1 (fun g hg=>by cases hg;omega);replace ho1:=ho1.mod m1 (fun g hg=>by cases hg;omega)
 have z6:=m1.size
 refine Qf (Qh (Qi [true,true,false,true,false,false,false] Z Z (Qa (Qe Z) Z (Qa (Qo Xt Z h3.at Z) Z (Yu Tryz.call50 Z Z (s_l12Any bc1 vcode code o1 dx1 _ hcu1 (RdD.widen (RdD.ext (RdS.rdD hcode) E) (Nat.le_refl _) (by omega)) (fun wX eX=>RdD.any (OwS.rd (OwS.modR ho1 eX (by omega)))) (smG_cnt (by assumption))) Z (fun v1 w7 e6 ho2=>?_))))))
 obtain ⟨dx2,q4,hcu1',ho2⟩:=ho2
 replace hcu1:=hcu1'
 obtain ⟨_,rfl,ho2⟩:=ho2
 obtain ⟨o2,o3,o4,o5,o6,o7,o8,o9,rfl,hd1,hd2,hd3,hd4,hd5,hd6,hd7,hd8⟩:=Worker.op ho2
 replace E:=E.stepR e6 (by omega);replace h1:=h1.modR e6 (by omega);replace h2:=h2.modR e6 (by omega);replace ho1:=ho1.modR e6 (by omega);replace h3:=h3.modR e6 (by omega)
 have z7:=e6.size
 refine Qa (Qe Z) Z (Yu Tryz.call69 Z Z (s_l05Any bc1 vcode code _ hcu1 (RdD.widen (RdD.ext (RdS.rdD hcode) E) (Nat.le_refl _) (by omega))) Z (fun _ w8 e7 hv=>?_))
 obtain ⟨dx3,hcu1',hv⟩:=hv
 replace hcu1:=hcu1'
 subst hv
 replace E:=E.stepR e7 (by omega);replace h1:=h1.modR e7 (by omega);replace h2:=h2.modR e7 (by omega);replace ho1:=ho1.modR e7 (by omega);replace h3:=h3.modR e7 (by omega);replace hd1:=hd1.modR e7 (by omega);replace hd2:=hd2.modR e7 (by omega);replace hd3:=hd3.modR e7 (by omega);replace hd4:=hd4.modR e7 (by omega);replace hd5:=hd5.modR e7 (by omega);replace hd6:=hd6.modR e7 (by omega);replace hd7:=hd7.modR e7 (by omega);replace hd8:=hd8.modR e7 (by omega)
 have z8:=e7.size
 refine Qs (cs':=[o2,o3,o4,o5,o6,o7,o8,o9]) Q7 Z Z Z (Qb (RdD.one hd1) (Qb (RdD.one hd2) (Qb (RdD.one hd3) (Qb (RdD.one hd4) (Qb (RdD.one hd5) (Qb (RdD.one hd6) (Qb (RdD.one hd7) (Qb (RdD.one hd8) Z)))))))) h1 (Nat.le_of_ble_eq_true Z) Z (fun w9 m2 h1'=>?_)
 replace h1:=h1'
 replace E:=E.step m2 (fun g hg=>by cases hg;omega);replace h2:=h2.mod m2 (fun g hg=>by cases hg;omega);replace hcu1:=hcu1.mod m2 (fun g hg=>by cases hg;omega);replace ho1:=ho1.mod m2 (fun g hg=>by cases hg;omega);replace h3:=h3.mod m2 (fun g hg=>by cases hg;omega);replace hd1:=hd1.mod m2 (fun g hg=>by cases hg;omega);replace hd2:=hd2.mod m2 (fun g hg=>by cases hg;omega);replace hd3:=hd3.mod m2 (fun g hg=>by cases hg;omega);replace hd4:=hd4.mod m2 (fun g hg=>by cases hg;omega);replace hd5:=hd5.mod m2 (fun g hg=>by cases hg;omega);replace hd6:=hd6.mod m2 (fun g hg=>by cases hg;omega);replace hd7:=hd7.mod m2 (fun g hg=>by cases hg;omega);replace hd8:=hd8.mod m2 (fun g hg=>by cases hg;omega)
 have z9:=m2.size
 refine Qs (cs':=[.int .i64 dx3.op,.int .i64 dx3.stamp.epoch,.int .i64 dx3.stamp.turn,.int .i64 dx3.key,.int .i64 dx3.val]) Xh Z Z Z Z h2 (Nat.le_of_ble_eq_true Z) Z (fun w10 m3 h2'=>?_)
 replace h2:=h2'
 replace E:=E.step m3 (fun g hg=>by cases hg;omega);replace h1:=h1.mod m3 (fun g hg=>by cases hg;omega);replace hcu1:=hcu1.mod m3 (fun g hg=>by cases hg;omega);replace ho1:=ho1.mod m3 (fun g hg=>by cases hg;omega);replace h3:=h3.mod m3 (fun g hg=>by cases hg;omega);replace hd1:=hd1.mod m3 (fun g hg=>by cases hg;omega);replace hd2:=hd2.mod m3 (fun g hg=>by cases hg;omega);replace hd3:=hd3.mod m3 (fun g hg=>by cases hg;omega);replace hd4:=hd4.mod m3 (fun g hg=>by cases hg;omega);replace hd5:=hd5.mod m3 (fun g hg=>by cases hg;omega);replace hd6:=hd6.mod m3 (fun g hg=>by cases hg;omega);replace hd7:=hd7.mod m3 (fun g hg=>by cases hg;omega);replace hd8:=hd8.mod m3 (fun g hg=>by cases hg;omega)
 have z10:=m3.size
 refine Qf (Qx (Yo (l:=[.cell 2 33,.cell 3 42]) (vs:=[.agg [o2,o3,o4,o5,o6,o7,o8,o9].toArray,.agg (Enc.enc dx3).toArray]) Z ⟨.cell Z (Qu Q7 h1.at Z),.cell Z (Qu Xh h2.at Z),trivial⟩ Z E ?_))
 exact ⟨dx2,dx3,(by assumption),⟨_,Z,(Worker.mkR _ (RdD.widen hd1 (by have:=E.size;omega) (by omega)) (RdD.widen hd2 (by have:=E.size;omega) (by omega)) (RdD.widen hd3 (by have:=E.size;omega) (by omega)) (RdD.widen hd4 (by have:=E.size;omega) (by omega)) (RdD.widen hd5 (by have:=E.size;omega) (by omega)) (RdD.widen hd6 (by have:=E.size;omega) (by omega)) (RdD.widen hd7 (by have:=E.size;omega) (by omega)) (RdD.widen hd8 (by have:=E.size;omega) (by omega)))⟩⟩

set_option maxRecDepth 20000 in
theorem s_l12At (vcode : Value) (code : List Byt) (w : World) (hcode : RdS w vcode code) : Ct Tryz.prog 43 [vcode] w (fun v w'=>∃ (dr0 : Worker) (dr1 : Int),Q4 dr0 ≤ 200 ∧ ∃ c0,v = .tuple [.agg c0.toArray,.int .i64 dr1].toArray ∧ Dat.R w' w.heap.size w'.heap.size c0 dr0):=by
 refine Yx Tryz.func43 Z Tryz.ntmps43 Z ?_
 refine Yh [(0,vcode)] ⟨Z,trivial⟩ ?_
 have E : Ext w w:=Ext.refl w
 refine Qh (Qi [false,true] Z Z (Q6 Q7 Z (fun b1 w1 e1 s1 h1=>?_)))
 have g_b1 : w.heap.size ≤ b1:=by have:=E.size;omega
 have y_b1:=h1.lt
 replace E:=E.trans e1
 have z1:=e1.size
 refine Qa (Qg Z) Z (Qf (Qh (Qi [true,false,true,true,true,false,false,false,false] Z Z (Qa (Qe Z) Z (Qv Tryz.call26 Z (s_l12Case vcode code _ (hcode.ext E)) Z (fun _ w2 e2 ho1=>?_))))))
 obtain ⟨dx1,dx2,q1,q2,ho1⟩:=ho1
 obtain ⟨_,_,rfl,ho2,ho3⟩:=ho1
 have g_ho1 : w.heap.size ≤ w1.heap.size:=E.size
 replace E:=E.trans e2;replace h1:=h1.ext e2
 have z2:=e2.size
 obtain ⟨o1,rfl,hd1⟩:=Graph.op ho2
 obtain ⟨o2,o3,o4,o5,o6,o7,o8,o9,rfl,hd2,hd3,hd4,hd5,hd6,hd7,hd8,hd9⟩:=Worker.op ho3
 refine Qa (Qe Z) Z (Qa (Q5 Z Z) Z (Qa (Q5 Z Z) Z (Q6 Xt Z (fun b2 w3 e3 s2 h2=>?_))))
 have g_b2 : w.heap.size ≤ b2:=by have:=E.size;omega
 have y_b2:=h2.lt
 replace E:=E.trans e3;replace h1:=h1.ext e3;replace hd1:=hd1.ext e3;replace hd2:=hd2.ext e3;replace hd3:=hd3.ext e3;replace hd4:=hd4.ext e3;replace hd5:=hd5.ext e3;replace hd6:=hd6.ext e3;replace hd7:=hd7.ext e3;replace hd8:=hd8.ext e3;replace hd9:=hd9.ext e3
 have z3:=e3.size
 refine Q6 Q7 Z (fun b3 w4 e4 s3 h3=>?_)
 have g_b3 : w.heap.size ≤ b3:=by have:=E.size;omega
 have y_b3:=h3.lt
 replace E:=E.trans e4;replace h1:=h1.ext e4;replace hd1:=hd1.ext e4;replace hd2:=hd2.ext e4;replace hd3:=hd3.ext e4;replace hd4:=hd4.ext e4;replace hd5:=hd5.ext e4;replace hd6:=hd6.ext e4;replace hd7:=hd7.ext e4;replace hd8:=hd8.ext e4;replace hd9:=hd9.ext e4;replace h2:=h2.ext e4
 have z4:=e4.size
 refine Qs (cs':=[o1,.int .i64 dx1.workers,.int .i64 dx1.cap]) Xt Z Z Z (Qb (RdD.one hd1) (Qb Z (Qb Z Z))) h2 (Nat.le_of_ble_eq_true Z) Z (fun w5 m1 h2'=>?_)
 replace h2:=h2'
 replace E:=E.step m1 (fun g hg=>by cases hg;omega);replace h1:=h1.mod m1 (fun g hg=>by cases hg;omega);replace hd1:=hd1.mod m1 (fun g hg=>by cases hg;omega);replace hd2:=hd2.mod m1 (fun g hg=>by cases hg;omega);replace hd3:=hd3.mod m1 (fun g hg=>by cases hg;omega);replace hd4:=hd4.mod m1 (fun g hg=>by cases hg;omega);replace hd5:=hd5.mod m1 (fun g hg=>by cases hg;omega);replace hd6:=hd6.mod m1 (fun g hg=>by cases hg;omega);replace hd7:=hd7.mod m1 (fun g hg=>by cases hg;omega);replace hd8:=hd8.mod m1 (fun g hg=>by cases hg;omega);replace hd9:=hd9.mod m1 (fun g hg=>by cases hg;omega);replace h3:=h3.mod m1 (fun g hg=>by cases hg;omega)
 have z5:=m1.size
 refine Qs (cs':=[o2,o3,o4,o5,o6,o7,o8,o9]) Q7 Z Z Z (Qb (RdD.one hd2) (Qb (RdD.one hd3) (Qb (RdD.one hd4) (Qb (RdD.one hd5) (Qb (RdD.one hd6) (Qb (RdD.one hd7) (Qb (RdD.one hd8) (Qb (RdD.one hd9) Z)))))))) h3 (Nat.le_of_ble_eq_true Z) Z (fun w6 m2 h3'=>?_)
 replace h3:=h3'
 replace E:=E.step m2 (fun g hg=>by cases hg;omega);replace h1:=h1.mod m2 (fun g hg=>by cases hg;omega);replace hd1:=hd1.mod m2 (fun g hg=>by cases hg;omega);replace hd2:=hd2.mod m2 (fun g hg=>by cases hg;omega);replace hd3:=hd3.mod m2 (fun g hg=>by cases hg;omega);replace hd4:=hd4.mod m2 (fun g hg=>by cases hg;omega);replace hd5:=hd5.mod m2 (fun g hg=>by cases hg;omega);replace hd6:=hd6.mod m2 (fun g hg=>by cases hg;omega);replace hd7:=hd7.mod m2 (fun g hg=>by cases hg;omega);replace hd8:=hd8.mod m2 (fun g hg=>by cases hg;omega);replace hd9:=hd9.mod m2 (fun g hg=>by cases hg;omega);replace h2:=h2.mod m2 (fun g hg=>by cases hg;omega)
 have z6:=m2.size
 refine Qf (Qh (Hd Xo [1,4,6] [(0,true),(1,true),(2,false),(3,false),(4,true)] [(5,false),(6,true)] (by decide +kernel) Z Z (fun w'=>Ext w w' ∧ w6.heap.size ≤ w'.heap.size ∧ Blk w' b1 [.slice none 0 0,.slice none 0 0,.slice none 0 0,.slice none 0 0,.slice none 0 0,.slice none 0 0,.slice none 0 0,.slice none 0 0] ∧ RdD w' w1.heap.size w2.heap.size o1 dx1.nodes ∧ RdD w' w1.heap.size w2.heap.size o2 dx2.queue ∧ RdD w' w1.heap.size w2.heap.size o3 dx2.staged ∧ RdD w' w1.heap.size w2.heap.size o4 dx2.inputs ∧ RdD w' w1.heap.size w2.heap.size o5 dx2.cells ∧ RdD w' w1.heap.size w2.heap.size o6 dx2.sums ∧ RdD w' w1.heap.size w2.heap.size o7 dx2.black ∧ RdD w' w1.heap.size w2.heap.size o8 dx2.caps ∧ RdD w' w1.heap.size w2.heap.size o9 dx2.dones ∧ Blk w' b2 [o1,.int .i64 dx1.workers,.int .i64 dx1.cap] ∧ Blk w' b3 [o2,o3,o4,o5,o6,o7,o8,o9]) (fun w7 e5=>?_)))
 replace E:=E.trans e5;replace h1:=h1.ext e5;replace hd1:=hd1.ext e5;replace hd2:=hd2.ext e5;replace hd3:=hd3.ext e5;replace hd4:=hd4.ext e5;replace hd5:=hd5.ext e5;replace hd6:=hd6.ext e5;replace hd7:=hd7.ext e5;replace hd8:=hd8.ext e5;replace hd9:=hd9.ext e5;replace h2:=h2.ext e5;replace h3:=h3.ext e5
 have z7:=e5.size
 refine ⟨⟨E,(by omega),h1,hd1,hd2,hd3,hd4,hd5,hd6,hd7,hd8,hd9,h2,h3⟩,?_⟩
 refine G3 rfl (fun wX hX=>by obtain ⟨E,zX,h1,hd1,hd2,hd3,hd4,hd5,hd6,hd7,hd8,hd9,h2,h3⟩:=hX;exact Qo Q7 rfl h3.at rfl) rfl ?_
 refine U6 Z (fun wX=>Qe Z) Z ?_
 refine Vr Z ?_
 refine Qv Tryz.call48 Z (s_l01New vcode code _ (hcode.ext E)) Z (fun _ w8 e6 hcu1=>?_)
 obtain ⟨bc1,rfl,ybc1,hcu1⟩:=hcu1
 have g_bc1 : w.heap.size ≤ bc1:=Nat.le_trans E.size ybc1
 have y_bc1:=CurO.lt hcu1
 replace E:=E.trans e6;replace h1:=h1.ext e6;replace hd1:=hd1.ext e6;replace hd2:=hd2.ext e6;replace hd3:=hd3.ext e6;replace hd4:=hd4.ext e6;replace hd5:=hd5.ext e6;replace hd6:=hd6.ext e6;replace hd7:=hd7.ext e6;replace hd8:=hd8.ext e6;replace hd9:=hd9.ext e6;replace h2:=h2.ext e6;replace h3:=h3.ext e6
 have z8:=e6.size
 refine Ub ⟨E,(by omega),h1,hd1,hd2,hd3,hd4,hd5,hd6,hd7,hd8,hd9,h2,h3⟩ ?_
 refine Vr Z ?_
 refine Yu Tryz.call70 Z Z (s_l01Below bc1 vcode code 6 _ hcu1 (RdD.widen (RdD.ext (RdS.rdD hcode) E) (Nat.le_refl _) (by omega))) Z (fun _ w9 e7 hv=>?_)
 obtain ⟨dx3,q3,q4,hcu1',hv⟩:=hv
 replace hcu1:=hcu1'
 subst hv
 replace E:=E.stepR e7 (by omega);replace h1:=h1.modR e7 (by omega);replace hd1:=hd1.modR e7 (by omega);replace hd2:=hd2.modR e7 (by omega);replace hd3:=hd3.modR e7 (by omega);replace hd4:=hd4.modR e7 (by omega);replace hd5:=hd5.modR e7 (by omega);replace hd6:=hd6.modR e7 (by omega);replace hd7:=hd7.modR e7 (by omega);replace hd8:=hd8.modR e7 (by omega);replace hd9:=hd9.modR e7 (by omega);replace h2:=h2.modR e7 (by omega);replace h3:=h3.modR e7 (by omega)
 have z9:=e7.size
 refine Ub ⟨E,(by omega),h1,hd1,hd2,hd3,hd4,hd5,hd6,hd7,hd8,hd9,h2,h3⟩ ?_
 refine U6 Z (fun wX=>U5 Z Z Z) Z ?_
 refine Hg ?_
 refine Qs (cs':=[o2,o3,o4,o5,o6,o7,o8,o9]) Q7 Z Z Z (Qb (RdD.one hd2) (Qb (RdD.one hd3) (Qb (RdD.one hd4) (Qb (RdD.one hd5) (Qb (RdD.one hd6) (Qb (RdD.one hd7) (Qb (RdD.one hd8) (Qb (RdD.one hd9) Z)))))))) h1 (Nat.le_of_ble_eq_true Z) Z (fun w10 m3 h1'=>?_)
 replace h1:=h1'
 replace E:=E.step m3 (fun g hg=>by cases hg;omega);replace hd1:=hd1.mod m3 (fun g hg=>by cases hg;omega);replace hd2:=hd2.mod m3 (fun g hg=>by cases hg;omega);replace hd3:=hd3.mod m3 (fun g hg=>by cases hg;omega);replace hd4:=hd4.mod m3 (fun g hg=>by cases hg;omega);replace hd5:=hd5.mod m3 (fun g hg=>by cases hg;omega);replace hd6:=hd6.mod m3 (fun g hg=>by cases hg;omega);replace hd7:=hd7.mod m3 (fun g hg=>by cases hg;omega);replace hd8:=hd8.mod m3 (fun g hg=>by cases hg;omega);replace hd9:=hd9.mod m3 (fun g hg=>by cases hg;omega);replace h2:=h2.mod m3 (fun g hg=>by cases hg;omega);replace h3:=h3.mod m3 (fun g hg=>by cases hg;omega);replace hcu1:=hcu1.mod m3 (fun g hg=>by cases hg;omega)
 have z10:=m3.size
 refine Qa (Qg Z) Z (Qf (Qx (Yo (l:=[.cell 2 33,.tmp 3]) (vs:=[.agg [o2,o3,o4,o5,o6,o7,o8,o9].toArray,.int .i64 (IntKind.i64.wrap (((dx3 : Nat) : Int) - 1))]) Z ⟨.cell Z (Qu Q7 h1.at Z),.tmp Z,trivial⟩ Z E ?_)))
 exact ⟨dx2,(IntKind.i64.wrap (((dx3 : Nat) : Int) - 1)),(by assumption),⟨_,Z,(Worker.mkR _ (RdD.widen hd2 (by have:=E.size;omega) (by omega)) (RdD.widen hd3 (by have:=E.size;omega) (by omega)) (RdD.widen hd4 (by have:=E.size;omega) (by omega)) (RdD.widen hd5 (by have:=E.size;omega) (by omega)) (RdD.widen hd6 (by have:=E.size;omega) (by omega)) (RdD.widen hd7 (by have:=E.size;omega) (by omega)) (RdD.widen hd8 (by have:=E.size;omega) (by omega)) (RdD.widen hd9 (by have:=E.size;omega) (by omega)))⟩⟩

set_option maxRecDepth 20000 in
theorem s_DrawCountsAt (vcode : Value) (code : List Byt) (w : World) (hcode : RdS w vcode code) : Ct Tryz.prog 44 [vcode] w (fun v w'=>∃ (dr0 : Worker),Q4 dr0 ≤ 200 ∧ ∃ cs,v = .agg cs.toArray ∧ Dat.R w' w.heap.size w'.heap.size cs dr0):=by
 refine Yx Tryz.func44 Z Tryz.ntmps44 Z ?_
 refine Yh [(0,vcode)] ⟨Z,trivial⟩ ?_
 have E : Ext w w:=Ext.refl w
 refine Qh (Qi [false] Z Z (Q6 Q7 Z (fun b1 w1 e1 s1 h1=>?_)))
 have g_b1 : w.heap.size ≤ b1:=by have:=E.size;omega
 have y_b1:=h1.lt
 replace E:=E.trans e1
 have z1:=e1.size
 refine Qf (Qh (Qi [true,false,true,true,true,false,false,false,false] Z Z (Qa (Qe Z) Z (Qv Tryz.call26 Z (s_l12Case vcode code _ (hcode.ext E)) Z (fun _ w2 e2 ho1=>?_)))))
 obtain ⟨dx1,dx2,q1,q2,ho1⟩:=ho1
 obtain ⟨_,_,rfl,ho2,ho3⟩:=ho1
 have g_ho1 : w.heap.size ≤ w1.heap.size:=E.size
 replace E:=E.trans e2;replace h1:=h1.ext e2
 have z2:=e2.size
 obtain ⟨o1,rfl,hd1⟩:=Graph.op ho2
 obtain ⟨o2,o3,o4,o5,o6,o7,o8,o9,rfl,hd2,hd3,hd4,hd5,hd6,hd7,hd8,hd9⟩:=Worker.op ho3
 refine Qa (Qe Z) Z (Qa (Q5 Z Z) Z (Qa (Q5 Z Z) Z (Q6 Xt Z (fun b2 w3 e3 s2 h2=>?_))))
 have g_b2 : w.heap.size ≤ b2:=by have:=E.size;omega
 have y_b2:=h2.lt
 replace E:=E.trans e3;replace h1:=h1.ext e3;replace hd1:=hd1.ext e3;replace hd2:=hd2.ext e3;replace hd3:=hd3.ext e3;replace hd4:=hd4.ext e3;replace hd5:=hd5.ext e3;replace hd6:=hd6.ext e3;replace hd7:=hd7.ext e3;replace hd8:=hd8.ext e3;replace hd9:=hd9.ext e3
 have z3:=e3.size
 refine Q6 Q7 Z (fun b3 w4 e4 s3 h3=>?_)
 have g_b3 : w.heap.size ≤ b3:=by have:=E.size;omega
 have y_b3:=h3.lt
 replace E:=E.trans e4;replace h1:=h1.ext e4;replace hd1:=hd1.ext e4;replace hd2:=hd2.ext e4;replace hd3:=hd3.ext e4;replace hd4:=hd4.ext e4;replace hd5:=hd5.ext e4;replace hd6:=hd6.ext e4;replace hd7:=hd7.ext e4;replace hd8:=hd8.ext e4;replace hd9:=hd9.ext e4;replace h2:=h2.ext e4
 have z4:=e4.size
 refine Qs (cs':=[o1,.int .i64 dx1.workers,.int .i64 dx1.cap]) Xt Z Z Z (Qb (RdD.one hd1) (Qb Z (Qb Z Z))) h2 (Nat.le_of_ble_eq_true Z) Z (fun w5 m1 h2'=>?_)
 replace h2:=h2'
 replace E:=E.step m1 (fun g hg=>by cases hg;omega);replace h1:=h1.mod m1 (fun g hg=>by cases hg;omega);replace hd1:=hd1.mod m1 (fun g hg=>by cases hg;omega);replace hd2:=hd2.mod m1 (fun g hg=>by cases hg;omega);replace hd3:=hd3.mod m1 (fun g hg=>by cases hg;omega);replace hd4:=hd4.mod m1 (fun g hg=>by cases hg;omega);replace hd5:=hd5.mod m1 (fun g hg=>by cases hg;omega);replace hd6:=hd6.mod m1 (fun g hg=>by cases hg;omega);replace hd7:=hd7.mod m1 (fun g hg=>by cases hg;omega);replace hd8:=hd8.mod m1 (fun g hg=>by cases hg;omega);replace hd9:=hd9.mod m1 (fun g hg=>by cases hg;omega);replace h3:=h3.mod m1 (fun g hg=>by cases hg;omega)
 have z5:=m1.size
 refine Qs (cs':=[o2,o3,o4,o5,o6,o7,o8,o9]) Q7 Z Z Z (Qb (RdD.one hd2) (Qb (RdD.one hd3) (Qb (RdD.one hd4) (Qb (RdD.one hd5) (Qb (RdD.one hd6) (Qb (RdD.one hd7) (Qb (RdD.one hd8) (Qb (RdD.one hd9) Z)))))))) h3 (Nat.le_of_ble_eq_true Z) Z (fun w6 m2 h3'=>?_)
 replace h3:=h3'
 replace E:=E.step m2 (fun g hg=>by cases hg;omega);replace h1:=h1.mod m2 (fun g hg=>by cases hg;omega);replace hd1:=hd1.mod m2 (fun g hg=>by cases hg;omega);replace hd2:=hd2.mod m2 (fun g hg=>by cases hg;omega);replace hd3:=hd3.mod m2 (fun g hg=>by cases hg;omega);replace hd4:=hd4.mod m2 (fun g hg=>by cases hg;omega);replace hd5:=hd5.mod m2 (fun g hg=>by cases hg;omega);replace hd6:=hd6.mod m2 (fun g hg=>by cases hg;omega);replace hd7:=hd7.mod m2 (fun g hg=>by cases hg;omega);replace hd8:=hd8.mod m2 (fun g hg=>by cases hg;omega);replace hd9:=hd9.mod m2 (fun g hg=>by cases hg;omega);replace h2:=h2.mod m2 (fun g hg=>by cases hg;omega)
 have z6:=m2.size
 refine Qf (Qh (Qi [true,false] Z Z (Qa (Qo Q7 Z h3.at Z) Z (Qs (cs':=[o2,o3,o4,o5,o6,o7,o8,o9]) Q7 Z Z Z (Qb (RdD.one hd2) (Qb (RdD.one hd3) (Qb (RdD.one hd4) (Qb (RdD.one hd5) (Qb (RdD.one hd6) (Qb (RdD.one hd7) (Qb (RdD.one hd8) (Qb (RdD.one hd9) Z)))))))) h1 (Nat.le_of_ble_eq_true Z) Z (fun w7 m3 h1'=>?_)))))
 replace h1:=h1'
 replace E:=E.step m3 (fun g hg=>by cases hg;omega);replace hd1:=hd1.mod m3 (fun g hg=>by cases hg;omega);replace hd2:=hd2.mod m3 (fun g hg=>by cases hg;omega);replace hd3:=hd3.mod m3 (fun g hg=>by cases hg;omega);replace hd4:=hd4.mod m3 (fun g hg=>by cases hg;omega);replace hd5:=hd5.mod m3 (fun g hg=>by cases hg;omega);replace hd6:=hd6.mod m3 (fun g hg=>by cases hg;omega);replace hd7:=hd7.mod m3 (fun g hg=>by cases hg;omega);replace hd8:=hd8.mod m3 (fun g hg=>by cases hg;omega);replace hd9:=hd9.mod m3 (fun g hg=>by cases hg;omega);replace h2:=h2.mod m3 (fun g hg=>by cases hg;omega);replace h3:=h3.mod m3 (fun g hg=>by cases hg;omega)
 have z7:=m3.size
 refine Qf (Qx (Y8 Z Z (Qu Q7 h1.at Z) E ?_))
 exact ⟨dx2,(by assumption),⟨_,Z,Worker.mkR dx2 (RdD.widen hd2 (by have:=E.size;omega) (by omega)) (RdD.widen hd3 (by have:=E.size;omega) (by omega)) (RdD.widen hd4 (by have:=E.size;omega) (by omega)) (RdD.widen hd5 (by have:=E.size;omega) (by omega)) (RdD.widen hd6 (by have:=E.size;omega) (by omega)) (RdD.widen hd7 (by have:=E.size;omega) (by omega)) (RdD.widen hd8 (by have:=E.size;omega) (by omega)) (RdD.widen hd9 (by have:=E.size;omega) (by omega))⟩⟩

set_option maxRecDepth 20000 in
theorem s_DrawReceived (vcode : Value) (code : List Byt) (w : World) (hcode : RdS w vcode code) : Ct Tryz.prog 11 [vcode] w (fun v w'=>∃ (dr0 : Worker) (dr1 : Record),Q4 dr0 ≤ 200 ∧ ∃ c0,v = .tuple [.agg c0.toArray,.agg (Enc.enc dr1).toArray].toArray ∧ Dat.R w' w.heap.size w'.heap.size c0 dr0):=by
 refine Yx Tryz.func11 Z Tryz.ntmps11 Z ?_
 refine Yh [(0,vcode)] ⟨Z,trivial⟩ ?_
 have E : Ext w w:=Ext.refl w
 refine Qh (Qi [false,false] Z Z (Q6 Q7 Z (fun b1 w1 e1 s1 h1=>?_)))
 have g_b1 : w.heap.size ≤ b1:=by have:=E.size;omega
 have y_b1:=h1.lt
 replace E:=E.trans e1
 have z1:=e1.size
 refine Q6 Xh Z (fun b2 w2 e2 s2 h2=>?_)
 have g_b2 : w.heap.size ≤ b2:=by have:=E.size;omega
 have y_b2:=h2.lt
 replace E:=E.trans e2;replace h1:=h1.ext e2
 have z2:=e2.size
 refine Qf (Qh (Qi [true,false,true,true,false,false] Z Z (Qa (Qe Z) Z (Qv Tryz.call41 Z (s_l13Case vcode code _ (hcode.ext E)) Z (fun _ w3 e3 ho1=>?_)))))
 obtain ⟨dx1,dx2,q1,ho1⟩:=ho1
 obtain ⟨_,rfl,ho2⟩:=ho1
 have g_ho1 : w.heap.size ≤ w2.heap.size:=E.size
 replace E:=E.trans e3;replace h1:=h1.ext e3;replace h2:=h2.ext e3
 have z3:=e3.size
 obtain ⟨o1,o2,o3,o4,o5,o6,o7,o8,rfl,hd1,hd2,hd3,hd4,hd5,hd6,hd7,hd8⟩:=Worker.op ho2
 refine Qa (Q5 Z Z) Z (Qa (Q5 Z Z) Z (Qs (cs':=[o1,o2,o3,o4,o5,o6,o7,o8]) Q7 Z Z Z (Qb (RdD.one hd1) (Qb (RdD.one hd2) (Qb (RdD.one hd3) (Qb (RdD.one hd4) (Qb (RdD.one hd5) (Qb (RdD.one hd6) (Qb (RdD.one hd7) (Qb (RdD.one hd8) Z)))))))) h1 (Nat.le_of_ble_eq_true Z) Z (fun w4 m1 h1'=>?_)))
 replace h1:=h1'
 replace E:=E.step m1 (fun g hg=>by cases hg;omega);replace h2:=h2.mod m1 (fun g hg=>by cases hg;omega);replace hd1:=hd1.mod m1 (fun g hg=>by cases hg;omega);replace hd2:=hd2.mod m1 (fun g hg=>by cases hg;omega);replace hd3:=hd3.mod m1 (fun g hg=>by cases hg;omega);replace hd4:=hd4.mod m1 (fun g hg=>by cases hg;omega);replace hd5:=hd5.mod m1 (fun g hg=>by cases hg;omega);replace hd6:=hd6.mod m1 (fun g hg=>by cases hg;omega);replace hd7:=hd7.mod m1 (fun g hg=>by cases hg;omega);replace hd8:=hd8.mod m1 (fun g hg=>by cases hg;omega)
 have z4:=m1.size
 refine Qs (cs':=[.int .i64 dx2.op,.int .i64 dx2.stamp.epoch,.int .i64 dx2.stamp.turn,.int .i64 dx2.key,.int .i64 dx2.val]) Xh Z Z Z Z h2 (Nat.le_of_ble_eq_true Z) Z (fun w5 m2 h2'=>?_)
 replace h2:=h2'
 replace E:=E.step m2 (fun g hg=>by cases hg;omega);replace h1:=h1.mod m2 (fun g hg=>by cases hg;omega);replace hd1:=hd1.mod m2 (fun g hg=>by cases hg;omega);replace hd2:=hd2.mod m2 (fun g hg=>by cases hg;omega);replace hd3:=hd3.mod m2 (fun g hg=>by cases hg;omega);replace hd4:=hd4.mod m2 (fun g hg=>by cases hg;omega);replace hd5:=hd5.mod m2 (fun g hg=>by cases hg;omega);replace hd6:=hd6.mod m2 (fun g hg=>by cases hg;omega);replace hd7:=hd7.mod m2 (fun g hg=>by cases hg;omega);replace hd8:=hd8.mod m2 (fun g hg=>by cases hg;omega)
 have z5:=m2.size
 refine Qf (Qx (Yo (l:=[.cell 2 33,.cell 3 42]) (vs:=[.agg [o1,o2,o3,o4,o5,o6,o7,o8].toArray,.agg (Enc.enc dx2).toArray]) Z ⟨.cell Z (Qu Q7 h1.at Z),.cell Z (Qu Xh h2.at Z),trivial⟩ Z E ?_))
 exact ⟨dx1,dx2,(by assumption),⟨_,Z,(Worker.mkR _ (RdD.widen hd1 (by have:=E.size;omega) (by omega)) (RdD.widen hd2 (by have:=E.size;omega) (by omega)) (RdD.widen hd3 (by have:=E.size;omega) (by omega)) (RdD.widen hd4 (by have:=E.size;omega) (by omega)) (RdD.widen hd5 (by have:=E.size;omega) (by omega)) (RdD.widen hd6 (by have:=E.size;omega) (by omega)) (RdD.widen hd7 (by have:=E.size;omega) (by omega)) (RdD.widen hd8 (by have:=E.size;omega) (by omega)))⟩⟩

set_option maxRecDepth 20000 in
theorem s_DrawSentAway (vcode : Value) (code : List Byt) (w : World) (hcode : RdS w vcode code) : Ct Tryz.prog 14 [vcode] w (fun v w'=>∃ (dr0 : Worker) (dr1 : Int),Q4 dr0 ≤ 200 ∧ ∃ c0,v = .tuple [.agg c0.toArray,.int .i64 dr1].toArray ∧ Dat.R w' w.heap.size w'.heap.size c0 dr0):=by
 refine Yx Tryz.func14 Z Tryz.ntmps14 Z ?_
 refine Yh [(0,vcode)] ⟨Z,trivial⟩ ?_
 have E : Ext w w:=Ext.refl w
 refine Qh (Qi [false,true] Z Z (Q6 Q7 Z (fun b1 w1 e1 s1 h1=>?_)))
 have g_b1 : w.heap.size ≤ b1:=by have:=E.size;omega
 have y_b1:=h1.lt
 replace E:=E.trans e1
 have z1:=e1.size
 refine Qa (Qg Z) Z (Qf (Qh (Qi [true,false,true,true,false,true] Z Z (Qa (Qe Z) Z (Qv Tryz.call43 Z (s_l12At vcode code _ (hcode.ext E)) Z (fun _ w2 e2 ho1=>?_))))))
 obtain ⟨dx1,dx2,q1,ho1⟩:=ho1
 obtain ⟨_,rfl,ho2⟩:=ho1
 have g_ho1 : w.heap.size ≤ w1.heap.size:=E.size
 replace E:=E.trans e2;replace h1:=h1.ext e2
 have z2:=e2.size
 obtain ⟨o1,o2,o3,o4,o5,o6,o7,o8,rfl,hd1,hd2,hd3,hd4,hd5,hd6,hd7,hd8⟩:=Worker.op ho2
 refine Qa (Q5 Z Z) Z (Qa (Q5 Z Z) Z (Qs (cs':=[o1,o2,o3,o4,o5,o6,o7,o8]) Q7 Z Z Z (Qb (RdD.one hd1) (Qb (RdD.one hd2) (Qb (RdD.one hd3) (Qb (RdD.one hd4) (Qb (RdD.one hd5) (Qb (RdD.one hd6) (Qb (RdD.one hd7) (Qb (RdD.one hd8) Z)))))))) h1 (Nat.le_of_ble_eq_true Z) Z (fun w3 m1 h1'=>?_)))
 replace h1:=h1'
 replace E:=E.step m1 (fun g hg=>by cases hg;omega);replace hd1:=hd1.mod m1 (fun g hg=>by cases hg;omega);replace hd2:=hd2.mod m1 (fun g hg=>by cases hg;omega);replace hd3:=hd3.mod m1 (fun g hg=>by cases hg;omega);replace hd4:=hd4.mod m1 (fun g hg=>by cases hg;omega);replace hd5:=hd5.mod m1 (fun g hg=>by cases hg;omega);replace hd6:=hd6.mod m1 (fun g hg=>by cases hg;omega);replace hd7:=hd7.mod m1 (fun g hg=>by cases hg;omega);replace hd8:=hd8.mod m1 (fun g hg=>by cases hg;omega)
 have z3:=m1.size
 refine Qa (Qg Z) Z (Qf (Qx (Yo (l:=[.cell 2 33,.tmp 3]) (vs:=[.agg [o1,o2,o3,o4,o5,o6,o7,o8].toArray,.int .i64 dx2]) Z ⟨.cell Z (Qu Q7 h1.at Z),.tmp Z,trivial⟩ Z E ?_)))
 exact ⟨dx1,dx2,(by assumption),⟨_,Z,(Worker.mkR _ (RdD.widen hd1 (by have:=E.size;omega) (by omega)) (RdD.widen hd2 (by have:=E.size;omega) (by omega)) (RdD.widen hd3 (by have:=E.size;omega) (by omega)) (RdD.widen hd4 (by have:=E.size;omega) (by omega)) (RdD.widen hd5 (by have:=E.size;omega) (by omega)) (RdD.widen hd6 (by have:=E.size;omega) (by omega)) (RdD.widen hd7 (by have:=E.size;omega) (by omega)) (RdD.widen hd8 (by have:=E.size;omega) (by omega)))⟩⟩

set_option maxRecDepth 20000 in
theorem s_DrawUnstaged (vcode : Value) (code : List Byt) (w : World) (hcode : RdS w vcode code) : Ct Tryz.prog 16 [vcode] w (fun v w'=>∃ (dr0 : Worker),Q4 dr0 ≤ 200 ∧ ∃ cs,v = .agg cs.toArray ∧ Dat.R w' w.heap.size w'.heap.size cs dr0):=by
 refine Yx Tryz.func16 Z Tryz.ntmps16 Z ?_
 refine Yh [(0,vcode)] ⟨Z,trivial⟩ ?_
 have E : Ext w w:=Ext.refl w
 refine Qh (Qi [false] Z Z (Q6 Q7 Z (fun b1 w1 e1 s1 h1=>?_)))
 have g_b1 : w.heap.size ≤ b1:=by have:=E.size;omega
 have y_b1:=h1.lt
 replace E:=E.trans e1
 have z1:=e1.size
 refine Qf (Qh (Qi [true,false,false] Z Z (Qa (Qe Z) Z (Qv Tryz.call44 Z (s_DrawCountsAt vcode code _ (hcode.ext E)) Z (fun v1 w2 e2 ho1=>?_)))))
 obtain ⟨dx1,q1,ho1⟩:=ho1
 obtain ⟨_,rfl,ho1⟩:=ho1
 obtain ⟨o1,o2,o3,o4,o5,o6,o7,o8,rfl,hd1,hd2,hd3,hd4,hd5,hd6,hd7,hd8⟩:=Worker.op ho1
 replace E:=E.trans e2;replace h1:=h1.ext e2
 have z2:=e2.size
 refine Qs (cs':=[o1,o2,o3,o4,o5,o6,o7,o8]) Q7 Z Z Z (Qb (RdD.one hd1) (Qb (RdD.one hd2) (Qb (RdD.one hd3) (Qb (RdD.one hd4) (Qb (RdD.one hd5) (Qb (RdD.one hd6) (Qb (RdD.one hd7) (Qb (RdD.one hd8) Z)))))))) h1 (Nat.le_of_ble_eq_true Z) Z (fun w3 m1 h1'=>?_)
 replace h1:=h1'
 replace E:=E.step m1 (fun g hg=>by cases hg;omega);replace hd1:=hd1.mod m1 (fun g hg=>by cases hg;omega);replace hd2:=hd2.mod m1 (fun g hg=>by cases hg;omega);replace hd3:=hd3.mod m1 (fun g hg=>by cases hg;omega);replace hd4:=hd4.mod m1 (fun g hg=>by cases hg;omega);replace hd5:=hd5.mod m1 (fun g hg=>by cases hg;omega);replace hd6:=hd6.mod m1 (fun g hg=>by cases hg;omega);replace hd7:=hd7.mod m1 (fun g hg=>by cases hg;omega);replace hd8:=hd8.mod m1 (fun g hg=>by cases hg;omega)
 have z3:=m1.size
 refine Qf (Qx (Y8 Z Z (Qu Q7 h1.at Z) E ?_))
 exact ⟨dx1,(by assumption),⟨_,Z,Worker.mkR dx1 (RdD.widen hd1 (by have:=E.size;omega) (by omega)) (RdD.widen hd2 (by have:=E.size;omega) (by omega)) (RdD.widen hd3 (by have:=E.size;omega) (by omega)) (RdD.widen hd4 (by have:=E.size;omega) (by omega)) (RdD.widen hd5 (by have:=E.size;omega) (by omega)) (RdD.widen hd6 (by have:=E.size;omega) (by omega)) (RdD.widen hd7 (by have:=E.size;omega) (by omega)) (RdD.widen hd8 (by have:=E.size;omega) (by omega))⟩⟩

set_option maxRecDepth 20000 in
theorem s_DrawWorkOn (vcode : Value) (code : List Byt) (w : World) (hcode : RdS w vcode code) : Ct Tryz.prog 5 [vcode] w (fun v w'=>∃ (dr0 : Graph) (dr1 : Worker),smG dr0 ∧ Q4 dr1 ≤ 200 ∧ ∃ c0 c1,v = .tuple [.agg c0.toArray,.agg c1.toArray].toArray ∧ Dat.R w' w.heap.size w'.heap.size c0 dr0 ∧ Dat.R w' w.heap.size w'.heap.size c1 dr1):=by
 refine Yx Tryz.func5 Z Tryz.ntmps5 Z ?_
 refine Yh [(0,vcode)] ⟨Z,trivial⟩ ?_
 have E : Ext w w:=Ext.refl w
 refine Qh (Qi [false,false] Z Z (Q6 Xt Z (fun b1 w1 e1 s1 h1=>?_)))
 have g_b1 : w.heap.size ≤ b1:=by have:=E.size;omega
 have y_b1:=h1.lt
 replace E:=E.trans e1
 have z1:=e1.size
 refine Q6 Q7 Z (fun b2 w2 e2 s2 h2=>?_)
 have g_b2 : w.heap.size ≤ b2:=by have:=E.size;omega
 have y_b2:=h2.lt
 replace E:=E.trans e2;replace h1:=h1.ext e2
 have z2:=e2.size
 refine Qf (Qh (Qi [true,false,true,true,false,false] Z Z (Qa (Qe Z) Z (Qv Tryz.call26 Z (s_l12Case vcode code _ (hcode.ext E)) Z (fun _ w3 e3 ho1=>?_)))))
 obtain ⟨dx1,dx2,q1,q2,ho1⟩:=ho1
 obtain ⟨_,_,rfl,ho2,ho3⟩:=ho1
 have g_ho1 : w.heap.size ≤ w2.heap.size:=E.size
 replace E:=E.trans e3;replace h1:=h1.ext e3;replace h2:=h2.ext e3
 have z3:=e3.size
 obtain ⟨o1,rfl,hd1⟩:=Graph.op ho2
 obtain ⟨o2,o3,o4,o5,o6,o7,o8,o9,rfl,hd2,hd3,hd4,hd5,hd6,hd7,hd8,hd9⟩:=Worker.op ho3
 refine Qa (Q5 Z Z) Z (Qa (Q5 Z Z) Z (Qs (cs':=[o1,.int .i64 dx1.workers,.int .i64 dx1.cap]) Xt Z Z Z (Qb (RdD.one hd1) (Qb Z (Qb Z Z))) h1 (Nat.le_of_ble_eq_true Z) Z (fun w4 m1 h1'=>?_)))
 replace h1:=h1'
 replace E:=E.step m1 (fun g hg=>by cases hg;omega);replace h2:=h2.mod m1 (fun g hg=>by cases hg;omega);replace hd1:=hd1.mod m1 (fun g hg=>by cases hg;omega);replace hd2:=hd2.mod m1 (fun g hg=>by cases hg;omega);replace hd3:=hd3.mod m1 (fun g hg=>by cases hg;omega);replace hd4:=hd4.mod m1 (fun g hg=>by cases hg;omega);replace hd5:=hd5.mod m1 (fun g hg=>by cases hg;omega);replace hd6:=hd6.mod m1 (fun g hg=>by cases hg;omega);replace hd7:=hd7.mod m1 (fun g hg=>by cases hg;omega);replace hd8:=hd8.mod m1 (fun g hg=>by cases hg;omega);replace hd9:=hd9.mod m1 (fun g hg=>by cases hg;omega)
 have z4:=m1.size
 refine Qs (cs':=[o2,o3,o4,o5,o6,o7,o8,o9]) Q7 Z Z Z (Qb (RdD.one hd2) (Qb (RdD.one hd3) (Qb (RdD.one hd4) (Qb (RdD.one hd5) (Qb (RdD.one hd6) (Qb (RdD.one hd7) (Qb (RdD.one hd8) (Qb (RdD.one hd9) Z)))))))) h2 (Nat.le_of_ble_eq_true Z) Z (fun w5 m2 h2'=>?_)
 replace h2:=h2'
 replace E:=E.step m2 (fun g hg=>by cases hg;omega);replace h1:=h1.mod m2 (fun g hg=>by cases hg;omega);replace hd1:=hd1.mod m2 (fun g hg=>by cases hg;omega);replace hd2:=hd2.mod m2 (fun g hg=>by cases hg;omega);replace hd3:=hd3.mod m2 (fun g hg=>by cases hg;omega);replace hd4:=hd4.mod m2 (fun g hg=>by cases hg;omega);replace hd5:=hd5.mod m2 (fun g hg=>by cases hg;omega);replace hd6:=hd6.mod m2 (fun g hg=>by cases hg;omega);replace hd7:=hd7.mod m2 (fun g hg=>by cases hg;omega);replace hd8:=hd8.mod m2 (fun g hg=>by cases hg;omega);replace hd9:=hd9.mod m2 (fun g hg=>by cases hg;omega)
 have z5:=m2.size
 refine Qf (Qx (Yo (l:=[.cell 2 26,.cell 3 33]) (vs:=[.agg [o1,.int .i64 dx1.workers,.int .i64 dx1.cap].toArray,.agg [o2,o3,o4,o5,o6,o7,o8,o9].toArray]) Z ⟨.cell Z (Qu Xt h1.at Z),.cell Z (Qu Q7 h2.at Z),trivial⟩ Z E ?_))
 exact ⟨dx1,dx2,(by assumption),(by assumption),⟨_,_,Z,(Graph.mkR _ (RdD.widen hd1 (by have:=E.size;omega) (by omega))),(Worker.mkR _ (RdD.widen hd2 (by have:=E.size;omega) (by omega)) (RdD.widen hd3 (by have:=E.size;omega) (by omega)) (RdD.widen hd4 (by have:=E.size;omega) (by omega)) (RdD.widen hd5 (by have:=E.size;omega) (by omega)) (RdD.widen hd6 (by have:=E.size;omega) (by omega)) (RdD.widen hd7 (by have:=E.size;omega) (by omega)) (RdD.widen hd8 (by have:=E.size;omega) (by omega)) (RdD.widen hd9 (by have:=E.size;omega) (by omega)))⟩⟩

end Go.Proofs.YteljajfcppmeiaaGreat
