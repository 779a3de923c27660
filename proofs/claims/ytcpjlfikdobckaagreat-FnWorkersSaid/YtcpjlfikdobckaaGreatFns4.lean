/- What the functions that the laws call come to: a contract each; no condition. -/
import Derived.Test.YtcpjlfikdobckaaGreatFns3
namespace Go.Proofs.YtcpjlfikdobckaaGreat
open Go Go.Proofs.YtcpjlfikdobckaaGreat.X Go.Proofs
set_option maxRecDepth 20000 in
theorem l_sameInts (vxs : Value) (xs : List Int) (vys : Value) (ys : List Int) (w : World) (hxs : RdS w vxs xs) (hys : RdS w vys ys) : Ct Tryz.prog 53 [vxs,vys] w (fun v _=>v = .bool (decide (xs = ys))):=by
 refine Yp Tryz.func53 Z Tryz.ntmps53 Z ?_
 refine Yb [(0,vxs),(1,vys)] ⟨Z,Z,trivial⟩ ?_
 have E : Ext w w:=Ext.refl w
 refine Qh (Qi [true] Z Z (Qa (Qe Z) Z (Qd (Qh (Qh (Qi [true,true,true,true,true] Z Z (Qa (Qb Z) Z (Qa (Ye Tryz.underlying29 Z (hxs.ext E).len) Z (Qa (Qb Z) Z (Qa (Ye Tryz.underlying29 Z (hys.ext E).len) Z (Qa (X1 Z Z) Z (Qd (Qt Z (fun hc1=>?_) (fun hc1=>?_))))))))))))))
 ·have hc1n : ¬ xs.length = ys.length:=by first | (have h:=of_decide_eq_true hc1;omega) | (have h:=hc1;simp at h;omega)
  refine Qh (Qi [true] Z Z (Qa (Qe Z) Z (Qd (Qx (Qu Z Z E ?_)))))
  simp [V6 hc1n]
 ·have hc1n : xs.length = ys.length:=by first | (have h:=of_decide_eq_false hc1;omega) | (have h:=hc1;simp at h;omega)
  refine Qy (Qh (Qh (Qi [true] Z Z (Qa (Qe Z) Z (Qd (Q2 (Y6 (fun (k : Nat)=>[(0,vxs),(1,vys),(4,.bool false),(5,.int .i64 ((k : Nat) : Int))]) (fun (k : Nat) w'=>Ext w w' ∧ w.heap.size ≤ w'.heap.size ∧ k ≤ xs.length ∧ xs.take k = ys.take k) (fun (k : Nat)=>xs.length - k) 0 ⟨Z,Z,Z,Z,trivial⟩ ⟨E,Nat.le_refl _,Nat.zero_le _,Z⟩ ?_)))))))
  clear E
  rintro k w1 ⟨E,z1,hk,hp⟩
  refine Qh (Qh (Qi [true,true,true,true] Z Z (Qa (Qb Z) Z (Qa (Qb Z) Z (Qa (Ye Tryz.underlying29 Z (hxs.ext E).len) Z (Qa (Xe Z Z) Z (Qd (Qt Z (fun hc2=>?_) (fun hc2=>?_)))))))))
  ·have hc2n : k < xs.length:=by first | (have h:=of_decide_eq_true hc2;omega) | (have h:=hc2;simp at h;omega)
   refine Qy (Qh (Q2 (Qh (Xk Xd [(0,true),(1,true),(2,true),(3,true),(4,true),(5,true),(6,true),(7,true),(8,true)] (by decide +kernel) Z (fun w2 e1=>?_)))))
   replace E:=E.trans e1
   have z2:=e1.size
   refine Qa (Qb Z) Z (Qa (Qb Z) Z ?_)
   have hi1 : k < xs.length:=(by first | assumption | omega | (simp only [List.length_set];first | assumption | omega) | (simp only [List.getElem_set_self,List.length_set];first | assumption | omega) | (simp only [Y3,Yj,List.length_set];first | assumption | omega) | (simp;done))
   refine Qa (Q5 (i:=k) Kd Z Z (hxs.ext E) hi1) Z (Qa (Qk Xi Z (((hxs.ext E).get hi1).one 0 Z)) Z (Qa (Qb Z) Z (Qa (Qb Z) Z ?_)))
   have hi2 : k < ys.length:=(by first | assumption | omega | (simp only [List.length_set];first | assumption | omega) | (simp only [List.getElem_set_self,List.length_set];first | assumption | omega) | (simp only [Y3,Yj,List.length_set];first | assumption | omega) | (simp;done))
   refine Qa (Q5 (i:=k) Kd Z Z (hys.ext E) hi2) Z (Qa (Qk Xi Z (((hys.ext E).get hi2).one 0 Z)) Z (Qa (X1 Z Z) Z (Qd (Qt Z (fun hc3=>?_) (fun hc3=>?_)))))
   ·refine Qh (Qi [true] Z Z (Qa (Qe Z) Z (Qd (Qx (Q0 (Yy (Q0 (Qu Z Z E ?_))))))))
    exact V7 (by omega) (by omega) (by simpa using hc3)
   ·refine Qy (Q4 (Yn (Qi [true,true,true] Z Z (Qa (Qb Z) Z (Qa (Yu Z Z (Yw hc2n hxs.1)) Z (Qa (Qe Z) Z (Qd (Q4 (Yg (k + 1) (by omega) ⟨Z,Z,Z,Z,trivial⟩ ⟨E,(by omega),(by omega),Uo hp (by assumption) (by omega) (by simpa using hc3)⟩)))))))))
  ·have hc2n : ¬ k < xs.length:=by first | (have h:=of_decide_eq_false hc2;omega) | (have h:=hc2;simp at h;omega)
   refine Y5 (Yc (Q8 ?_))
   refine Qh (Qi [true] Z Z (Qa (Qe Z) Z (Qd (Qx (Qu Z Z E ?_)))))
   exact U9 hp hc1n (by omega)

set_option maxRecDepth 20000 in
theorem s_l02Stamp (lo : Nat) (vb : Value) (bs : List Byt) (w : World) (hcu : CurO w lo vb bs) (hbs : RdD w 0 lo vb bs) : CtR Tryz.prog 91 [.pointer (some ⟨lo,0,none⟩)] w lo (lo + 1) (fun v w'=>∃ (dr0 : Stamp),CurO w' lo vb bs ∧ v = .agg (Enc.enc dr0).toArray):=by
 have y_lo:=CurO.lt hcu
 refine Vb Tryz.func91 Z Tryz.ntmps91 Z ?_
 refine Yb [(0,.pointer (some ⟨lo,0,none⟩))] ⟨Z,trivial⟩ ?_
 have E : ModR w w lo (lo + 1):=ModR.refl w lo (lo + 1)
 refine Qh (Qi [false] Z Z (Yd Xs Z (fun b1 w1 e1 s1 h1=>?_)))
 have g_b1 : w.heap.size ≤ b1:=by have:=E.size;omega
 have y_b1:=h1.lt
 replace E:=E.ext e1;replace hcu:=hcu.ext e1
 have z1:=e1.size
 refine Qd (Qh (Qi [true,false,true,false,true,false] Z Z (Qa (Qb Z) Z (Yf Tryz.call66 Z Z (s_l01Below lo vb bs 4 _ hcu (RdD.modR hbs E (.inl (Nat.le_refl _)))) Z (fun _ w2 e2 hv=>?_)))))
 obtain ⟨dx1,q1,q2,hcu',hv⟩:=hv
 replace hcu:=hcu'
 subst hv
 replace E:=E.trans e2 (by omega) (by omega);replace h1:=h1.modR e2 (by omega)
 have z2:=e2.size
 refine Qa (Qb Z) Z (Yf Tryz.call66 Z Z (s_l01Below lo vb bs 5 _ hcu (RdD.modR hbs E (.inl (Nat.le_refl _)))) Z (fun _ w3 e3 hv=>?_))
 obtain ⟨dx2,q3,q4,hcu',hv⟩:=hv
 replace hcu:=hcu'
 subst hv
 replace E:=E.trans e3 (by omega) (by omega);replace h1:=h1.modR e3 (by omega)
 have z3:=e3.size
 refine Qa (Kv (⟨((dx1 : Nat) : Int),((dx2 : Nat) : Int)⟩ : Stamp) Z (fun _=>by kernel_rfl)) Z (Qs (cs':=[.int .i64 ((⟨((dx1 : Nat) : Int),((dx2 : Nat) : Int)⟩ : Stamp).epoch),.int .i64 ((⟨((dx1 : Nat) : Int),((dx2 : Nat) : Int)⟩ : Stamp).turn)]) Xs Z Z Z Z h1 (Nat.le_of_ble_eq_true Z) Z (fun w4 m1 h1'=>?_))
 replace h1:=h1'
 replace E:=E.mod m1 (fun g hg=>by cases hg;omega);replace hcu:=hcu.mod m1 (fun g hg=>by cases hg;omega)
 have z4:=m1.size
 refine Qd (Qx (Xh Z Z (Qv Xs h1.at Z) E ?_))
 exact ⟨(⟨((dx1 : Nat) : Int),((dx2 : Nat) : Int)⟩ : Stamp),hcu,Z⟩

set_option maxHeartbeats 4000000 in
set_option maxRecDepth 20000 in
theorem s_l02Any (lo : Nat) (vb : Value) (bs : List Byt) (w : World) (hcu : CurO w lo vb bs) (hbs : RdD w 0 lo vb bs) : CtR Tryz.prog 90 [.pointer (some ⟨lo,0,none⟩)] w lo (lo + 1) (fun v w'=>∃ (dr0 : Stamp),CurO w' lo vb bs ∧ v = .agg (Enc.enc dr0).toArray):=by
 have y_lo:=CurO.lt hcu
 refine Vb Tryz.func90 Z Tryz.ntmps90 Z ?_
 refine Yb [(0,.pointer (some ⟨lo,0,none⟩))] ⟨Z,trivial⟩ ?_
 have E : ModR w w lo (lo + 1):=ModR.refl w lo (lo + 1)
 refine Qh (Qi [false] Z Z (Yd Xs Z (fun b1 w1 e1 s1 h1=>?_)))
 have g_b1 : w.heap.size ≤ b1:=by have:=E.size;omega
 have y_b1:=h1.lt
 replace E:=E.ext e1;replace hcu:=hcu.ext e1
 have z1:=e1.size
 refine Qd (Qh (Qi [true,false,false,false] Z Z (Qa (Qb Z) Z (Yf Tryz.call91 Z Z (s_l02Stamp lo vb bs _ hcu (RdD.modR hbs E (.inl (Nat.le_refl _)))) Z (fun _ w2 e2 hv=>?_)))))
 obtain ⟨dx1,hcu',hv⟩:=hv
 replace hcu:=hcu'
 subst hv
 replace E:=E.trans e2 (by omega) (by omega);replace h1:=h1.modR e2 (by omega)
 have z2:=e2.size
 refine Yd Xs Z (fun b2 w3 e3 s2 h2=>?_)
 have g_b2 : w.heap.size ≤ b2:=by have:=E.size;omega
 have y_b2:=h2.lt
 replace E:=E.ext e3;replace hcu:=hcu.ext e3;replace h1:=h1.ext e3
 have z3:=e3.size
 refine Qs (cs':=[.int .i64 dx1.epoch,.int .i64 dx1.turn]) Xs Z Z Z Z h2 (Nat.le_of_ble_eq_true Z) Z (fun w4 m1 h2'=>?_)
 replace h2:=h2'
 replace E:=E.mod m1 (fun g hg=>by cases hg;omega);replace hcu:=hcu.mod m1 (fun g hg=>by cases hg;omega);replace h1:=h1.mod m1 (fun g hg=>by cases hg;omega)
 have z4:=m1.size
 refine Qd (Qh (Qh (Qi [true,false] Z Z (Qa (Qb Z) Z (Yf Tryz.call66 Z Z (s_l01Below lo vb bs 10 _ hcu (RdD.modR hbs E (.inl (Nat.le_refl _)))) Z (fun _ w5 e4 hv=>?_))))))
 obtain ⟨dx2,q1,q2,hcu',hv⟩:=hv
 replace hcu:=hcu'
 subst hv
 replace E:=E.trans e4 (by omega) (by omega);replace h1:=h1.modR e4 (by omega);replace h2:=h2.modR e4 (by omega)
 have z5:=e4.size
 refine Qd (Q2 (Qh (Qi [true,true] Z Z (Qa (Y9 Z Z) Z (Qa (Qe Z) Z (Qd (Qt Z (fun hc1=>?_) (fun hc1=>?_))))))))
 ·have hc1n : dx2 = 0:=by first | (have h:=of_decide_eq_true hc1;omega) | (have h:=hc1;simp at h;omega)
  refine Qi [true,false,false,true,false] Z Z (Qa (Qb Z) Z (Qz (vs:=[.int .i64 (-1),.int .i64 3,.int .i64 4,.int .i64 9223372036854775807]) (css:=[[.int .i64 (-1)],[.int .i64 3],[.int .i64 4],[.int .i64 9223372036854775807]]) Kd Z Z ⟨⟨Z,Z⟩,⟨Z,Z⟩,⟨Z,Z⟩,⟨Z,Z⟩,trivial⟩ Z Z (fun b3 w6 e5 s3 h3=>?_)))
  replace h3 : Blk w6 b3 [.int .i64 (-1),.int .i64 3,.int .i64 4,.int .i64 9223372036854775807]:=h3
  have g_b3 : w.heap.size ≤ b3:=by have:=E.size;omega
  have y_b3:=h3.lt
  replace E:=E.ext e5;replace hcu:=hcu.ext e5;replace h1:=h1.ext e5;replace h2:=h2.ext e5
  have z6:=e5.size
  refine Yf Tryz.call70 Z Z (s_l01PickInt lo vb bs (.slice (some ⟨b3,0,none⟩) 4 4) [(-1),3,4,9223372036854775807] _ hcu (RdD.modR hbs E (.inl (Nat.le_refl _))) (fun wX eX=>(Blk.rd (α:=Int) (xs:=[(-1),3,4,9223372036854775807]) (by decide) (Blk.modR h3 eX (by omega)) Z (by simp [maxLen]))) (by decide)) Z (fun _ w7 e6 hv=>?_)
  obtain ⟨dx3,q3,hcu',hv⟩:=hv
  replace hcu:=hcu'
  subst hv
  replace E:=E.trans e6 (by omega) (by omega);replace h1:=h1.modR e6 (by omega);replace h2:=h2.modR e6 (by omega);replace h3:=h3.modR e6 (by omega)
  have z7:=e6.size
  refine Qa (Qf Uh Z) Z (Xf (cs':=[.int .i64 dx3,.int .i64 dx1.turn]) Xi Z Z Z h2 (Nat.le_of_ble_eq_true Z) Z (fun w8 m2 h2'=>?_))
  replace h2:=h2'
  replace E:=E.mod m2 (fun g hg=>by cases hg;omega);replace hcu:=hcu.mod m2 (fun g hg=>by cases hg;omega);replace h1:=h1.mod m2 (fun g hg=>by cases hg;omega);replace h3:=h3.mod m2 (fun g hg=>by cases hg;omega)
  have z8:=m2.size
  refine Qd (Q4 (Yn (Qh (Qi [true,false] Z Z (Qa (Ql Xs Z h2.at Z) Z (Qs (cs':=[.int .i64 ((⟨dx3,dx1.turn⟩ : Stamp).epoch),.int .i64 ((⟨dx3,dx1.turn⟩ : Stamp).turn)]) Xs Z Z Z Z h1 (Nat.le_of_ble_eq_true Z) Z (fun w9 m3 h1'=>?_)))))))
  replace h1:=h1'
  replace E:=E.mod m3 (fun g hg=>by cases hg;omega);replace hcu:=hcu.mod m3 (fun g hg=>by cases hg;omega);replace h2:=h2.mod m3 (fun g hg=>by cases hg;omega);replace h3:=h3.mod m3 (fun g hg=>by cases hg;omega)
  have z9:=m3.size
  refine Qd (Qx (Xh Z Z (Qv Xs h1.at Z) E ?_))
  exact ⟨(⟨dx3,dx1.turn⟩ : Stamp),hcu,Z⟩
 ·have hc1n : ¬ dx2 = 0:=by first | (have h:=of_decide_eq_false hc1;omega) | (have h:=hc1;simp at h;omega)
  refine Qh (Qi [true,true] Z Z (Qa (Y9 Z Z) Z (Qa (Qe Z) Z (Qd (Qt Z (fun hc2=>?_) (fun hc2=>?_))))))
  ·have hc2n : dx2 = 1:=by first | (have h:=of_decide_eq_true hc2;omega) | (have h:=hc2;simp at h;omega)
   refine Qi [true,false,false,true,false] Z Z (Qa (Qb Z) Z (Qz (vs:=[.int .i64 (-1),.int .i64 5,.int .i64 6,.int .i64 7,.int .i64 (-9223372036854775808)]) (css:=[[.int .i64 (-1)],[.int .i64 5],[.int .i64 6],[.int .i64 7],[.int .i64 (-9223372036854775808)]]) Kd Z Z ⟨⟨Z,Z⟩,⟨Z,Z⟩,⟨Z,Z⟩,⟨Z,Z⟩,⟨Z,Z⟩,trivial⟩ Z Z (fun b4 w10 e7 s4 h4=>?_)))
   replace h4 : Blk w10 b4 [.int .i64 (-1),.int .i64 5,.int .i64 6,.int .i64 7,.int .i64 (-9223372036854775808)]:=h4
   have g_b4 : w.heap.size ≤ b4:=by have:=E.size;omega
   have y_b4:=h4.lt
   replace E:=E.ext e7;replace hcu:=hcu.ext e7;replace h1:=h1.ext e7;replace h2:=h2.ext e7
   have z10:=e7.size
   refine Yf Tryz.call70 Z Z (s_l01PickInt lo vb bs (.slice (some ⟨b4,0,none⟩) 5 5) [(-1),5,6,7,(-9223372036854775808)] _ hcu (RdD.modR hbs E (.inl (Nat.le_refl _))) (fun wX eX=>(Blk.rd (α:=Int) (xs:=[(-1),5,6,7,(-9223372036854775808)]) (by decide) (Blk.modR h4 eX (by omega)) Z (by simp [maxLen]))) (by decide)) Z (fun _ w11 e8 hv=>?_)
   obtain ⟨dx4,q4,hcu',hv⟩:=hv
   replace hcu:=hcu'
   subst hv
   replace E:=E.trans e8 (by omega) (by omega);replace h1:=h1.modR e8 (by omega);replace h2:=h2.modR e8 (by omega);replace h4:=h4.modR e8 (by omega)
   have z11:=e8.size
   refine Qa (Qf U8 Z) Z (Xf (cs':=[.int .i64 dx1.epoch,.int .i64 dx4]) Xi Z Z Z h2 (Nat.le_of_ble_eq_true Z) Z (fun w12 m4 h2'=>?_))
   replace h2:=h2'
   replace E:=E.mod m4 (fun g hg=>by cases hg;omega);replace hcu:=hcu.mod m4 (fun g hg=>by cases hg;omega);replace h1:=h1.mod m4 (fun g hg=>by cases hg;omega);replace h4:=h4.mod m4 (fun g hg=>by cases hg;omega)
   have z12:=m4.size
   refine Qd (Q4 (Yn (Qh (Qi [true,false] Z Z (Qa (Ql Xs Z h2.at Z) Z (Qs (cs':=[.int .i64 ((⟨dx1.epoch,dx4⟩ : Stamp).epoch),.int .i64 ((⟨dx1.epoch,dx4⟩ : Stamp).turn)]) Xs Z Z Z Z h1 (Nat.le_of_ble_eq_true Z) Z (fun w13 m5 h1'=>?_)))))))
   replace h1:=h1'
   replace E:=E.mod m5 (fun g hg=>by cases hg;omega);replace hcu:=hcu.mod m5 (fun g hg=>by cases hg;omega);replace h2:=h2.mod m5 (fun g hg=>by cases hg;omega);replace h4:=h4.mod m5 (fun g hg=>by cases hg;omega)
   have z13:=m5.size
   refine Qd (Qx (Xh Z Z (Qv Xs h1.at Z) E ?_))
   exact ⟨(⟨dx1.epoch,dx4⟩ : Stamp),hcu,Z⟩
  ·have hc2n : ¬ dx2 = 1:=by first | (have h:=of_decide_eq_false hc2;omega) | (have h:=hc2;simp at h;omega)
   refine Qy (Q4 (Yn (Qh (Qi [true,false] Z Z (Qa (Ql Xs Z h2.at Z) Z (Qs (cs':=[.int .i64 dx1.epoch,.int .i64 dx1.turn]) Xs Z Z Z Z h1 (Nat.le_of_ble_eq_true Z) Z (fun w14 m6 h1'=>?_)))))))
   replace h1:=h1'
   replace E:=E.mod m6 (fun g hg=>by cases hg;omega);replace hcu:=hcu.mod m6 (fun g hg=>by cases hg;omega);replace h2:=h2.mod m6 (fun g hg=>by cases hg;omega)
   have z14:=m6.size
   refine Qd (Qx (Xh Z Z (Qv Xs h1.at Z) E ?_))
   exact ⟨dx1,hcu,Z⟩

set_option maxRecDepth 20000 in
theorem s_l05Record (lo : Nat) (vb : Value) (bs : List Byt) (w : World) (hcu : CurO w lo vb bs) (hbs : RdD w 0 lo vb bs) : CtR Tryz.prog 69 [.pointer (some ⟨lo,0,none⟩)] w lo (lo + 1) (fun v w'=>∃ (dr0 : Record),CurO w' lo vb bs ∧ v = .agg (Enc.enc dr0).toArray):=by
 have y_lo:=CurO.lt hcu
 refine Vb Tryz.func69 Z Tryz.ntmps69 Z ?_
 refine Yb [(0,.pointer (some ⟨lo,0,none⟩))] ⟨Z,trivial⟩ ?_
 have E : ModR w w lo (lo + 1):=ModR.refl w lo (lo + 1)
 refine Qh (Qi [false] Z Z (Yd Xq Z (fun b1 w1 e1 s1 h1=>?_)))
 have g_b1 : w.heap.size ≤ b1:=by have:=E.size;omega
 have y_b1:=h1.lt
 replace E:=E.ext e1;replace hcu:=hcu.ext e1
 have z1:=e1.size
 refine Qd (Qh (Qi [true,false,true,false,true,false,true,false,true,false] Z Z (Qa (Qb Z) Z (Yf Tryz.call66 Z Z (s_l01Below lo vb bs 5 _ hcu (RdD.modR hbs E (.inl (Nat.le_refl _)))) Z (fun _ w2 e2 hv=>?_)))))
 obtain ⟨dx1,q1,q2,hcu',hv⟩:=hv
 replace hcu:=hcu'
 subst hv
 replace E:=E.trans e2 (by omega) (by omega);replace h1:=h1.modR e2 (by omega)
 have z2:=e2.size
 refine Qa (Qb Z) Z (Yf Tryz.call91 Z Z (s_l02Stamp lo vb bs _ hcu (RdD.modR hbs E (.inl (Nat.le_refl _)))) Z (fun _ w3 e3 hv=>?_))
 obtain ⟨dx2,hcu',hv⟩:=hv
 replace hcu:=hcu'
 subst hv
 replace E:=E.trans e3 (by omega) (by omega);replace h1:=h1.modR e3 (by omega)
 have z3:=e3.size
 refine Qa (Qb Z) Z (Yf Tryz.call66 Z Z (s_l01Below lo vb bs 12 _ hcu (RdD.modR hbs E (.inl (Nat.le_refl _)))) Z (fun _ w4 e4 hv=>?_))
 obtain ⟨dx3,q3,q4,hcu',hv⟩:=hv
 replace hcu:=hcu'
 subst hv
 replace E:=E.trans e4 (by omega) (by omega);replace h1:=h1.modR e4 (by omega)
 have z4:=e4.size
 refine Qa (Qb Z) Z (Yf Tryz.call66 Z Z (s_l01Below lo vb bs 40 _ hcu (RdD.modR hbs E (.inl (Nat.le_refl _)))) Z (fun _ w5 e5 hv=>?_))
 obtain ⟨dx4,q5,q6,hcu',hv⟩:=hv
 replace hcu:=hcu'
 subst hv
 replace E:=E.trans e5 (by omega) (by omega);replace h1:=h1.modR e5 (by omega)
 have z5:=e5.size
 refine Qa (Kv (⟨((dx1 : Nat) : Int),dx2,((dx3 : Nat) : Int),((dx4 : Nat) : Int)⟩ : Record) Z (fun _=>by kernel_rfl)) Z (Qs (cs':=[.int .i64 ((⟨((dx1 : Nat) : Int),dx2,((dx3 : Nat) : Int),((dx4 : Nat) : Int)⟩ : Record).op),.int .i64 (((⟨((dx1 : Nat) : Int),dx2,((dx3 : Nat) : Int),((dx4 : Nat) : Int)⟩ : Record).stamp).epoch),.int .i64 (((⟨((dx1 : Nat) : Int),dx2,((dx3 : Nat) : Int),((dx4 : Nat) : Int)⟩ : Record).stamp).turn),.int .i64 ((⟨((dx1 : Nat) : Int),dx2,((dx3 : Nat) : Int),((dx4 : Nat) : Int)⟩ : Record).key),.int .i64 ((⟨((dx1 : Nat) : Int),dx2,((dx3 : Nat) : Int),((dx4 : Nat) : Int)⟩ : Record).val)]) Xq Z Z Z Z h1 (Nat.le_of_ble_eq_true Z) Z (fun w6 m1 h1'=>?_))
 replace h1:=h1'
 replace E:=E.mod m1 (fun g hg=>by cases hg;omega);replace hcu:=hcu.mod m1 (fun g hg=>by cases hg;omega)
 have z6:=m1.size
 refine Qd (Qx (Xh Z Z (Qv Xq h1.at Z) E ?_))
 exact ⟨(⟨((dx1 : Nat) : Int),dx2,((dx3 : Nat) : Int),((dx4 : Nat) : Int)⟩ : Record),hcu,Z⟩

set_option maxHeartbeats 4000000 in
set_option maxRecDepth 20000 in
theorem s_l05Any (lo : Nat) (vb : Value) (bs : List Byt) (w : World) (hcu : CurO w lo vb bs) (hbs : RdD w 0 lo vb bs) : CtR Tryz.prog 68 [.pointer (some ⟨lo,0,none⟩)] w lo (lo + 1) (fun v w'=>∃ (dr0 : Record),CurO w' lo vb bs ∧ v = .agg (Enc.enc dr0).toArray):=by
 have y_lo:=CurO.lt hcu
 refine Vb Tryz.func68 Z Tryz.ntmps68 Z ?_
 refine Yb [(0,.pointer (some ⟨lo,0,none⟩))] ⟨Z,trivial⟩ ?_
 have E : ModR w w lo (lo + 1):=ModR.refl w lo (lo + 1)
 refine Qh (Qi [false] Z Z (Yd Xq Z (fun b1 w1 e1 s1 h1=>?_)))
 have g_b1 : w.heap.size ≤ b1:=by have:=E.size;omega
 have y_b1:=h1.lt
 replace E:=E.ext e1;replace hcu:=hcu.ext e1
 have z1:=e1.size
 refine Qd (Qh (Qi [true,false,false,false] Z Z (Qa (Qb Z) Z (Yf Tryz.call69 Z Z (s_l05Record lo vb bs _ hcu (RdD.modR hbs E (.inl (Nat.le_refl _)))) Z (fun _ w2 e2 hv=>?_)))))
 obtain ⟨dx1,hcu',hv⟩:=hv
 replace hcu:=hcu'
 subst hv
 replace E:=E.trans e2 (by omega) (by omega);replace h1:=h1.modR e2 (by omega)
 have z2:=e2.size
 refine Yd Xq Z (fun b2 w3 e3 s2 h2=>?_)
 have g_b2 : w.heap.size ≤ b2:=by have:=E.size;omega
 have y_b2:=h2.lt
 replace E:=E.ext e3;replace hcu:=hcu.ext e3;replace h1:=h1.ext e3
 have z3:=e3.size
 refine Qs (cs':=[.int .i64 dx1.op,.int .i64 dx1.stamp.epoch,.int .i64 dx1.stamp.turn,.int .i64 dx1.key,.int .i64 dx1.val]) Xq Z Z Z Z h2 (Nat.le_of_ble_eq_true Z) Z (fun w4 m1 h2'=>?_)
 replace h2:=h2'
 replace E:=E.mod m1 (fun g hg=>by cases hg;omega);replace hcu:=hcu.mod m1 (fun g hg=>by cases hg;omega);replace h1:=h1.mod m1 (fun g hg=>by cases hg;omega)
 have z4:=m1.size
 refine Qd (Qh (Qh (Qi [true,false] Z Z (Qa (Qb Z) Z (Yf Tryz.call66 Z Z (s_l01Below lo vb bs 12 _ hcu (RdD.modR hbs E (.inl (Nat.le_refl _)))) Z (fun _ w5 e4 hv=>?_))))))
 obtain ⟨dx2,q1,q2,hcu',hv⟩:=hv
 replace hcu:=hcu'
 subst hv
 replace E:=E.trans e4 (by omega) (by omega);replace h1:=h1.modR e4 (by omega);replace h2:=h2.modR e4 (by omega)
 have z5:=e4.size
 refine Qd (Q2 (Qh (Qi [true,true] Z Z (Qa (Y9 Z Z) Z (Qa (Qe Z) Z (Qd (Qt Z (fun hc1=>?_) (fun hc1=>?_))))))))
 ·have hc1n : dx2 = 0:=by first | (have h:=of_decide_eq_true hc1;omega) | (have h:=hc1;simp at h;omega)
  refine Qi [true,false,false,true,false] Z Z (Qa (Qb Z) Z (Qz (vs:=[.int .i64 (-1),.int .i64 7,.int .i64 8]) (css:=[[.int .i64 (-1)],[.int .i64 7],[.int .i64 8]]) Kd Z Z ⟨⟨Z,Z⟩,⟨Z,Z⟩,⟨Z,Z⟩,trivial⟩ Z Z (fun b3 w6 e5 s3 h3=>?_)))
  replace h3 : Blk w6 b3 [.int .i64 (-1),.int .i64 7,.int .i64 8]:=h3
  have g_b3 : w.heap.size ≤ b3:=by have:=E.size;omega
  have y_b3:=h3.lt
  replace E:=E.ext e5;replace hcu:=hcu.ext e5;replace h1:=h1.ext e5;replace h2:=h2.ext e5
  have z6:=e5.size
  refine Yf Tryz.call70 Z Z (s_l01PickInt lo vb bs (.slice (some ⟨b3,0,none⟩) 3 3) [(-1),7,8] _ hcu (RdD.modR hbs E (.inl (Nat.le_refl _))) (fun wX eX=>(Blk.rd (α:=Int) (xs:=[(-1),7,8]) (by decide) (Blk.modR h3 eX (by omega)) Z (by simp [maxLen]))) (by decide)) Z (fun _ w7 e6 hv=>?_)
  obtain ⟨dx3,q3,hcu',hv⟩:=hv
  replace hcu:=hcu'
  subst hv
  replace E:=E.trans e6 (by omega) (by omega);replace h1:=h1.modR e6 (by omega);replace h2:=h2.modR e6 (by omega);replace h3:=h3.modR e6 (by omega)
  have z7:=e6.size
  refine Qa (Qf Ve Z) Z (Xf (cs':=[.int .i64 dx3,.int .i64 dx1.stamp.epoch,.int .i64 dx1.stamp.turn,.int .i64 dx1.key,.int .i64 dx1.val]) Xi Z Z Z h2 (Nat.le_of_ble_eq_true Z) Z (fun w8 m2 h2'=>?_))
  replace h2:=h2'
  replace E:=E.mod m2 (fun g hg=>by cases hg;omega);replace hcu:=hcu.mod m2 (fun g hg=>by cases hg;omega);replace h1:=h1.mod m2 (fun g hg=>by cases hg;omega);replace h3:=h3.mod m2 (fun g hg=>by cases hg;omega)
  have z8:=m2.size
  refine Qd (Q4 (Yn (Qh (Qi [true,false] Z Z (Qa (Ql Xq Z h2.at Z) Z (Qs (cs':=[.int .i64 ((⟨dx3,dx1.stamp,dx1.key,dx1.val⟩ : Record).op),.int .i64 (((⟨dx3,dx1.stamp,dx1.key,dx1.val⟩ : Record).stamp).epoch),.int .i64 (((⟨dx3,dx1.stamp,dx1.key,dx1.val⟩ : Record).stamp).turn),.int .i64 ((⟨dx3,dx1.stamp,dx1.key,dx1.val⟩ : Record).key),.int .i64 ((⟨dx3,dx1.stamp,dx1.key,dx1.val⟩ : Record).val)]) Xq Z Z Z Z h1 (Nat.le_of_ble_eq_true Z) Z (fun w9 m3 h1'=>?_)))))))
  replace h1:=h1'
  replace E:=E.mod m3 (fun g hg=>by cases hg;omega);replace hcu:=hcu.mod m3 (fun g hg=>by cases hg;omega);replace h2:=h2.mod m3 (fun g hg=>by cases hg;omega);replace h3:=h3.mod m3 (fun g hg=>by cases hg;omega)
  have z9:=m3.size
  refine Qd (Qx (Xh Z Z (Qv Xq h1.at Z) E ?_))
  exact ⟨(⟨dx3,dx1.stamp,dx1.key,dx1.val⟩ : Record),hcu,Z⟩
 ·have hc1n : ¬ dx2 = 0:=by first | (have h:=of_decide_eq_false hc1;omega) | (have h:=hc1;simp at h;omega)
  refine Qh (Qi [true,true] Z Z (Qa (Y9 Z Z) Z (Qa (Qe Z) Z (Qd (Qt Z (fun hc2=>?_) (fun hc2=>?_))))))
  ·have hc2n : dx2 = 1:=by first | (have h:=of_decide_eq_true hc2;omega) | (have h:=hc2;simp at h;omega)
   refine Qi [true,false,true,false] Z Z (Qa (Qb Z) Z (Yf Tryz.call90 Z Z (s_l02Any lo vb bs _ hcu (RdD.modR hbs E (.inl (Nat.le_refl _)))) Z (fun _ w10 e7 hv=>?_)))
   obtain ⟨dx4,hcu',hv⟩:=hv
   replace hcu:=hcu'
   subst hv
   replace E:=E.trans e7 (by omega) (by omega);replace h1:=h1.modR e7 (by omega);replace h2:=h2.modR e7 (by omega)
   have z10:=e7.size
   refine Qa (Qf X4 Z) Z (Qs (cs':=[.int .i64 dx1.op,.int .i64 dx4.epoch,.int .i64 dx4.turn,.int .i64 dx1.key,.int .i64 dx1.val]) Xs Z Z Z Z h2 (Nat.le_of_ble_eq_true Z) Z (fun w11 m4 h2'=>?_))
   replace h2:=h2'
   replace E:=E.mod m4 (fun g hg=>by cases hg;omega);replace hcu:=hcu.mod m4 (fun g hg=>by cases hg;omega);replace h1:=h1.mod m4 (fun g hg=>by cases hg;omega)
   have z11:=m4.size
   refine Qd (Q4 (Yn (Qh (Qi [true,false] Z Z (Qa (Ql Xq Z h2.at Z) Z (Qs (cs':=[.int .i64 ((⟨dx1.op,dx4,dx1.key,dx1.val⟩ : Record).op),.int .i64 (((⟨dx1.op,dx4,dx1.key,dx1.val⟩ : Record).stamp).epoch),.int .i64 (((⟨dx1.op,dx4,dx1.key,dx1.val⟩ : Record).stamp).turn),.int .i64 ((⟨dx1.op,dx4,dx1.key,dx1.val⟩ : Record).key),.int .i64 ((⟨dx1.op,dx4,dx1.key,dx1.val⟩ : Record).val)]) Xq Z Z Z Z h1 (Nat.le_of_ble_eq_true Z) Z (fun w12 m5 h1'=>?_)))))))
   replace h1:=h1'
   replace E:=E.mod m5 (fun g hg=>by cases hg;omega);replace hcu:=hcu.mod m5 (fun g hg=>by cases hg;omega);replace h2:=h2.mod m5 (fun g hg=>by cases hg;omega)
   have z12:=m5.size
   refine Qd (Qx (Xh Z Z (Qv Xq h1.at Z) E ?_))
   exact ⟨(⟨dx1.op,dx4,dx1.key,dx1.val⟩ : Record),hcu,Z⟩
  ·have hc2n : ¬ dx2 = 1:=by first | (have h:=of_decide_eq_false hc2;omega) | (have h:=hc2;simp at h;omega)
   refine Qh (Qi [true,true] Z Z (Qa (Y9 Z Z) Z (Qa (Qe Z) Z (Qd (Qt Z (fun hc3=>?_) (fun hc3=>?_))))))
   ·have hc3n : dx2 = 2:=by first | (have h:=of_decide_eq_true hc3;omega) | (have h:=hc3;simp at h;omega)
    refine Qi [true,false,false,true,false] Z Z (Qa (Qb Z) Z (Qz (vs:=[.int .i64 (-1),.int .i64 99,.int .i64 100,.int .i64 (-9223372036854775808)]) (css:=[[.int .i64 (-1)],[.int .i64 99],[.int .i64 100],[.int .i64 (-9223372036854775808)]]) Kd Z Z ⟨⟨Z,Z⟩,⟨Z,Z⟩,⟨Z,Z⟩,⟨Z,Z⟩,trivial⟩ Z Z (fun b4 w13 e8 s4 h4=>?_)))
    replace h4 : Blk w13 b4 [.int .i64 (-1),.int .i64 99,.int .i64 100,.int .i64 (-9223372036854775808)]:=h4
    have g_b4 : w.heap.size ≤ b4:=by have:=E.size;omega
    have y_b4:=h4.lt
    replace E:=E.ext e8;replace hcu:=hcu.ext e8;replace h1:=h1.ext e8;replace h2:=h2.ext e8
    have z13:=e8.size
    refine Yf Tryz.call70 Z Z (s_l01PickInt lo vb bs (.slice (some ⟨b4,0,none⟩) 4 4) [(-1),99,100,(-9223372036854775808)] _ hcu (RdD.modR hbs E (.inl (Nat.le_refl _))) (fun wX eX=>(Blk.rd (α:=Int) (xs:=[(-1),99,100,(-9223372036854775808)]) (by decide) (Blk.modR h4 eX (by omega)) Z (by simp [maxLen]))) (by decide)) Z (fun _ w14 e9 hv=>?_)
    obtain ⟨dx5,q4,hcu',hv⟩:=hv
    replace hcu:=hcu'
    subst hv
    replace E:=E.trans e9 (by omega) (by omega);replace h1:=h1.modR e9 (by omega);replace h2:=h2.modR e9 (by omega);replace h4:=h4.modR e9 (by omega)
    have z14:=e9.size
    refine Qa (Qf Th Z) Z (Xf (cs':=[.int .i64 dx1.op,.int .i64 dx1.stamp.epoch,.int .i64 dx1.stamp.turn,.int .i64 dx5,.int .i64 dx1.val]) Xi Z Z Z h2 (Nat.le_of_ble_eq_true Z) Z (fun w15 m6 h2'=>?_))
    replace h2:=h2'
    replace E:=E.mod m6 (fun g hg=>by cases hg;omega);replace hcu:=hcu.mod m6 (fun g hg=>by cases hg;omega);replace h1:=h1.mod m6 (fun g hg=>by cases hg;omega);replace h4:=h4.mod m6 (fun g hg=>by cases hg;omega)
    have z15:=m6.size
    refine Qd (Q4 (Yn (Qh (Qi [true,false] Z Z (Qa (Ql Xq Z h2.at Z) Z (Qs (cs':=[.int .i64 ((⟨dx1.op,dx1.stamp,dx5,dx1.val⟩ : Record).op),.int .i64 (((⟨dx1.op,dx1.stamp,dx5,dx1.val⟩ : Record).stamp).epoch),.int .i64 (((⟨dx1.op,dx1.stamp,dx5,dx1.val⟩ : Record).stamp).turn),.int .i64 ((⟨dx1.op,dx1.stamp,dx5,dx1.val⟩ : Record).key),.int .i64 ((⟨dx1.op,dx1.stamp,dx5,dx1.val⟩ : Record).val)]) Xq Z Z Z Z h1 (Nat.le_of_ble_eq_true Z) Z (fun w16 m7 h1'=>?_)))))))
    replace h1:=h1'
    replace E:=E.mod m7 (fun g hg=>by cases hg;omega);replace hcu:=hcu.mod m7 (fun g hg=>by cases hg;omega);replace h2:=h2.mod m7 (fun g hg=>by cases hg;omega);replace h4:=h4.mod m7 (fun g hg=>by cases hg;omega)
    have z16:=m7.size
    refine Qd (Qx (Xh Z Z (Qv Xq h1.at Z) E ?_))
    exact ⟨(⟨dx1.op,dx1.stamp,dx5,dx1.val⟩ : Record),hcu,Z⟩
   ·have hc3n : ¬ dx2 = 2:=by first | (have h:=of_decide_eq_false hc3;omega) | (have h:=hc3;simp at h;omega)
    refine Qh (Qi [true,true] Z Z (Qa (Y9 Z Z) Z (Qa (Qe Z) Z (Qd (Qt Z (fun hc4=>?_) (fun hc4=>?_))))))
    ·have hc4n : dx2 = 3:=by first | (have h:=of_decide_eq_true hc4;omega) | (have h:=hc4;simp at h;omega)
     refine Qi [true,false,false,true,false] Z Z (Qa (Qb Z) Z (Qz (vs:=[.int .i64 (-1),.int .i64 999,.int .i64 1000,.int .i64 9223372036854775807]) (css:=[[.int .i64 (-1)],[.int .i64 999],[.int .i64 1000],[.int .i64 9223372036854775807]]) Kd Z Z ⟨⟨Z,Z⟩,⟨Z,Z⟩,⟨Z,Z⟩,⟨Z,Z⟩,trivial⟩ Z Z (fun b5 w17 e10 s5 h5=>?_)))
     replace h5 : Blk w17 b5 [.int .i64 (-1),.int .i64 999,.int .i64 1000,.int .i64 9223372036854775807]:=h5
     have g_b5 : w.heap.size ≤ b5:=by have:=E.size;omega
     have y_b5:=h5.lt
     replace E:=E.ext e10;replace hcu:=hcu.ext e10;replace h1:=h1.ext e10;replace h2:=h2.ext e10
     have z17:=e10.size
     refine Yf Tryz.call70 Z Z (s_l01PickInt lo vb bs (.slice (some ⟨b5,0,none⟩) 4 4) [(-1),999,1000,9223372036854775807] _ hcu (RdD.modR hbs E (.inl (Nat.le_refl _))) (fun wX eX=>(Blk.rd (α:=Int) (xs:=[(-1),999,1000,9223372036854775807]) (by decide) (Blk.modR h5 eX (by omega)) Z (by simp [maxLen]))) (by decide)) Z (fun _ w18 e11 hv=>?_)
     obtain ⟨dx6,q5,hcu',hv⟩:=hv
     replace hcu:=hcu'
     subst hv
     replace E:=E.trans e11 (by omega) (by omega);replace h1:=h1.modR e11 (by omega);replace h2:=h2.modR e11 (by omega);replace h5:=h5.modR e11 (by omega)
     have z18:=e11.size
     refine Qa (Qf Tg Z) Z (Xf (cs':=[.int .i64 dx1.op,.int .i64 dx1.stamp.epoch,.int .i64 dx1.stamp.turn,.int .i64 dx1.key,.int .i64 dx6]) Xi Z Z Z h2 (Nat.le_of_ble_eq_true Z) Z (fun w19 m8 h2'=>?_))
     replace h2:=h2'
     replace E:=E.mod m8 (fun g hg=>by cases hg;omega);replace hcu:=hcu.mod m8 (fun g hg=>by cases hg;omega);replace h1:=h1.mod m8 (fun g hg=>by cases hg;omega);replace h5:=h5.mod m8 (fun g hg=>by cases hg;omega)
     have z19:=m8.size
     refine Qd (Q4 (Yn (Qh (Qi [true,false] Z Z (Qa (Ql Xq Z h2.at Z) Z (Qs (cs':=[.int .i64 ((⟨dx1.op,dx1.stamp,dx1.key,dx6⟩ : Record).op),.int .i64 (((⟨dx1.op,dx1.stamp,dx1.key,dx6⟩ : Record).stamp).epoch),.int .i64 (((⟨dx1.op,dx1.stamp,dx1.key,dx6⟩ : Record).stamp).turn),.int .i64 ((⟨dx1.op,dx1.stamp,dx1.key,dx6⟩ : Record).key),.int .i64 ((⟨dx1.op,dx1.stamp,dx1.key,dx6⟩ : Record).val)]) Xq Z Z Z Z h1 (Nat.le_of_ble_eq_true Z) Z (fun w20 m9 h1'=>?_)))))))
     replace h1:=h1'
     replace E:=E.mod m9 (fun g hg=>by cases hg;omega);replace hcu:=hcu.mod m9 (fun g hg=>by cases hg;omega);replace h2:=h2.mod m9 (fun g hg=>by cases hg;omega);replace h5:=h5.mod m9 (fun g hg=>by cases hg;omega)
     have z20:=m9.size
     refine Qd (Qx (Xh Z Z (Qv Xq h1.at Z) E ?_))
     exact ⟨(⟨dx1.op,dx1.stamp,dx1.key,dx6⟩ : Record),hcu,Z⟩
    ·have hc4n : ¬ dx2 = 3:=by first | (have h:=of_decide_eq_false hc4;omega) | (have h:=hc4;simp at h;omega)
     refine Qy (Q4 (Yn (Qh (Qi [true,false] Z Z (Qa (Ql Xq Z h2.at Z) Z (Qs (cs':=[.int .i64 dx1.op,.int .i64 dx1.stamp.epoch,.int .i64 dx1.stamp.turn,.int .i64 dx1.key,.int .i64 dx1.val]) Xq Z Z Z Z h1 (Nat.le_of_ble_eq_true Z) Z (fun w21 m10 h1'=>?_)))))))
     replace h1:=h1'
     replace E:=E.mod m10 (fun g hg=>by cases hg;omega);replace hcu:=hcu.mod m10 (fun g hg=>by cases hg;omega);replace h2:=h2.mod m10 (fun g hg=>by cases hg;omega)
     have z21:=m10.size
     refine Qd (Qx (Xh Z Z (Qv Xq h1.at Z) E ?_))
     exact ⟨dx1,hcu,Z⟩

set_option maxHeartbeats 4000000 in
set_option maxRecDepth 20000 in
theorem s_l10Record (lo : Nat) (vb : Value) (bs : List Byt) (og : Value) (g : Graph) (w : World) (hcu : CurO w lo vb bs) (hbs : RdD w 0 lo vb bs) (hg : Stab w lo (fun w'=>RdD w' 0 w'.heap.size og g.nodes)) : CtR Tryz.prog 87 [.pointer (some ⟨lo,0,none⟩),.agg [og,.int .i64 g.workers,.int .i64 g.cap].toArray] w lo (lo + 1) (fun v w'=>∃ (dr0 : Record),CurO w' lo vb bs ∧ v = .agg (Enc.enc dr0).toArray):=by
 have y_lo:=CurO.lt hcu
 refine Vb Tryz.func87 Z Tryz.ntmps87 Z ?_
 refine Yb [(0,.pointer (some ⟨lo,0,none⟩)),(1,.agg [og,.int .i64 g.workers,.int .i64 g.cap].toArray)] ⟨Z,Z,trivial⟩ ?_
 have E : ModR w w lo (lo + 1):=ModR.refl w lo (lo + 1)
 refine Qh (Qi [false,false] Z Z (Xb Z Z (fun b1 w1 e1 s1 h1=>?_)))
 have g_b1 : w.heap.size ≤ b1:=by have:=E.size;omega
 have y_b1:=h1.lt
 replace E:=E.ext e1;replace hcu:=hcu.ext e1
 have z1:=e1.size
 refine Yd Xq Z (fun b2 w2 e2 s2 h2=>?_)
 have g_b2 : w.heap.size ≤ b2:=by have:=E.size;omega
 have y_b2:=h2.lt
 replace E:=E.ext e2;replace hcu:=hcu.ext e2;replace h1:=h1.ext e2
 have z2:=e2.size
 refine Qd (Qh (Qi [true,false,false,false] Z Z (Qa (Qb Z) Z (Yf Tryz.call69 Z Z (s_l05Record lo vb bs _ hcu (RdD.modR hbs E (.inl (Nat.le_refl _)))) Z (fun _ w3 e3 hv=>?_)))))
 obtain ⟨dx1,hcu',hv⟩:=hv
 replace hcu:=hcu'
 subst hv
 replace E:=E.trans e3 (by omega) (by omega);replace h1:=h1.modR e3 (by omega);replace h2:=h2.modR e3 (by omega)
 have z3:=e3.size
 refine Yd Xq Z (fun b3 w4 e4 s3 h3=>?_)
 have g_b3 : w.heap.size ≤ b3:=by have:=E.size;omega
 have y_b3:=h3.lt
 replace E:=E.ext e4;replace hcu:=hcu.ext e4;replace h1:=h1.ext e4;replace h2:=h2.ext e4
 have z4:=e4.size
 refine Qs (cs':=[.int .i64 dx1.op,.int .i64 dx1.stamp.epoch,.int .i64 dx1.stamp.turn,.int .i64 dx1.key,.int .i64 dx1.val]) Xq Z Z Z Z h3 (Nat.le_of_ble_eq_true Z) Z (fun w5 m1 h3'=>?_)
 replace h3:=h3'
 replace E:=E.mod m1 (fun g hg=>by cases hg;omega);replace hcu:=hcu.mod m1 (fun g hg=>by cases hg;omega);replace h1:=h1.mod m1 (fun g hg=>by cases hg;omega);replace h2:=h2.mod m1 (fun g hg=>by cases hg;omega)
 have z5:=m1.size
 refine Qd (Qh (Qh (Qi [true,true,true,true] Z Z (Qa (Qf Uj Z) Z (Qa (Qk G8 Z (h1.one 0 Z)) Z (Qa (Ye Tryz.underlying24 Z (hg _ E).len) Z (Qa (U1 Z Z) Z (Qd (Qt Z (fun hc1=>?_) (fun hc1=>?_))))))))))
 ·have hc1n : g.nodes.length > 0:=by first | (have h:=of_decide_eq_true hc1;omega) | (have h:=hc1;simp at h;omega)
  refine Qi [true,true,true,true,false,true,false] Z Z (Qa (Qb Z) Z (Qa (Qf Uj Z) Z (Qa (Qk G8 Z (h1.one 0 Z)) Z (Qa (Ye Tryz.underlying24 Z (hg _ E).len) Z (Yf Tryz.call66 Z Z (s_l01Below lo vb bs ((g.nodes.length : Nat) : Int) _ hcu (RdD.modR hbs E (.inl (Nat.le_refl _)))) Z (fun _ w6 e5 hv=>?_))))))
  obtain ⟨dx2,q1,q2,hcu',hv⟩:=hv
  replace hcu:=hcu'
  subst hv
  replace E:=E.trans e5 (by omega) (by omega);replace h1:=h1.modR e5 (by omega);replace h2:=h2.modR e5 (by omega);replace h3:=h3.modR e5 (by omega)
  have z6:=e5.size
  refine Qa (Qf Ve Z) Z (Xf (cs':=[.int .i64 ((dx2 : Nat) : Int),.int .i64 dx1.stamp.epoch,.int .i64 dx1.stamp.turn,.int .i64 dx1.key,.int .i64 dx1.val]) Xi Z Z Z h3 (Nat.le_of_ble_eq_true Z) Z (fun w7 m2 h3'=>?_))
  replace h3:=h3'
  replace E:=E.mod m2 (fun g hg=>by cases hg;omega);replace hcu:=hcu.mod m2 (fun g hg=>by cases hg;omega);replace h1:=h1.mod m2 (fun g hg=>by cases hg;omega);replace h2:=h2.mod m2 (fun g hg=>by cases hg;omega)
  have z7:=m2.size
  refine Qd (Qh (Qh (Qi [true,false] Z Z (Qa (Qb Z) Z (Yf Tryz.call40 Z Z (s_l01Once lo vb bs 4 _ hcu (RdD.modR hbs E (.inl (Nat.le_refl _)))) Z (fun _ w8 e6 hv=>?_))))))
  obtain ⟨dx3,hcu',hv⟩:=hv
  replace hcu:=hcu'
  subst hv
  replace E:=E.trans e6 (by omega) (by omega);replace h1:=h1.modR e6 (by omega);replace h2:=h2.modR e6 (by omega);replace h3:=h3.modR e6 (by omega)
  have z8:=e6.size
  refine Qd (Qt Z (fun hc2=>?_) (fun hc2=>?_))
  ·refine Qi [true,false,true,true,true,false] Z Z (Qa (Qb Z) Z (Yf Tryz.call66 Z Z (s_l01Below lo vb bs 2 _ hcu (RdD.modR hbs E (.inl (Nat.le_refl _)))) Z (fun _ w9 e7 hv=>?_)))
   obtain ⟨dx4,q3,q4,hcu',hv⟩:=hv
   replace hcu:=hcu'
   subst hv
   replace E:=E.trans e7 (by omega) (by omega);replace h1:=h1.modR e7 (by omega);replace h2:=h2.modR e7 (by omega);replace h3:=h3.modR e7 (by omega)
   have z9:=e7.size
   refine Qa (Yu Z Z Z) Z (Qa (Qf X4 Z) Z (Qa (Q7 U8 Z) Z (Xf (cs':=[.int .i64 ((dx2 : Nat) : Int),.int .i64 dx1.stamp.epoch,.int .i64 (IntKind.i64.wrap (5 + ((dx4 : Nat) : Int))),.int .i64 dx1.key,.int .i64 dx1.val]) Xi Z Z Z h3 (Nat.le_of_ble_eq_true Z) Z (fun w10 m3 h3'=>?_))))
   replace h3:=h3'
   replace E:=E.mod m3 (fun g hg=>by cases hg;omega);replace hcu:=hcu.mod m3 (fun g hg=>by cases hg;omega);replace h1:=h1.mod m3 (fun g hg=>by cases hg;omega);replace h2:=h2.mod m3 (fun g hg=>by cases hg;omega)
   have z10:=m3.size
   refine Qd (Qh (Qi [true,false] Z Z (Qa (Ql Xq Z h3.at Z) Z (Qs (cs':=[.int .i64 ((⟨((dx2 : Nat) : Int),(⟨dx1.stamp.epoch,IntKind.i64.wrap (5 + ((dx4 : Nat) : Int))⟩ : Stamp),dx1.key,dx1.val⟩ : Record).op),.int .i64 (((⟨((dx2 : Nat) : Int),(⟨dx1.stamp.epoch,IntKind.i64.wrap (5 + ((dx4 : Nat) : Int))⟩ : Stamp),dx1.key,dx1.val⟩ : Record).stamp).epoch),.int .i64 (((⟨((dx2 : Nat) : Int),(⟨dx1.stamp.epoch,IntKind.i64.wrap (5 + ((dx4 : Nat) : Int))⟩ : Stamp),dx1.key,dx1.val⟩ : Record).stamp).turn),.int .i64 ((⟨((dx2 : Nat) : Int),(⟨dx1.stamp.epoch,IntKind.i64.wrap (5 + ((dx4 : Nat) : Int))⟩ : Stamp),dx1.key,dx1.val⟩ : Record).key),.int .i64 ((⟨((dx2 : Nat) : Int),(⟨dx1.stamp.epoch,IntKind.i64.wrap (5 + ((dx4 : Nat) : Int))⟩ : Stamp),dx1.key,dx1.val⟩ : Record).val)]) Xq Z Z Z Z h2 (Nat.le_of_ble_eq_true Z) Z (fun w11 m4 h2'=>?_)))))
   replace h2:=h2'
   replace E:=E.mod m4 (fun g hg=>by cases hg;omega);replace hcu:=hcu.mod m4 (fun g hg=>by cases hg;omega);replace h1:=h1.mod m4 (fun g hg=>by cases hg;omega);replace h3:=h3.mod m4 (fun g hg=>by cases hg;omega)
   have z11:=m4.size
   refine Qd (Qx (Xh Z Z (Qv Xq h2.at Z) E ?_))
   exact ⟨(⟨((dx2 : Nat) : Int),(⟨dx1.stamp.epoch,IntKind.i64.wrap (5 + ((dx4 : Nat) : Int))⟩ : Stamp),dx1.key,dx1.val⟩ : Record),hcu,Z⟩
  ·refine Qy (Qh (Qi [true,false] Z Z (Qa (Ql Xq Z h3.at Z) Z (Qs (cs':=[.int .i64 ((⟨((dx2 : Nat) : Int),dx1.stamp,dx1.key,dx1.val⟩ : Record).op),.int .i64 (((⟨((dx2 : Nat) : Int),dx1.stamp,dx1.key,dx1.val⟩ : Record).stamp).epoch),.int .i64 (((⟨((dx2 : Nat) : Int),dx1.stamp,dx1.key,dx1.val⟩ : Record).stamp).turn),.int .i64 ((⟨((dx2 : Nat) : Int),dx1.stamp,dx1.key,dx1.val⟩ : Record).key),.int .i64 ((⟨((dx2 : Nat) : Int),dx1.stamp,dx1.key,dx1.val⟩ : Record).val)]) Xq Z Z Z Z h2 (Nat.le_of_ble_eq_true Z) Z (fun w12 m5 h2'=>?_)))))
   replace h2:=h2'
   replace E:=E.mod m5 (fun g hg=>by cases hg;omega);replace hcu:=hcu.mod m5 (fun g hg=>by cases hg;omega);replace h1:=h1.mod m5 (fun g hg=>by cases hg;omega);replace h3:=h3.mod m5 (fun g hg=>by cases hg;omega)
   have z12:=m5.size
   refine Qd (Qx (Xh Z Z (Qv Xq h2.at Z) E ?_))
   exact ⟨(⟨((dx2 : Nat) : Int),dx1.stamp,dx1.key,dx1.val⟩ : Record),hcu,Z⟩
 ·have hc1n : ¬ g.nodes.length > 0:=by first | (have h:=of_decide_eq_false hc1;omega) | (have h:=hc1;simp at h;omega)
  refine Qy (Qh (Qh (Qi [true,false] Z Z (Qa (Qb Z) Z (Yf Tryz.call40 Z Z (s_l01Once lo vb bs 4 _ hcu (RdD.modR hbs E (.inl (Nat.le_refl _)))) Z (fun _ w13 e8 hv=>?_))))))
  obtain ⟨dx5,hcu',hv⟩:=hv
  replace hcu:=hcu'
  subst hv
  replace E:=E.trans e8 (by omega) (by omega);replace h1:=h1.modR e8 (by omega);replace h2:=h2.modR e8 (by omega);replace h3:=h3.modR e8 (by omega)
  have z13:=e8.size
  refine Qd (Qt Z (fun hc3=>?_) (fun hc3=>?_))
  ·refine Qi [true,false,true,true,true,false] Z Z (Qa (Qb Z) Z (Yf Tryz.call66 Z Z (s_l01Below lo vb bs 2 _ hcu (RdD.modR hbs E (.inl (Nat.le_refl _)))) Z (fun _ w14 e9 hv=>?_)))
   obtain ⟨dx6,q5,q6,hcu',hv⟩:=hv
   replace hcu:=hcu'
   subst hv
   replace E:=E.trans e9 (by omega) (by omega);replace h1:=h1.modR e9 (by omega);replace h2:=h2.modR e9 (by omega);replace h3:=h3.modR e9 (by omega)
   have z14:=e9.size
   refine Qa (Yu Z Z Z) Z (Qa (Qf X4 Z) Z (Qa (Q7 U8 Z) Z (Xf (cs':=[.int .i64 dx1.op,.int .i64 dx1.stamp.epoch,.int .i64 (IntKind.i64.wrap (5 + ((dx6 : Nat) : Int))),.int .i64 dx1.key,.int .i64 dx1.val]) Xi Z Z Z h3 (Nat.le_of_ble_eq_true Z) Z (fun w15 m6 h3'=>?_))))
   replace h3:=h3'
   replace E:=E.mod m6 (fun g hg=>by cases hg;omega);replace hcu:=hcu.mod m6 (fun g hg=>by cases hg;omega);replace h1:=h1.mod m6 (fun g hg=>by cases hg;omega);replace h2:=h2.mod m6 (fun g hg=>by cases hg;omega)
   have z15:=m6.size
   refine Qd (Qh (Qi [true,false] Z Z (Qa (Ql Xq Z h3.at Z) Z (Qs (cs':=[.int .i64 ((⟨dx1.op,(⟨dx1.stamp.epoch,IntKind.i64.wrap (5 + ((dx6 : Nat) : Int))⟩ : Stamp),dx1.key,dx1.val⟩ : Record).op),.int .i64 (((⟨dx1.op,(⟨dx1.stamp.epoch,IntKind.i64.wrap (5 + ((dx6 : Nat) : Int))⟩ : Stamp),dx1.key,dx1.val⟩ : Record).stamp).epoch),.int .i64 (((⟨dx1.op,(⟨dx1.stamp.epoch,IntKind.i64.wrap (5 + ((dx6 : Nat) : Int))⟩ : Stamp),dx1.key,dx1.val⟩ : Record).stamp).turn),.int .i64 ((⟨dx1.op,(⟨dx1.stamp.epoch,IntKind.i64.wrap (5 + ((dx6 : Nat) : Int))⟩ : Stamp),dx1.key,dx1.val⟩ : Record).key),.int .i64 ((⟨dx1.op,(⟨dx1.stamp.epoch,IntKind.i64.wrap (5 + ((dx6 : Nat) : Int))⟩ : Stamp),dx1.key,dx1.val⟩ : Record).val)]) Xq Z Z Z Z h2 (Nat.le_of_ble_eq_true Z) Z (fun w16 m7 h2'=>?_)))))
   replace h2:=h2'
   replace E:=E.mod m7 (fun g hg=>by cases hg;omega);replace hcu:=hcu.mod m7 (fun g hg=>by cases hg;omega);replace h1:=h1.mod m7 (fun g hg=>by cases hg;omega);replace h3:=h3.mod m7 (fun g hg=>by cases hg;omega)
   have z16:=m7.size
   refine Qd (Qx (Xh Z Z (Qv Xq h2.at Z) E ?_))
   exact ⟨(⟨dx1.op,(⟨dx1.stamp.epoch,IntKind.i64.wrap (5 + ((dx6 : Nat) : Int))⟩ : Stamp),dx1.key,dx1.val⟩ : Record),hcu,Z⟩
  ·refine Qy (Qh (Qi [true,false] Z Z (Qa (Ql Xq Z h3.at Z) Z (Qs (cs':=[.int .i64 dx1.op,.int .i64 dx1.stamp.epoch,.int .i64 dx1.stamp.turn,.int .i64 dx1.key,.int .i64 dx1.val]) Xq Z Z Z Z h2 (Nat.le_of_ble_eq_true Z) Z (fun w17 m8 h2'=>?_)))))
   replace h2:=h2'
   replace E:=E.mod m8 (fun g hg=>by cases hg;omega);replace hcu:=hcu.mod m8 (fun g hg=>by cases hg;omega);replace h1:=h1.mod m8 (fun g hg=>by cases hg;omega);replace h3:=h3.mod m8 (fun g hg=>by cases hg;omega)
   have z17:=m8.size
   refine Qd (Qx (Xh Z Z (Qv Xq h2.at Z) E ?_))
   exact ⟨dx1,hcu,Z⟩

set_option maxRecDepth 20000 in
theorem l_sameRecords (vxs : Value) (xs : List Record) (vys : Value) (ys : List Record) (w : World) (hxs : RdS w vxs xs) (hys : RdS w vys ys) : Ct Tryz.prog 24 [vxs,vys] w (fun v _=>v = .bool (decide (xs = ys))):=by
 refine Yp Tryz.func24 Z Tryz.ntmps24 Z ?_
 refine Yb [(0,vxs),(1,vys)] ⟨Z,Z,trivial⟩ ?_
 have E : Ext w w:=Ext.refl w
 refine Qh (Qi [true] Z Z (Qa (Qe Z) Z (Qd (Qh (Qh (Qi [true,true,true,true,true] Z Z (Qa (Qb Z) Z (Qa (Ye Tryz.underlying27 Z (hxs.ext E).len) Z (Qa (Qb Z) Z (Qa (Ye Tryz.underlying27 Z (hys.ext E).len) Z (Qa (X1 Z Z) Z (Qd (Qt Z (fun hc1=>?_) (fun hc1=>?_))))))))))))))
 ·have hc1n : ¬ xs.length = ys.length:=by first | (have h:=of_decide_eq_true hc1;omega) | (have h:=hc1;simp at h;omega)
  refine Qh (Qi [true] Z Z (Qa (Qe Z) Z (Qd (Qx (Qu Z Z E ?_)))))
  simp [V6 hc1n]
 ·have hc1n : xs.length = ys.length:=by first | (have h:=of_decide_eq_false hc1;omega) | (have h:=hc1;simp at h;omega)
  refine Qy (Qh (Qh (Qi [true] Z Z (Qa (Qe Z) Z (Qd (Q2 (Y6 (fun (k : Nat)=>[(0,vxs),(1,vys),(4,.bool false),(5,.int .i64 ((k : Nat) : Int))]) (fun (k : Nat) w'=>Ext w w' ∧ w.heap.size ≤ w'.heap.size ∧ k ≤ xs.length ∧ xs.take k = ys.take k) (fun (k : Nat)=>xs.length - k) 0 ⟨Z,Z,Z,Z,trivial⟩ ⟨E,Nat.le_refl _,Nat.zero_le _,Z⟩ ?_)))))))
  clear E
  rintro k w1 ⟨E,z1,hk,hp⟩
  refine Qh (Qh (Qi [true,true,true,true] Z Z (Qa (Qb Z) Z (Qa (Qb Z) Z (Qa (Ye Tryz.underlying27 Z (hxs.ext E).len) Z (Qa (Xe Z Z) Z (Qd (Qt Z (fun hc2=>?_) (fun hc2=>?_)))))))))
  ·have hc2n : k < xs.length:=by first | (have h:=of_decide_eq_true hc2;omega) | (have h:=hc2;simp at h;omega)
   refine Qy (Qh (Q2 (Qh (Xk Xd [(0,true),(1,true),(2,true),(3,true),(4,true),(5,true),(6,true),(7,true),(8,true)] (by decide +kernel) Z (fun w2 e1=>?_)))))
   replace E:=E.trans e1
   have z2:=e1.size
   refine Qa (Qb Z) Z (Qa (Qb Z) Z ?_)
   have hi1 : k < xs.length:=(by first | assumption | omega | (simp only [List.length_set];first | assumption | omega) | (simp only [List.getElem_set_self,List.length_set];first | assumption | omega) | (simp only [Y3,Yj,List.length_set];first | assumption | omega) | (simp;done))
   refine Qa (Q5 (i:=k) Xp Z Z (hxs.ext E) hi1) Z (Qa (Ql Xq Z ((hxs.ext E).get hi1) Z) Z (Qa (Qb Z) Z (Qa (Qb Z) Z ?_)))
   have hi2 : k < ys.length:=(by first | assumption | omega | (simp only [List.length_set];first | assumption | omega) | (simp only [List.getElem_set_self,List.length_set];first | assumption | omega) | (simp only [Y3,Yj,List.length_set];first | assumption | omega) | (simp;done))
   refine Qa (Q5 (i:=k) Xp Z Z (hys.ext E) hi2) Z (Qa (Ql Xq Z ((hys.ext E).get hi2) Z) Z (Qa (G5 (ne55 (xs[k]'hi1) (ys[k]'hi2)) eqg55 Z Z) Z (Qd (Qt Z (fun hc3=>?_) (fun hc3=>?_)))))
   ·refine Qh (Qi [true] Z Z (Qa (Qe Z) Z (Qd (Qx (Q0 (Yy (Q0 (Qu Z Z E ?_))))))))
    exact V7 (by omega) (by omega) (by simpa using hc3)
   ·refine Qy (Q4 (Yn (Qi [true,true,true] Z Z (Qa (Qb Z) Z (Qa (Yu Z Z (Yw hc2n hxs.1)) Z (Qa (Qe Z) Z (Qd (Q4 (Yg (k + 1) (by omega) ⟨Z,Z,Z,Z,trivial⟩ ⟨E,(by omega),(by omega),Uo hp (by assumption) (by omega) (by simpa using hc3)⟩)))))))))
  ·have hc2n : ¬ k < xs.length:=by first | (have h:=of_decide_eq_false hc2;omega) | (have h:=hc2;simp at h;omega)
   refine Y5 (Yc (Q8 ?_))
   refine Qh (Qi [true] Z Z (Qa (Qe Z) Z (Qd (Qx (Qu Z Z E ?_)))))
   exact U9 hp hc1n (by omega)

set_option maxRecDepth 20000 in
theorem s_l11Inputs (lo : Nat) (vb : Value) (bs : List Byt) (w : World) (hcu : CurO w lo vb bs) (hbs : RdD w 0 lo vb bs) : CtR Tryz.prog 84 [.pointer (some ⟨lo,0,none⟩)] w lo (lo + 1) (fun v w'=>∃ (dr0 : List Record),dr0.length ≤ 10 ∧ CurO w' lo vb bs ∧ Own w' w.heap.size w'.heap.size 5 v (List.flatMap (Enc.enc (α:=Record)) dr0)):=by
 have y_lo:=CurO.lt hcu
 refine Vb Tryz.func84 Z Tryz.ntmps84 Z ?_
 refine Yb [(0,.pointer (some ⟨lo,0,none⟩))] ⟨Z,trivial⟩ ?_
 have E : ModR w w lo (lo + 1):=ModR.refl w lo (lo + 1)
 refine Qh (Qi [true] Z Z (Qa (Qe Z) Z (Qd (Qh (Qi [false,true] Z Z (Qz (vs:=[]) (css:=[]) Xp Z Z trivial Z Z (fun b1 w1 e1 s1 h1=>?_)))))))
 replace h1 : Blk w1 b1 []:=h1
 have g_b1 : w.heap.size ≤ b1:=by have:=E.size;omega
 have y_b1:=h1.lt
 replace E:=E.ext e1;replace hcu:=hcu.ext e1
 have z1:=e1.size
 refine Qa (Qe Z) Z (Qd (Qh (Qi [true] Z Z (Qa (Qe Z) Z (Qd (Qh (Qh (Qi [true] Z Z (Qa (Qe Z) Z (Qd (Q2 (Y6 (fun (xq : Nat × Value × List Record × Int)=>let ⟨k,vo,ls,ep⟩:=xq;[(0,.pointer (some ⟨lo,0,none⟩)),(2,.slice none 0 0),(3,vo),(4,.int .i64 ep),(5,.int .i64 ((k : Nat) : Int))]) (fun (xq : Nat × Value × List Record × Int) w'=>let ⟨k,vo,ls,ep⟩:=xq;ModR w w' lo (lo + 1) ∧ w1.heap.size ≤ w'.heap.size ∧ CurO w' lo vb bs ∧ k ≤ 6 ∧ ls.length ≤ k ∧ Own w' w.heap.size w'.heap.size 5 vo (List.flatMap (Enc.enc (α:=Record)) ls)) (fun (xq : Nat × Value × List Record × Int)=>let ⟨k,vo,ls,ep⟩:=xq;6 - k) (0,.slice (some ⟨b1,0,none⟩) 0 0,[],0) ⟨Z,Z,Z,Z,Z,trivial⟩ ⟨E,Nat.le_refl _,hcu,Nat.zero_le _,Nat.le_refl _,Own.fin (Own.ofBlk (lo:=b1) (hi:=b1 + 1) (sz:=5) h1 (Nat.le_refl _) (Nat.lt_succ_self _) (by simp) (by simp [maxLen])) (by omega) (by omega) Z⟩ ?_))))))))))))
 clear E hcu h1
 rintro ⟨k,vo,ls,ep⟩ w2 ⟨E,z2,hcu,hk,hls,ho⟩
 refine Yb [(0,.pointer (some ⟨lo,0,none⟩)),(2,.slice none 0 0),(3,vo),(4,.int .i64 ep),(5,.int .i64 ((k : Nat) : Int))] ⟨Z,Z,Z,Z,Z,trivial⟩ ?_
 refine Qh (Qh (Qi [true,true,false,true] Z Z (Qa (Qb Z) Z (Qa (Qb Z) Z (Yf Tryz.call66 Z Z (s_l01Below lo vb bs 6 _ hcu (RdD.modR hbs E (.inl (Nat.le_refl _)))) Z (fun _ w3 e2 hv=>?_))))))
 obtain ⟨dx1,q1,q2,hcu',hv⟩:=hv
 replace hcu:=hcu'
 subst hv
 replace E:=E.trans e2 (by omega) (by omega);replace ho:=ho.modR e2 (by omega)
 have z3:=e2.size
 refine Qa (Xe Z Z) Z (Qd (Qt Z (fun hc1=>?_) (fun hc1=>?_)))
 ·have hc1n : k < dx1:=by first | (have h:=of_decide_eq_true hc1;omega) | (have h:=hc1;simp at h;omega)
  refine Qy (Qh (Q2 (Qh (Qi [true,true,false,true,false,true] Z Z (Qa (Qb Z) Z (Qa (Qb Z) Z (Yf Tryz.call66 Z Z (s_l01Below lo vb bs 2 _ hcu (RdD.modR hbs E (.inl (Nat.le_refl _)))) Z (fun _ w4 e3 hv=>?_))))))))
  obtain ⟨dx2,q3,q4,hcu',hv⟩:=hv
  replace hcu:=hcu'
  subst hv
  replace E:=E.trans e3 (by omega) (by omega);replace ho:=ho.modR e3 (by omega)
  have z4:=e3.size
  refine Qa (Yu Z Z Z) Z (Qw Tryz.call96 Z (s_Brought (IntKind.i64.wrap (ep + ((dx2 : Nat) : Int))) 0 2 _ ) Z (fun _ w5 e4 hv=>?_))
  subst hv
  replace E:=E.ext e4;replace hcu:=hcu.ext e4;replace ho:=ho.ext e4
  have z5:=e4.size
  refine Qa (Qe Z) Z (Qd (Qi [true,true,true,true,false,true,false,true,false,false,true] Z Z (Qa (Qb Z) Z (Qa (Qb Z) Z (Qa (Kv (⟨A1 (IntKind.i64.wrap (ep + ((dx2 : Nat) : Int))) 0 2,0⟩ : Stamp) Z (fun _=>by kernel_rfl)) Z (Qa (Qb Z) Z (Yf Tryz.call66 Z Z (s_l01Below lo vb bs 12 _ hcu (RdD.modR hbs E (.inl (Nat.le_refl _)))) Z (fun _ w6 e5 hv=>?_))))))))
  obtain ⟨dx3,q5,q6,hcu',hv⟩:=hv
  replace hcu:=hcu'
  subst hv
  replace E:=E.trans e5 (by omega) (by omega);replace ho:=ho.modR e5 (by omega)
  have z6:=e5.size
  refine Qa (Qb Z) Z (Yf Tryz.call66 Z Z (s_l01Below lo vb bs 40 _ hcu (RdD.modR hbs E (.inl (Nat.le_refl _)))) Z (fun _ w7 e6 hv=>?_))
  obtain ⟨dx4,q7,q8,hcu',hv⟩:=hv
  replace hcu:=hcu'
  subst hv
  replace E:=E.trans e6 (by omega) (by omega);replace ho:=ho.modR e6 (by omega)
  have z7:=e6.size
  refine Qa (Kv (⟨0,(⟨A1 (IntKind.i64.wrap (ep + ((dx2 : Nat) : Int))) 0 2,0⟩ : Stamp),((dx3 : Nat) : Int),((dx4 : Nat) : Int)⟩ : Record) Z (fun _=>by kernel_rfl)) Z (Qz (vs:=[.agg (Enc.enc (⟨0,(⟨A1 (IntKind.i64.wrap (ep + ((dx2 : Nat) : Int))) 0 2,0⟩ : Stamp),((dx3 : Nat) : Int),((dx4 : Nat) : Int)⟩ : Record)).toArray]) (css:=[[.int .i64 ((⟨0,(⟨A1 (IntKind.i64.wrap (ep + ((dx2 : Nat) : Int))) 0 2,0⟩ : Stamp),((dx3 : Nat) : Int),((dx4 : Nat) : Int)⟩ : Record).op),.int .i64 (((⟨0,(⟨A1 (IntKind.i64.wrap (ep + ((dx2 : Nat) : Int))) 0 2,0⟩ : Stamp),((dx3 : Nat) : Int),((dx4 : Nat) : Int)⟩ : Record).stamp).epoch),.int .i64 (((⟨0,(⟨A1 (IntKind.i64.wrap (ep + ((dx2 : Nat) : Int))) 0 2,0⟩ : Stamp),((dx3 : Nat) : Int),((dx4 : Nat) : Int)⟩ : Record).stamp).turn),.int .i64 ((⟨0,(⟨A1 (IntKind.i64.wrap (ep + ((dx2 : Nat) : Int))) 0 2,0⟩ : Stamp),((dx3 : Nat) : Int),((dx4 : Nat) : Int)⟩ : Record).key),.int .i64 ((⟨0,(⟨A1 (IntKind.i64.wrap (ep + ((dx2 : Nat) : Int))) 0 2,0⟩ : Stamp),((dx3 : Nat) : Int),((dx4 : Nat) : Int)⟩ : Record).val)]]) Xp Z Z ⟨⟨Z,Z⟩,trivial⟩ Z Z (fun b2 w8 e7 s2 h2=>?_))
  replace h2 : Blk w8 b2 [.int .i64 ((⟨0,(⟨A1 (IntKind.i64.wrap (ep + ((dx2 : Nat) : Int))) 0 2,0⟩ : Stamp),((dx3 : Nat) : Int),((dx4 : Nat) : Int)⟩ : Record).op),.int .i64 (((⟨0,(⟨A1 (IntKind.i64.wrap (ep + ((dx2 : Nat) : Int))) 0 2,0⟩ : Stamp),((dx3 : Nat) : Int),((dx4 : Nat) : Int)⟩ : Record).stamp).epoch),.int .i64 (((⟨0,(⟨A1 (IntKind.i64.wrap (ep + ((dx2 : Nat) : Int))) 0 2,0⟩ : Stamp),((dx3 : Nat) : Int),((dx4 : Nat) : Int)⟩ : Record).stamp).turn),.int .i64 ((⟨0,(⟨A1 (IntKind.i64.wrap (ep + ((dx2 : Nat) : Int))) 0 2,0⟩ : Stamp),((dx3 : Nat) : Int),((dx4 : Nat) : Int)⟩ : Record).key),.int .i64 ((⟨0,(⟨A1 (IntKind.i64.wrap (ep + ((dx2 : Nat) : Int))) 0 2,0⟩ : Stamp),((dx3 : Nat) : Int),((dx4 : Nat) : Int)⟩ : Record).val)]:=h2
  have g_b2 : w.heap.size ≤ b2:=by have:=E.size;omega
  have y_b2:=h2.lt
  replace E:=E.ext e7;replace hcu:=hcu.ext e7;replace ho:=ho.ext e7
  have z8:=e7.size
  refine Xo Xp Z Z ho (Src.ofBlk h2 Z) Z (by simp only [Ya,List.length_cons,List.length_nil];simp only [Enc.sz];omega) (by decide) (by omega) (by omega) Z Z (fun v1 w9 m1 ho1=>?_)
  replace E:=E.mod m1 (fun g hg=>by have:=Own.blk ho g hg;omega);replace hcu:=hcu.mod m1 (fun g hg=>by have:=Own.blk ho g hg;omega)
  have z9:=m1.size
  refine Qa (Qe Z) Z (Qd (Q4 (Yn (Qi [true,true,true] Z Z (Qa (Qb Z) Z (Qa (Yu Z Z (Ku (by unfold maxLen;omega))) Z (Qa (Qe Z) Z (Qd (Q4 (Yg (k + 1,v1,(ls ++ [(⟨0,(⟨A1 (IntKind.i64.wrap (ep + ((dx2 : Nat) : Int))) 0 2,0⟩ : Stamp),((dx3 : Nat) : Int),((dx4 : Nat) : Int)⟩ : Record)]),(A1 (IntKind.i64.wrap (ep + ((dx2 : Nat) : Int))) 0 2)) (by simp;omega) ⟨Z,Z,Z,Z,Z,trivial⟩ ⟨E,(by omega),hcu,(by omega),(by simp;omega),Own.fin ho1 (by omega) (by omega) (by first | (simp [*];done) | (simp [Enc.enc];done))⟩))))))))))
 ·have hc1n : ¬ k < dx1:=by first | (have h:=of_decide_eq_false hc1;omega) | (have h:=hc1;simp at h;omega)
  refine Y5 (Yc (Q8 ?_))
  refine Qh (Qi [true,true] Z Z (Qa (Qb Z) Z (Qa (Qe Z) Z (Qd (Qx (Qu Z Z E ?_))))))
  exact ⟨ls,(by omega),hcu,Own.fin ho (by have:=E.size;omega) (by omega) (by first | (simp [*];done) | (simp [*];rfl))⟩

set_option maxHeartbeats 4000000 in
set_option maxRecDepth 20000 in
theorem s_l12Worker (lo : Nat) (vb : Value) (bs : List Byt) (og : Value) (g : Graph) (w : World) (hcu : CurO w lo vb bs) (hbs : RdD w 0 lo vb bs) (hg : Stab w lo (fun w'=>RdD w' 0 w'.heap.size og g.nodes)) (hcg : Uq g ≤ 1048576) : CtR Tryz.prog 67 [.pointer (some ⟨lo,0,none⟩),.agg [og,.int .i64 g.workers,.int .i64 g.cap].toArray] w lo (lo + 1) (fun v w'=>∃ (dr0 : Worker),Q6 dr0 ≤ 100 ∧ dr0.sums.length = 4 ∧ CurO w' lo vb bs ∧ ∃ cs,v = .agg cs.toArray ∧ Own1.O w' w.heap.size w'.heap.size cs dr0):=by
 have y_lo:=CurO.lt hcu
 refine Vb Tryz.func67 Z Tryz.ntmps67 Z ?_
 refine Yb [(0,.pointer (some ⟨lo,0,none⟩)),(1,.agg [og,.int .i64 g.workers,.int .i64 g.cap].toArray)] ⟨Z,Z,trivial⟩ ?_
 have E : ModR w w lo (lo + 1):=ModR.refl w lo (lo + 1)
 refine Qh (Qi [false,false] Z Z (Xb Z Z (fun b1 w1 e1 s1 h1=>?_)))
 have g_b1 : w.heap.size ≤ b1:=by have:=E.size;omega
 have y_b1:=h1.lt
 replace E:=E.ext e1;replace hcu:=hcu.ext e1
 have z1:=e1.size
 refine Yd Yh Z (fun b2 w2 e2 s2 h2=>?_)
 have g_b2 : w.heap.size ≤ b2:=by have:=E.size;omega
 have y_b2:=h2.lt
 replace E:=E.ext e2;replace hcu:=hcu.ext e2;replace h1:=h1.ext e2
 have z2:=e2.size
 refine Qd (Qh (Qi [true,false,false,false,false] Z Z (Qa (Qb Z) Z (Yf Tryz.call84 Z Z (s_l11Inputs lo vb bs _ hcu (RdD.modR hbs E (.inl (Nat.le_refl _)))) Z (fun v1 w3 e3 ho1=>?_)))))
 obtain ⟨dx1,q1,hcu',ho1⟩:=ho1
 replace hcu:=hcu'
 have g_ho1 : w.heap.size ≤ w2.heap.size:=E.size
 replace E:=E.trans e3 (by omega) (by omega);replace h1:=h1.modR e3 (by omega);replace h2:=h2.modR e3 (by omega)
 have z3:=e3.size
 refine Qw Tryz.call83 Z (s_WorkerNew v1 dx1 _ (Own.rd (by decide) ho1) (by omega)) Z (fun _ w4 e4 ho2=>?_)
 obtain ⟨_,rfl,ho2⟩:=ho2
 have g_ho2 : w.heap.size ≤ w3.heap.size:=E.size
 replace E:=E.ext e4;replace hcu:=hcu.ext e4;replace h1:=h1.ext e4;replace h2:=h2.ext e4;replace ho1:=ho1.ext e4
 have z4:=e4.size
 obtain ⟨o1,o2,o3,o4,o5,o6,o7,o8,rfl,sp1,hw1,hw2,hw3,hw4,hw5,hw6,hw7,hw8⟩:=Worker.opO ho2
 refine Yd Yh Z (fun b3 w5 e5 s3 h3=>?_)
 have g_b3 : w.heap.size ≤ b3:=by have:=E.size;omega
 have y_b3:=h3.lt
 replace E:=E.ext e5;replace hcu:=hcu.ext e5;replace h1:=h1.ext e5;replace h2:=h2.ext e5;replace ho1:=ho1.ext e5;replace hw1:=hw1.ext e5;replace hw2:=hw2.ext e5;replace hw3:=hw3.ext e5;replace hw4:=hw4.ext e5;replace hw5:=hw5.ext e5;replace hw6:=hw6.ext e5;replace hw7:=hw7.ext e5;replace hw8:=hw8.ext e5
 have z5:=e5.size
 refine Qs (cs':=[o1,o2,o3,o4,o5,o6,o7,o8]) Yh Z Z Z (Qg hw1.one (Qg hw2.one (Qg hw3.one (Qg hw4.one (Qg hw5.one (Qg hw6.one (Qg hw7.one (Qg hw8.one Z)))))))) h3 (Nat.le_of_ble_eq_true Z) Z (fun w6 m1 h3'=>?_)
 replace h3:=h3'
 replace E:=E.mod m1 (fun g hg=>by cases hg;omega);replace hcu:=hcu.mod m1 (fun g hg=>by cases hg;omega);replace h1:=h1.mod m1 (fun g hg=>by cases hg;omega);replace h2:=h2.mod m1 (fun g hg=>by cases hg;omega);replace ho1:=ho1.mod m1 (fun g hg=>by cases hg;omega);replace hw1:=hw1.mod m1 (fun g hg=>by cases hg;omega);replace hw2:=hw2.mod m1 (fun g hg=>by cases hg;omega);replace hw3:=hw3.mod m1 (fun g hg=>by cases hg;omega);replace hw4:=hw4.mod m1 (fun g hg=>by cases hg;omega);replace hw5:=hw5.mod m1 (fun g hg=>by cases hg;omega);replace hw6:=hw6.mod m1 (fun g hg=>by cases hg;omega);replace hw7:=hw7.mod m1 (fun g hg=>by cases hg;omega);replace hw8:=hw8.mod m1 (fun g hg=>by cases hg;omega)
 have z6:=m1.size
 refine Qd (Qh (Qh (Qi [true] Z Z (Qa (Qe Z) Z (Qd (Q2 (Y6 (fun (xq : Nat × Nat × Nat × Value × Value × Value × Value × Value × Value × Value × Value × Worker)=>let ⟨k,plo,phi,p1,p2,p3,p4,p5,p6,p7,p8,wx⟩:=xq;[(0,.pointer (some ⟨lo,0,none⟩)),(3,.pointer (some ⟨b1,0,none⟩)),(4,.pointer (some ⟨b2,0,none⟩)),(5,.pointer (some ⟨b3,0,none⟩)),(6,.int .i64 ((k : Nat) : Int))]) (fun (xq : Nat × Nat × Nat × Value × Value × Value × Value × Value × Value × Value × Value × Worker) w'=>let ⟨k,plo,phi,p1,p2,p3,p4,p5,p6,p7,p8,wx⟩:=xq;ModR w w' lo (lo + 1) ∧ w6.heap.size ≤ w'.heap.size ∧ CurO w' lo vb bs ∧ Blk w' b1 ([og,.int .i64 g.workers,.int .i64 g.cap]) ∧ Blk w' b2 [.slice none 0 0,.slice none 0 0,.slice none 0 0,.slice none 0 0,.slice none 0 0,.slice none 0 0,.slice none 0 0,.slice none 0 0] ∧ Own w' w2.heap.size w3.heap.size 5 v1 (List.flatMap (Enc.enc (α:=Record)) dx1) ∧ k ≤ 8 ∧ Q6 wx ≤ 60 + 4 * k ∧ wx.sums.length = 4 ∧ phi ≤ w'.heap.size ∧ (phi ≤ b3 ∨ b3 < plo) ∧ w3.heap.size ≤ plo ∧ Own1.O (α:=Worker) w' plo phi [p1,p2,p3,p4,p5,p6,p7,p8] wx ∧ Blk w' b3 [p1,p2,p3,p4,p5,p6,p7,p8]) (fun (xq : Nat × Nat × Nat × Value × Value × Value × Value × Value × Value × Value × Value × Worker)=>let ⟨k,plo,phi,p1,p2,p3,p4,p5,p6,p7,p8,wx⟩:=xq;8 - k) (0,w3.heap.size,w4.heap.size,o1,o2,o3,o4,o5,o6,o7,o8,(Yk dx1)) ⟨Z,Z,Z,Z,Z,trivial⟩ ⟨E,Nat.le_refl _,hcu,h1,h2,ho1,Nat.zero_le _,(by rw [cnt_new];omega),Z,(by omega),(by omega),(by omega),(Worker.mkO (Yk dx1) sp1 (Own.widen hw1 (by omega) (by omega)) (Own.widen hw2 (by omega) (by omega)) (Own.widen hw3 (by omega) (by omega)) (Own.widen hw4 (by omega) (by omega)) (Own.widen hw5 (by omega) (by omega)) (Own.widen hw6 (by omega) (by omega)) (Own.widen hw7 (by omega) (by omega)) (Own.widen hw8 (by omega) (by omega))),h3⟩ ?_)))))))
 clear E hcu h1 h2 ho1 hw1 hw2 hw3 hw4 hw5 hw6 hw7 hw8 h3
 rintro ⟨k,plo,phi,p1,p2,p3,p4,p5,p6,p7,p8,wx⟩ w7 ⟨E,z7,hcu,h1,h2,ho1,hk,hcw,hsm,hpa,hpb,hpc,hP,h3⟩
 refine Yb [(0,.pointer (some ⟨lo,0,none⟩)),(3,.pointer (some ⟨b1,0,none⟩)),(4,.pointer (some ⟨b2,0,none⟩)),(5,.pointer (some ⟨b3,0,none⟩)),(6,.int .i64 ((k : Nat) : Int))] ⟨Z,Z,Z,Z,Z,trivial⟩ ?_
 obtain ⟨gP,hp1,hp2,hp3,hp4,hp5,hp6,hp7,hp8⟩:=Worker.opL hP
 clear hP
 refine Qh (Qh (Qi [true,true,false,true] Z Z (Qa (Qb Z) Z (Qa (Qb Z) Z (Yf Tryz.call66 Z Z (s_l01Below lo vb bs 8 _ hcu (RdD.modR hbs E (.inl (Nat.le_refl _)))) Z (fun _ w8 e6 hv=>?_))))))
 obtain ⟨dx2,q2,q3,hcu',hv⟩:=hv
 replace hcu:=hcu'
 subst hv
 replace E:=E.trans e6 (by omega) (by omega);replace h1:=h1.modR e6 (by omega);replace h2:=h2.modR e6 (by omega);replace ho1:=ho1.modR e6 (by omega);replace hp1:=hp1.modR e6 (by omega);replace hp2:=hp2.modR e6 (by omega);replace hp3:=hp3.modR e6 (by omega);replace hp4:=hp4.modR e6 (by omega);replace hp5:=hp5.modR e6 (by omega);replace hp6:=hp6.modR e6 (by omega);replace hp7:=hp7.modR e6 (by omega);replace hp8:=hp8.modR e6 (by omega);replace h3:=h3.modR e6 (by omega)
 have z8:=e6.size
 refine Qa (Xe Z Z) Z (Qd (Qt Z (fun hc1=>?_) (fun hc1=>?_)))
 ·have hc1n : k < dx2:=by first | (have h:=of_decide_eq_true hc1;omega) | (have h:=hc1;simp at h;omega)
  refine Qy (Qh (Q2 (Qh (Qi [true,false] Z Z (Qa (Qb Z) Z (Yf Tryz.call66 Z Z (s_l01Below lo vb bs 5 _ hcu (RdD.modR hbs E (.inl (Nat.le_refl _)))) Z (fun _ w9 e7 hv=>?_)))))))
  obtain ⟨dx3,q4,q5,hcu',hv⟩:=hv
  replace hcu:=hcu'
  subst hv
  replace E:=E.trans e7 (by omega) (by omega);replace h1:=h1.modR e7 (by omega);replace h2:=h2.modR e7 (by omega);replace ho1:=ho1.modR e7 (by omega);replace hp1:=hp1.modR e7 (by omega);replace hp2:=hp2.modR e7 (by omega);replace hp3:=hp3.modR e7 (by omega);replace hp4:=hp4.modR e7 (by omega);replace hp5:=hp5.modR e7 (by omega);replace hp6:=hp6.modR e7 (by omega);replace hp7:=hp7.modR e7 (by omega);replace hp8:=hp8.modR e7 (by omega);replace h3:=h3.modR e7 (by omega)
  have z9:=e7.size
  refine Qd (Q2 (Qh (Qi [true,true] Z Z (Qa (Y9 Z Z) Z (Qa (Qe Z) Z (Qd (Qt Z (fun hc2=>?_) (fun hc2=>?_))))))))
  ·have hc2n : dx3 = 0:=by first | (have h:=of_decide_eq_true hc2;omega) | (have h:=hc2;simp at h;omega)
   refine Qi [true,true,false,true,true,true,false] Z Z (Qa (Ql Xz Z h1.at Z) Z (Qa (Ql Yh Z h3.at Z) Z (Qw Tryz.call85 Z (s_TakeInput [og,.int .i64 g.workers,.int .i64 g.cap] g [p1,p2,p3,p4,p5,p6,p7,p8] wx _ (Graph.mkR g (RdD.any (hg _ E))) (Worker.mkR wx (RdD.any (Own.rdD hp1)) (RdD.any (Own.rdD hp2)) (RdD.any (Own.rdD hp3)) (RdD.any (Own.rdD hp4)) (RdD.any (Own.rdD hp5)) (RdD.any (Own.rdD hp6)) (RdD.any (Own.rdD hp7)) (RdD.any (Own.rdD hp8))) (by omega)) Z (fun _ w10 e8 ho3=>?_))))
   obtain ⟨_,rfl,ho4⟩:=ho3
   have g_ho3 : w.heap.size ≤ w9.heap.size:=E.size
   replace E:=E.ext e8;replace hcu:=hcu.ext e8;replace h1:=h1.ext e8;replace h2:=h2.ext e8;replace ho1:=ho1.ext e8;replace hp1:=hp1.ext e8;replace hp2:=hp2.ext e8;replace hp3:=hp3.ext e8;replace hp4:=hp4.ext e8;replace hp5:=hp5.ext e8;replace hp6:=hp6.ext e8;replace hp7:=hp7.ext e8;replace hp8:=hp8.ext e8;replace h3:=h3.ext e8
   have z10:=e8.size
   obtain ⟨o9,o10,o11,o12,o13,o14,o15,o16,rfl,sp2,hw9,hw10,hw11,hw12,hw13,hw14,hw15,hw16⟩:=Worker.opO ho4
   refine Qa (Qb Z) Z (Qa (Ym Z Z) Z (Qa (Ym Z Z) Z (Qs (cs':=[o9,o10,o11,o12,o13,o14,o15,o16]) Yh Z Z Z (Qg hw9.one (Qg hw10.one (Qg hw11.one (Qg hw12.one (Qg hw13.one (Qg hw14.one (Qg hw15.one (Qg hw16.one Z)))))))) h3 (Nat.le_of_ble_eq_true Z) Z (fun w11 m2 h3'=>?_))))
   replace h3:=h3'
   replace E:=E.mod m2 (fun g hg=>by cases hg;omega);replace hcu:=hcu.mod m2 (fun g hg=>by cases hg;omega);replace h1:=h1.mod m2 (fun g hg=>by cases hg;omega);replace h2:=h2.mod m2 (fun g hg=>by cases hg;omega);replace ho1:=ho1.mod m2 (fun g hg=>by cases hg;omega);replace hp1:=hp1.mod m2 (fun g hg=>by cases hg;omega);replace hp2:=hp2.mod m2 (fun g hg=>by cases hg;omega);replace hp3:=hp3.mod m2 (fun g hg=>by cases hg;omega);replace hp4:=hp4.mod m2 (fun g hg=>by cases hg;omega);replace hp5:=hp5.mod m2 (fun g hg=>by cases hg;omega);replace hp6:=hp6.mod m2 (fun g hg=>by cases hg;omega);replace hp7:=hp7.mod m2 (fun g hg=>by cases hg;omega);replace hp8:=hp8.mod m2 (fun g hg=>by cases hg;omega);replace hw9:=hw9.mod m2 (fun g hg=>by cases hg;omega);replace hw10:=hw10.mod m2 (fun g hg=>by cases hg;omega);replace hw11:=hw11.mod m2 (fun g hg=>by cases hg;omega);replace hw12:=hw12.mod m2 (fun g hg=>by cases hg;omega);replace hw13:=hw13.mod m2 (fun g hg=>by cases hg;omega);replace hw14:=hw14.mod m2 (fun g hg=>by cases hg;omega);replace hw15:=hw15.mod m2 (fun g hg=>by cases hg;omega);replace hw16:=hw16.mod m2 (fun g hg=>by cases hg;omega)
   have z11:=m2.size
   refine Qd (Q4 (Yn (Q4 (Yn (Qi [true,true,true] Z Z (Qa (Qb Z) Z (Qa (Yu Z Z (Ku (by unfold maxLen;omega))) Z (Qa (Qe Z) Z (Qd (Q4 (Yg (k + 1,w9.heap.size,w10.heap.size,o9,o10,o11,o12,o13,o14,o15,o16,((Vw g wx).1)) (by simp;omega) ⟨Z,Z,Z,Z,Z,trivial⟩ ⟨E,(by omega),hcu,h1,h2,ho1,(by omega),wl_take hcw,ws_take hsm,(by omega),(by omega),(by omega),(Worker.mkO ((Vw g wx).1) sp2 (Own.widen hw9 (by omega) (by omega)) (Own.widen hw10 (by omega) (by omega)) (Own.widen hw11 (by omega) (by omega)) (Own.widen hw12 (by omega) (by omega)) (Own.widen hw13 (by omega) (by omega)) (Own.widen hw14 (by omega) (by omega)) (Own.widen hw15 (by omega) (by omega)) (Own.widen hw16 (by omega) (by omega))),h3⟩)))))))))))
  ·have hc2n : ¬ dx3 = 0:=by first | (have h:=of_decide_eq_false hc2;omega) | (have h:=hc2;simp at h;omega)
   refine Qh (Qi [true,true] Z Z (Qa (Y9 Z Z) Z (Qa (Qe Z) Z (Qd (Qt Z (fun hc3=>?_) (fun hc3=>?_))))))
   ·have hc3n : dx3 = 1:=by first | (have h:=of_decide_eq_true hc3;omega) | (have h:=hc3;simp at h;omega)
    refine Ga Xd [1] [(0,true),(1,true),(2,true),(3,false),(4,false)] [(5,false)] (by decide +kernel) Z Z (fun w'=>ModR w w' lo (lo + 1) ∧ w9.heap.size ≤ w'.heap.size ∧ CurO w' lo vb bs ∧ Blk w' b1 ([og,.int .i64 g.workers,.int .i64 g.cap]) ∧ Blk w' b2 [.slice none 0 0,.slice none 0 0,.slice none 0 0,.slice none 0 0,.slice none 0 0,.slice none 0 0,.slice none 0 0,.slice none 0 0] ∧ Own w' w2.heap.size w3.heap.size 5 v1 (List.flatMap (Enc.enc (α:=Record)) dx1) ∧ Own w' plo phi 5 p1 (List.flatMap (Enc.enc (α:=Record)) wx.queue) ∧ Own w' plo phi 5 p2 (List.flatMap (Enc.enc (α:=Record)) wx.staged) ∧ Own w' plo phi 5 p3 (List.flatMap (Enc.enc (α:=Record)) wx.inputs) ∧ Own w' plo phi 4 p4 (List.flatMap (Enc.enc (α:=Cell)) wx.cells) ∧ Own w' plo phi 1 p5 (List.flatMap (Enc.enc (α:=Int)) wx.sums) ∧ Own w' plo phi 1 p6 (List.flatMap (Enc.enc (α:=Bool)) wx.black) ∧ Own w' plo phi 1 p7 (List.flatMap (Enc.enc (α:=Bool)) wx.caps) ∧ Own w' plo phi 2 p8 (List.flatMap (Enc.enc (α:=Done)) wx.dones) ∧ Blk w' b3 [p1,p2,p3,p4,p5,p6,p7,p8]) (fun w12 e9=>?_)
    replace E:=E.ext e9;replace hcu:=hcu.ext e9;replace h1:=h1.ext e9;replace h2:=h2.ext e9;replace ho1:=ho1.ext e9;replace hp1:=hp1.ext e9;replace hp2:=hp2.ext e9;replace hp3:=hp3.ext e9;replace hp4:=hp4.ext e9;replace hp5:=hp5.ext e9;replace hp6:=hp6.ext e9;replace hp7:=hp7.ext e9;replace hp8:=hp8.ext e9;replace h3:=h3.ext e9
    have z12:=e9.size
    refine ⟨⟨E,(by omega),hcu,h1,h2,ho1,hp1,hp2,hp3,hp4,hp5,hp6,hp7,hp8,h3⟩,?_⟩
    refine U2 rfl (fun wX hX=>by obtain ⟨E,zX,hcu,h1,h2,ho1,hp1,hp2,hp3,hp4,hp5,hp6,hp7,hp8,h3⟩:=hX;exact Ql Yh rfl h3.at rfl) rfl ?_
    refine Kw Z (fun wX=>Qb Z) Z ?_
    refine U2 rfl (fun wX hX=>by obtain ⟨E,zX,hcu,h1,h2,ho1,hp1,hp2,hp3,hp4,hp5,hp6,hp7,hp8,h3⟩:=hX;exact Ql Xz rfl h1.at rfl) rfl ?_
    refine K7 Z ?_
    refine Yf Tryz.call87 Z Z (s_l10Record lo vb bs og g _ hcu (RdD.modR hbs E (.inl (Nat.le_refl _))) (Stab.on hg E)) Z (fun _ w13 e10 hv=>?_)
    obtain ⟨dx4,hcu',hv⟩:=hv
    replace hcu:=hcu'
    subst hv
    replace E:=E.trans e10 (by omega) (by omega);replace h1:=h1.modR e10 (by omega);replace h2:=h2.modR e10 (by omega);replace ho1:=ho1.modR e10 (by omega);replace hp1:=hp1.modR e10 (by omega);replace hp2:=hp2.modR e10 (by omega);replace hp3:=hp3.modR e10 (by omega);replace hp4:=hp4.modR e10 (by omega);replace hp5:=hp5.modR e10 (by omega);replace hp6:=hp6.modR e10 (by omega);replace hp7:=hp7.modR e10 (by omega);replace hp8:=hp8.modR e10 (by omega);replace h3:=h3.modR e10 (by omega)
    have z13:=e10.size
    refine Xx ⟨E,(by omega),hcu,h1,h2,ho1,hp1,hp2,hp3,hp4,hp5,hp6,hp7,hp8,h3⟩ ?_
    refine K7 Z ?_
    refine Qw Tryz.call86 Z (s_Received [p1,p2,p3,p4,p5,p6,p7,p8] wx dx4 _ (Worker.mkR wx (RdD.any (Own.rdD hp1)) (RdD.any (Own.rdD hp2)) (RdD.any (Own.rdD hp3)) (RdD.any (Own.rdD hp4)) (RdD.any (Own.rdD hp5)) (RdD.any (Own.rdD hp6)) (RdD.any (Own.rdD hp7)) (RdD.any (Own.rdD hp8))) (by omega)) Z (fun _ w14 e11 ho5=>?_)
    obtain ⟨_,rfl,ho5⟩:=ho5
    have g_ho5 : w.heap.size ≤ w13.heap.size:=E.size
    replace E:=E.ext e11;replace hcu:=hcu.ext e11;replace h1:=h1.ext e11;replace h2:=h2.ext e11;replace ho1:=ho1.ext e11;replace hp1:=hp1.ext e11;replace hp2:=hp2.ext e11;replace hp3:=hp3.ext e11;replace hp4:=hp4.ext e11;replace hp5:=hp5.ext e11;replace hp6:=hp6.ext e11;replace hp7:=hp7.ext e11;replace hp8:=hp8.ext e11;replace h3:=h3.ext e11
    have z14:=e11.size
    obtain ⟨o17,o18,o19,o20,o21,o22,o23,o24,rfl,sp3,hw17,hw18,hw19,hw20,hw21,hw22,hw23,hw24⟩:=Worker.opO ho5
    refine Xx ⟨E,(by omega),hcu,h1,h2,ho1,hp1,hp2,hp3,hp4,hp5,hp6,hp7,hp8,h3⟩ ?_
    refine Gc ?_
    refine Qs (cs':=[o17,o18,o19,o20,o21,o22,o23,o24]) Yh Z Z Z (Qg hw17.one (Qg hw18.one (Qg hw19.one (Qg hw20.one (Qg hw21.one (Qg hw22.one (Qg hw23.one (Qg hw24.one Z)))))))) h3 (Nat.le_of_ble_eq_true Z) Z (fun w15 m3 h3'=>?_)
    replace h3:=h3'
    replace E:=E.mod m3 (fun g hg=>by cases hg;omega);replace hcu:=hcu.mod m3 (fun g hg=>by cases hg;omega);replace h1:=h1.mod m3 (fun g hg=>by cases hg;omega);replace h2:=h2.mod m3 (fun g hg=>by cases hg;omega);replace ho1:=ho1.mod m3 (fun g hg=>by cases hg;omega);replace hp1:=hp1.mod m3 (fun g hg=>by cases hg;omega);replace hp2:=hp2.mod m3 (fun g hg=>by cases hg;omega);replace hp3:=hp3.mod m3 (fun g hg=>by cases hg;omega);replace hp4:=hp4.mod m3 (fun g hg=>by cases hg;omega);replace hp5:=hp5.mod m3 (fun g hg=>by cases hg;omega);replace hp6:=hp6.mod m3 (fun g hg=>by cases hg;omega);replace hp7:=hp7.mod m3 (fun g hg=>by cases hg;omega);replace hp8:=hp8.mod m3 (fun g hg=>by cases hg;omega);replace hw17:=hw17.mod m3 (fun g hg=>by cases hg;omega);replace hw18:=hw18.mod m3 (fun g hg=>by cases hg;omega);replace hw19:=hw19.mod m3 (fun g hg=>by cases hg;omega);replace hw20:=hw20.mod m3 (fun g hg=>by cases hg;omega);replace hw21:=hw21.mod m3 (fun g hg=>by cases hg;omega);replace hw22:=hw22.mod m3 (fun g hg=>by cases hg;omega);replace hw23:=hw23.mod m3 (fun g hg=>by cases hg;omega);replace hw24:=hw24.mod m3 (fun g hg=>by cases hg;omega)
    have z15:=m3.size
    refine Qd (Q4 (Yn (Q4 (Yn (Qi [true,true,true] Z Z (Qa (Qb Z) Z (Qa (Yu Z Z (Ku (by unfold maxLen;omega))) Z (Qa (Qe Z) Z (Qd (Q4 (Yg (k + 1,w13.heap.size,w14.heap.size,o17,o18,o19,o20,o21,o22,o23,o24,(Gn wx dx4)) (by simp;omega) ⟨Z,Z,Z,Z,Z,trivial⟩ ⟨E,(by omega),hcu,h1,h2,ho1,(by omega),wl_recv hcw,ws_recv hsm,(by omega),(by omega),(by omega),(Worker.mkO (Gn wx dx4) sp3 (Own.widen hw17 (by omega) (by omega)) (Own.widen hw18 (by omega) (by omega)) (Own.widen hw19 (by omega) (by omega)) (Own.widen hw20 (by omega) (by omega)) (Own.widen hw21 (by omega) (by omega)) (Own.widen hw22 (by omega) (by omega)) (Own.widen hw23 (by omega) (by omega)) (Own.widen hw24 (by omega) (by omega))),h3⟩)))))))))))
   ·have hc3n : ¬ dx3 = 1:=by first | (have h:=of_decide_eq_false hc3;omega) | (have h:=hc3;simp at h;omega)
    refine Qh (Qi [true,true] Z Z (Qa (Y9 Z Z) Z (Qa (Qe Z) Z (Qd (Qt Z (fun hc4=>?_) (fun hc4=>?_))))))
    ·have hc4n : dx3 = 2:=by first | (have h:=of_decide_eq_true hc4;omega) | (have h:=hc4;simp at h;omega)
     refine Qi [true,false,true,true,true,true,false] Z Z (Qa (Ql Yh Z h3.at Z) Z (Qw Tryz.call88 Z (s_Unstaged [p1,p2,p3,p4,p5,p6,p7,p8] wx _ (Worker.mkR wx (RdD.any (Own.rdD hp1)) (RdD.any (Own.rdD hp2)) (RdD.any (Own.rdD hp3)) (RdD.any (Own.rdD hp4)) (RdD.any (Own.rdD hp5)) (RdD.any (Own.rdD hp6)) (RdD.any (Own.rdD hp7)) (RdD.any (Own.rdD hp8))) (by omega)) Z (fun _ w16 e12 ho6=>?_)))
     obtain ⟨_,rfl,ho7⟩:=ho6
     have g_ho6 : w.heap.size ≤ w9.heap.size:=E.size
     replace E:=E.ext e12;replace hcu:=hcu.ext e12;replace h1:=h1.ext e12;replace h2:=h2.ext e12;replace ho1:=ho1.ext e12;replace hp1:=hp1.ext e12;replace hp2:=hp2.ext e12;replace hp3:=hp3.ext e12;replace hp4:=hp4.ext e12;replace hp5:=hp5.ext e12;replace hp6:=hp6.ext e12;replace hp7:=hp7.ext e12;replace hp8:=hp8.ext e12;replace h3:=h3.ext e12
     have z16:=e12.size
     obtain ⟨o25,o26,o27,o28,o29,o30,o31,o32,rfl,sp4,hw25,hw26,hw27,hw28,hw29,hw30,hw31,hw32⟩:=Worker.opO ho7
     refine Qa (Qb Z) Z (Qa (Ym Z Z) Z (Qa (Ym Z Z) Z (Qa (Ym Z Z) Z (Qs (cs':=[o25,o26,o27,o28,o29,o30,o31,o32]) Yh Z Z Z (Qg hw25.one (Qg hw26.one (Qg hw27.one (Qg hw28.one (Qg hw29.one (Qg hw30.one (Qg hw31.one (Qg hw32.one Z)))))))) h3 (Nat.le_of_ble_eq_true Z) Z (fun w17 m4 h3'=>?_)))))
     replace h3:=h3'
     replace E:=E.mod m4 (fun g hg=>by cases hg;omega);replace hcu:=hcu.mod m4 (fun g hg=>by cases hg;omega);replace h1:=h1.mod m4 (fun g hg=>by cases hg;omega);replace h2:=h2.mod m4 (fun g hg=>by cases hg;omega);replace ho1:=ho1.mod m4 (fun g hg=>by cases hg;omega);replace hp1:=hp1.mod m4 (fun g hg=>by cases hg;omega);replace hp2:=hp2.mod m4 (fun g hg=>by cases hg;omega);replace hp3:=hp3.mod m4 (fun g hg=>by cases hg;omega);replace hp4:=hp4.mod m4 (fun g hg=>by cases hg;omega);replace hp5:=hp5.mod m4 (fun g hg=>by cases hg;omega);replace hp6:=hp6.mod m4 (fun g hg=>by cases hg;omega);replace hp7:=hp7.mod m4 (fun g hg=>by cases hg;omega);replace hp8:=hp8.mod m4 (fun g hg=>by cases hg;omega);replace hw25:=hw25.mod m4 (fun g hg=>by cases hg;omega);replace hw26:=hw26.mod m4 (fun g hg=>by cases hg;omega);replace hw27:=hw27.mod m4 (fun g hg=>by cases hg;omega);replace hw28:=hw28.mod m4 (fun g hg=>by cases hg;omega);replace hw29:=hw29.mod m4 (fun g hg=>by cases hg;omega);replace hw30:=hw30.mod m4 (fun g hg=>by cases hg;omega);replace hw31:=hw31.mod m4 (fun g hg=>by cases hg;omega);replace hw32:=hw32.mod m4 (fun g hg=>by cases hg;omega)
     have z17:=m4.size
     refine Qd (Q4 (Yn (Q4 (Yn (Qi [true,true,true] Z Z (Qa (Qb Z) Z (Qa (Yu Z Z (Ku (by unfold maxLen;omega))) Z (Qa (Qe Z) Z (Qd (Q4 (Yg (k + 1,w9.heap.size,w16.heap.size,o25,o26,o27,o28,o29,o30,o31,o32,((Vc wx).1)) (by simp;omega) ⟨Z,Z,Z,Z,Z,trivial⟩ ⟨E,(by omega),hcu,h1,h2,ho1,(by omega),wl_unst hcw,ws_unst hsm,(by omega),(by omega),(by omega),(Worker.mkO ((Vc wx).1) sp4 (Own.widen hw25 (by omega) (by omega)) (Own.widen hw26 (by omega) (by omega)) (Own.widen hw27 (by omega) (by omega)) (Own.widen hw28 (by omega) (by omega)) (Own.widen hw29 (by omega) (by omega)) (Own.widen hw30 (by omega) (by omega)) (Own.widen hw31 (by omega) (by omega)) (Own.widen hw32 (by omega) (by omega))),h3⟩)))))))))))
    ·have hc4n : ¬ dx3 = 2:=by first | (have h:=of_decide_eq_false hc4;omega) | (have h:=hc4;simp at h;omega)
     refine Qi [true,true,false,true,true,true,false] Z Z (Qa (Ql Xz Z h1.at Z) Z (Qa (Ql Yh Z h3.at Z) Z (Qw Tryz.call89 Z (s_WorkOn [og,.int .i64 g.workers,.int .i64 g.cap] g [p1,p2,p3,p4,p5,p6,p7,p8] wx _ (Graph.mkR g (RdD.any (hg _ E))) (Worker.mkR wx (RdD.any (Own.rdD hp1)) (RdD.any (Own.rdD hp2)) (RdD.any (Own.rdD hp3)) (RdD.any (Own.rdD hp4)) (RdD.any (Own.rdD hp5)) (RdD.any (Own.rdD hp6)) (RdD.any (Own.rdD hp7)) (RdD.any (Own.rdD hp8))) (by omega) hcg) Z (fun _ w18 e13 ho8=>?_))))
     obtain ⟨_,rfl,ho9⟩:=ho8
     have g_ho8 : w.heap.size ≤ w9.heap.size:=E.size
     replace E:=E.ext e13;replace hcu:=hcu.ext e13;replace h1:=h1.ext e13;replace h2:=h2.ext e13;replace ho1:=ho1.ext e13;replace hp1:=hp1.ext e13;replace hp2:=hp2.ext e13;replace hp3:=hp3.ext e13;replace hp4:=hp4.ext e13;replace hp5:=hp5.ext e13;replace hp6:=hp6.ext e13;replace hp7:=hp7.ext e13;replace hp8:=hp8.ext e13;replace h3:=h3.ext e13
     have z18:=e13.size
     obtain ⟨o33,o34,o35,o36,o37,o38,o39,o40,rfl,sp5,hw33,hw34,hw35,hw36,hw37,hw38,hw39,hw40⟩:=Worker.opO ho9
     refine Qa (Qb Z) Z (Qa (Ym Z Z) Z (Qa (Ym Z Z) Z (Qs (cs':=[o33,o34,o35,o36,o37,o38,o39,o40]) Yh Z Z Z (Qg hw33.one (Qg hw34.one (Qg hw35.one (Qg hw36.one (Qg hw37.one (Qg hw38.one (Qg hw39.one (Qg hw40.one Z)))))))) h3 (Nat.le_of_ble_eq_true Z) Z (fun w19 m5 h3'=>?_))))
     replace h3:=h3'
     replace E:=E.mod m5 (fun g hg=>by cases hg;omega);replace hcu:=hcu.mod m5 (fun g hg=>by cases hg;omega);replace h1:=h1.mod m5 (fun g hg=>by cases hg;omega);replace h2:=h2.mod m5 (fun g hg=>by cases hg;omega);replace ho1:=ho1.mod m5 (fun g hg=>by cases hg;omega);replace hp1:=hp1.mod m5 (fun g hg=>by cases hg;omega);replace hp2:=hp2.mod m5 (fun g hg=>by cases hg;omega);replace hp3:=hp3.mod m5 (fun g hg=>by cases hg;omega);replace hp4:=hp4.mod m5 (fun g hg=>by cases hg;omega);replace hp5:=hp5.mod m5 (fun g hg=>by cases hg;omega);replace hp6:=hp6.mod m5 (fun g hg=>by cases hg;omega);replace hp7:=hp7.mod m5 (fun g hg=>by cases hg;omega);replace hp8:=hp8.mod m5 (fun g hg=>by cases hg;omega);replace hw33:=hw33.mod m5 (fun g hg=>by cases hg;omega);replace hw34:=hw34.mod m5 (fun g hg=>by cases hg;omega);replace hw35:=hw35.mod m5 (fun g hg=>by cases hg;omega);replace hw36:=hw36.mod m5 (fun g hg=>by cases hg;omega);replace hw37:=hw37.mod m5 (fun g hg=>by cases hg;omega);replace hw38:=hw38.mod m5 (fun g hg=>by cases hg;omega);replace hw39:=hw39.mod m5 (fun g hg=>by cases hg;omega);replace hw40:=hw40.mod m5 (fun g hg=>by cases hg;omega)
     have z19:=m5.size
     refine Qd (Q4 (Yn (Q4 (Yn (Qi [true,true,true] Z Z (Qa (Qb Z) Z (Qa (Yu Z Z (Ku (by unfold maxLen;omega))) Z (Qa (Qe Z) Z (Qd (Q4 (Yg (k + 1,w9.heap.size,w18.heap.size,o33,o34,o35,o36,o37,o38,o39,o40,((Vh g wx).1)) (by simp;omega) ⟨Z,Z,Z,Z,Z,trivial⟩ ⟨E,(by omega),hcu,h1,h2,ho1,(by omega),wl_work hcw,ws_work hsm,(by omega),(by omega),(by omega),(Worker.mkO ((Vh g wx).1) sp5 (Own.widen hw33 (by omega) (by omega)) (Own.widen hw34 (by omega) (by omega)) (Own.widen hw35 (by omega) (by omega)) (Own.widen hw36 (by omega) (by omega)) (Own.widen hw37 (by omega) (by omega)) (Own.widen hw38 (by omega) (by omega)) (Own.widen hw39 (by omega) (by omega)) (Own.widen hw40 (by omega) (by omega))),h3⟩)))))))))))
 ·have hc1n : ¬ k < dx2:=by first | (have h:=of_decide_eq_false hc1;omega) | (have h:=hc1;simp at h;omega)
  refine Y5 (Yc (Q8 ?_))
  refine Qh (Qi [true,false] Z Z (Qa (Ql Yh Z h3.at Z) Z (Qs (cs':=[p1,p2,p3,p4,p5,p6,p7,p8]) Yh Z Z Z (Qg hp1.one (Qg hp2.one (Qg hp3.one (Qg hp4.one (Qg hp5.one (Qg hp6.one (Qg hp7.one (Qg hp8.one Z)))))))) h2 (Nat.le_of_ble_eq_true Z) Z (fun w20 m6 h2'=>?_))))
  replace h2:=h2'
  replace E:=E.mod m6 (fun g hg=>by cases hg;omega);replace hcu:=hcu.mod m6 (fun g hg=>by cases hg;omega);replace h1:=h1.mod m6 (fun g hg=>by cases hg;omega);replace ho1:=ho1.mod m6 (fun g hg=>by cases hg;omega);replace hp1:=hp1.mod m6 (fun g hg=>by cases hg;omega);replace hp2:=hp2.mod m6 (fun g hg=>by cases hg;omega);replace hp3:=hp3.mod m6 (fun g hg=>by cases hg;omega);replace hp4:=hp4.mod m6 (fun g hg=>by cases hg;omega);replace hp5:=hp5.mod m6 (fun g hg=>by cases hg;omega);replace hp6:=hp6.mod m6 (fun g hg=>by cases hg;omega);replace hp7:=hp7.mod m6 (fun g hg=>by cases hg;omega);replace hp8:=hp8.mod m6 (fun g hg=>by cases hg;omega);replace h3:=h3.mod m6 (fun g hg=>by cases hg;omega)
  have z20:=m6.size
  refine Qd (Qx (Xh Z Z (Qv Yh h2.at Z) E ?_))
  exact ⟨wx,(by omega),(by assumption),hcu,⟨_,Z,Worker.mkO wx gP (Own.widen hp1 (by omega) (by omega)) (Own.widen hp2 (by omega) (by omega)) (Own.widen hp3 (by omega) (by omega)) (Own.widen hp4 (by omega) (by omega)) (Own.widen hp5 (by omega) (by omega)) (Own.widen hp6 (by omega) (by omega)) (Own.widen hp7 (by omega) (by omega)) (Own.widen hp8 (by omega) (by omega))⟩⟩

set_option maxHeartbeats 4000000 in
set_option maxRecDepth 20000 in
theorem s_l12Any (lo : Nat) (vb : Value) (bs : List Byt) (og : Value) (g : Graph) (w : World) (hcu : CurO w lo vb bs) (hbs : RdD w 0 lo vb bs) (hg : Stab w lo (fun w'=>RdD w' 0 w'.heap.size og g.nodes)) (hcg : Uq g ≤ 1048576) : CtR Tryz.prog 39 [.pointer (some ⟨lo,0,none⟩),.agg [og,.int .i64 g.workers,.int .i64 g.cap].toArray] w lo (lo + 1) (fun v w'=>∃ (dr0 : Worker),Q6 dr0 ≤ 200 ∧ CurO w' lo vb bs ∧ ∃ cs,v = .agg cs.toArray ∧ Dat.R w' w.heap.size w'.heap.size cs dr0):=by
 have y_lo:=CurO.lt hcu
 refine Vb Tryz.func39 Z Tryz.ntmps39 Z ?_
 refine Yb [(0,.pointer (some ⟨lo,0,none⟩)),(1,.agg [og,.int .i64 g.workers,.int .i64 g.cap].toArray)] ⟨Z,Z,trivial⟩ ?_
 have E : ModR w w lo (lo + 1):=ModR.refl w lo (lo + 1)
 refine Qh (Qi [false,false] Z Z (Xb Z Z (fun b1 w1 e1 s1 h1=>?_)))
 have g_b1 : w.heap.size ≤ b1:=by have:=E.size;omega
 have y_b1:=h1.lt
 replace E:=E.ext e1;replace hcu:=hcu.ext e1
 have z1:=e1.size
 refine Yd Yh Z (fun b2 w2 e2 s2 h2=>?_)
 have g_b2 : w.heap.size ≤ b2:=by have:=E.size;omega
 have y_b2:=h2.lt
 replace E:=E.ext e2;replace hcu:=hcu.ext e2;replace h1:=h1.ext e2
 have z2:=e2.size
 refine Qd (Qh (Qi [true,true,false,false,false] Z Z (Qa (Qb Z) Z (Qa (Ql Xz Z h1.at Z) Z (Yf Tryz.call67 Z Z (s_l12Worker lo vb bs og g _ hcu (RdD.modR hbs E (.inl (Nat.le_refl _))) (Stab.on hg E) hcg) Z (fun _ w3 e3 ho1=>?_))))))
 obtain ⟨dx1,q1,q2,hcu',ho1⟩:=ho1
 replace hcu:=hcu'
 obtain ⟨_,rfl,ho1⟩:=ho1
 have g_ho1 : w.heap.size ≤ w2.heap.size:=E.size
 replace E:=E.trans e3 (by omega) (by omega);replace h1:=h1.modR e3 (by omega);replace h2:=h2.modR e3 (by omega)
 have z3:=e3.size
 obtain ⟨o1,o2,o3,o4,o5,o6,o7,o8,rfl,sp1,hw1,hw2,hw3,hw4,hw5,hw6,hw7,hw8⟩:=Worker.opO ho1
 refine Yd Yh Z (fun b3 w4 e4 s3 h3=>?_)
 have g_b3 : w.heap.size ≤ b3:=by have:=E.size;omega
 have y_b3:=h3.lt
 replace E:=E.ext e4;replace hcu:=hcu.ext e4;replace h1:=h1.ext e4;replace h2:=h2.ext e4;replace hw1:=hw1.ext e4;replace hw2:=hw2.ext e4;replace hw3:=hw3.ext e4;replace hw4:=hw4.ext e4;replace hw5:=hw5.ext e4;replace hw6:=hw6.ext e4;replace hw7:=hw7.ext e4;replace hw8:=hw8.ext e4
 have z4:=e4.size
 refine Qs (cs':=[o1,o2,o3,o4,o5,o6,o7,o8]) Yh Z Z Z (Qg hw1.one (Qg hw2.one (Qg hw3.one (Qg hw4.one (Qg hw5.one (Qg hw6.one (Qg hw7.one (Qg hw8.one Z)))))))) h3 (Nat.le_of_ble_eq_true Z) Z (fun w5 m1 h3'=>?_)
 replace h3:=h3'
 replace E:=E.mod m1 (fun g hg=>by cases hg;omega);replace hcu:=hcu.mod m1 (fun g hg=>by cases hg;omega);replace h1:=h1.mod m1 (fun g hg=>by cases hg;omega);replace h2:=h2.mod m1 (fun g hg=>by cases hg;omega);replace hw1:=hw1.mod m1 (fun g hg=>by cases hg;omega);replace hw2:=hw2.mod m1 (fun g hg=>by cases hg;omega);replace hw3:=hw3.mod m1 (fun g hg=>by cases hg;omega);replace hw4:=hw4.mod m1 (fun g hg=>by cases hg;omega);replace hw5:=hw5.mod m1 (fun g hg=>by cases hg;omega);replace hw6:=hw6.mod m1 (fun g hg=>by cases hg;omega);replace hw7:=hw7.mod m1 (fun g hg=>by cases hg;omega);replace hw8:=hw8.mod m1 (fun g hg=>by cases hg;omega)
 have z5:=m1.size
 refine Qd (Qh (Qh (Qi [true,false] Z Z (Qa (Qb Z) Z (Yf Tryz.call66 Z Z (s_l01Below lo vb bs 16 _ hcu (RdD.modR hbs E (.inl (Nat.le_refl _)))) Z (fun _ w6 e5 hv=>?_))))))
 obtain ⟨dx2,q3,q4,hcu',hv⟩:=hv
 replace hcu:=hcu'
 subst hv
 replace E:=E.trans e5 (by omega) (by omega);replace h1:=h1.modR e5 (by omega);replace h2:=h2.modR e5 (by omega);replace hw1:=hw1.modR e5 (by omega);replace hw2:=hw2.modR e5 (by omega);replace hw3:=hw3.modR e5 (by omega);replace hw4:=hw4.modR e5 (by omega);replace hw5:=hw5.modR e5 (by omega);replace hw6:=hw6.modR e5 (by omega);replace hw7:=hw7.modR e5 (by omega);replace hw8:=hw8.modR e5 (by omega);replace h3:=h3.modR e5 (by omega)
 have z6:=e5.size
 refine Qd (Q2 (Qh (Qi [true,true] Z Z (Qa (Y9 Z Z) Z (Qa (Qe Z) Z (Qd (Qt Z (fun hc1=>?_) (fun hc1=>?_))))))))
 ·have hc1n : dx2 = 0:=by first | (have h:=of_decide_eq_true hc1;omega) | (have h:=hc1;simp at h;omega)
  refine Ga Xd [0,2,6] [(0,true),(1,true),(2,true),(3,false),(4,false),(5,false),(6,true)] [(7,false)] (by decide +kernel) Z Z (fun w'=>ModR w w' lo (lo + 1) ∧ w6.heap.size ≤ w'.heap.size ∧ CurO w' lo vb bs ∧ Blk w' b1 ([og,.int .i64 g.workers,.int .i64 g.cap]) ∧ Blk w' b2 [.slice none 0 0,.slice none 0 0,.slice none 0 0,.slice none 0 0,.slice none 0 0,.slice none 0 0,.slice none 0 0,.slice none 0 0] ∧ Own w' w2.heap.size w3.heap.size 5 o2 (List.flatMap (Enc.enc (α:=Record)) dx1.staged) ∧ Own w' w2.heap.size w3.heap.size 5 o3 (List.flatMap (Enc.enc (α:=Record)) dx1.inputs) ∧ Own w' w2.heap.size w3.heap.size 4 o4 (List.flatMap (Enc.enc (α:=Cell)) dx1.cells) ∧ Own w' w2.heap.size w3.heap.size 1 o5 (List.flatMap (Enc.enc (α:=Int)) dx1.sums) ∧ Own w' w2.heap.size w3.heap.size 1 o6 (List.flatMap (Enc.enc (α:=Bool)) dx1.black) ∧ Own w' w2.heap.size w3.heap.size 1 o7 (List.flatMap (Enc.enc (α:=Bool)) dx1.caps) ∧ Own w' w2.heap.size w3.heap.size 2 o8 (List.flatMap (Enc.enc (α:=Done)) dx1.dones) ∧ Blk w' b3 [o1,o2,o3,o4,o5,o6,o7,o8]) (fun w7 e6=>?_)
  replace E:=E.ext e6;replace hcu:=hcu.ext e6;replace h1:=h1.ext e6;replace h2:=h2.ext e6;replace hw1:=hw1.ext e6;replace hw2:=hw2.ext e6;replace hw3:=hw3.ext e6;replace hw4:=hw4.ext e6;replace hw5:=hw5.ext e6;replace hw6:=hw6.ext e6;replace hw7:=hw7.ext e6;replace hw8:=hw8.ext e6;replace h3:=h3.ext e6
  have z7:=e6.size
  refine ⟨⟨E,(by omega),hcu,h1,h2,hw2,hw3,hw4,hw5,hw6,hw7,hw8,h3⟩,?_⟩
  refine Kw Z (fun wX=>Qf Kf Z) Z ?_
  refine U2 rfl (fun wX hX=>by obtain ⟨E,zX,hcu,h1,h2,hw2,hw3,hw4,hw5,hw6,hw7,hw8,h3⟩:=hX;exact Qk Xv rfl (h3.one 0 rfl)) rfl ?_
  refine Kw Z (fun wX=>Qb Z) Z ?_
  refine K7 Z ?_
  refine Yf Tryz.call68 Z Z (s_l05Any lo vb bs _ hcu (RdD.modR hbs E (.inl (Nat.le_refl _)))) Z (fun _ w8 e7 hv=>?_)
  obtain ⟨dx3,hcu',hv⟩:=hv
  replace hcu:=hcu'
  subst hv
  replace E:=E.trans e7 (by omega) (by omega);replace h1:=h1.modR e7 (by omega);replace h2:=h2.modR e7 (by omega);replace hw1:=hw1.modR e7 (by omega);replace hw2:=hw2.modR e7 (by omega);replace hw3:=hw3.modR e7 (by omega);replace hw4:=hw4.modR e7 (by omega);replace hw5:=hw5.modR e7 (by omega);replace hw6:=hw6.modR e7 (by omega);replace hw7:=hw7.modR e7 (by omega);replace hw8:=hw8.modR e7 (by omega);replace h3:=h3.modR e7 (by omega)
  have z8:=e7.size
  refine Xx ⟨E,(by omega),hcu,h1,h2,hw2,hw3,hw4,hw5,hw6,hw7,hw8,h3⟩ ?_
  refine K7 Z ?_
  refine Qz (vs:=[.agg (Enc.enc dx3).toArray]) (css:=[[.int .i64 dx3.op,.int .i64 dx3.stamp.epoch,.int .i64 dx3.stamp.turn,.int .i64 dx3.key,.int .i64 dx3.val]]) Xp Z Z ⟨⟨Z,Z⟩,trivial⟩ Z Z (fun b4 w9 e8 s4 h4=>?_)
  replace h4 : Blk w9 b4 [.int .i64 dx3.op,.int .i64 dx3.stamp.epoch,.int .i64 dx3.stamp.turn,.int .i64 dx3.key,.int .i64 dx3.val]:=h4
  have g_b4 : w.heap.size ≤ b4:=by have:=E.size;omega
  have y_b4:=h4.lt
  replace E:=E.ext e8;replace hcu:=hcu.ext e8;replace h1:=h1.ext e8;replace h2:=h2.ext e8;replace hw1:=hw1.ext e8;replace hw2:=hw2.ext e8;replace hw3:=hw3.ext e8;replace hw4:=hw4.ext e8;replace hw5:=hw5.ext e8;replace hw6:=hw6.ext e8;replace hw7:=hw7.ext e8;replace hw8:=hw8.ext e8;replace h3:=h3.ext e8
  have z9:=e8.size
  refine Xx ⟨E,(by omega),hcu,h1,h2,hw2,hw3,hw4,hw5,hw6,hw7,hw8,h3⟩ ?_
  refine K7 Z ?_
  refine Ka Xp Z Z hw1 (Src.ofBlk h4 Z) Z (by unfold Q6 at q1;simp only [Ya,List.length_cons,List.length_nil];simp only [Enc.sz];omega) (by decide) (by omega) (by omega) Z Z (fun v1 w10 m2 ho2 hb1=>?_)
  have hn1 : ∀ g,Value.ownBlock v1 = some g → g < w3.heap.size ∨ w9.heap.size ≤ g:=fun g hg=>(hb1 g hg).elim (fun h=>.inl (by have:=Own.blk hw1 g h;omega)) (fun h=>.inr h)
  have sq1:=sp1
  replace sp1:=SepL.set hb1 0 rfl sp1 ⟨(Own.lt hw1),(Own.lt hw2),(Own.lt hw3),(Own.lt hw4),(Own.lt hw5),(Own.lt hw6),(Own.lt hw7),(Own.lt hw8),trivial⟩
  replace sp1 : SepL [v1,o2,o3,o4,o5,o6,o7,o8]:=sp1
  replace E:=E.mod m2 (fun g hg=>by have:=Own.blk hw1 g hg;omega);replace hcu:=hcu.mod m2 (fun g hg=>by have:=Own.blk hw1 g hg;omega);replace h1:=h1.mod m2 (fun g hg=>by have:=Own.blk hw1 g hg;omega);replace h2:=h2.mod m2 (fun g hg=>by have:=Own.blk hw1 g hg;omega);replace hw2:=Own.modS hw2 m2 sq1.1.1;replace hw3:=Own.modS hw3 m2 sq1.1.2.1;replace hw4:=Own.modS hw4 m2 sq1.1.2.2.1;replace hw5:=Own.modS hw5 m2 sq1.1.2.2.2.1;replace hw6:=Own.modS hw6 m2 sq1.1.2.2.2.2.1;replace hw7:=Own.modS hw7 m2 sq1.1.2.2.2.2.2.1;replace hw8:=Own.modS hw8 m2 sq1.1.2.2.2.2.2.2.1;replace h3:=h3.mod m2 (fun g hg=>by have:=Own.blk hw1 g hg;omega)
  have z10:=m2.size
  replace ho2 : Own w10 w2.heap.size w10.heap.size 5 v1 (List.flatMap (Enc.enc (α:=Record)) (dx1.queue ++ [dx3])):=by rw [List.flatMap_append];exact ho2
  refine Xx ⟨E,(by omega),hcu,h1,h2,hw2,hw3,hw4,hw5,hw6,hw7,hw8,h3⟩ ?_
  refine Kw Z (fun wX=>Qf Kf Z) Z ?_
  refine Gc ?_
  refine Xf (cs':=[v1,o2,o3,o4,o5,o6,o7,o8]) Xv Z Z ho2.one h3 (Nat.le_of_ble_eq_true Z) Z (fun w11 m3 h3'=>?_)
  replace h3:=h3'
  replace E:=E.mod m3 (fun g hg=>by cases hg;omega);replace hcu:=hcu.mod m3 (fun g hg=>by cases hg;omega);replace h1:=h1.mod m3 (fun g hg=>by cases hg;omega);replace h2:=h2.mod m3 (fun g hg=>by cases hg;omega);replace hw2:=hw2.mod m3 (fun g hg=>by cases hg;omega);replace hw3:=hw3.mod m3 (fun g hg=>by cases hg;omega);replace hw4:=hw4.mod m3 (fun g hg=>by cases hg;omega);replace hw5:=hw5.mod m3 (fun g hg=>by cases hg;omega);replace hw6:=hw6.mod m3 (fun g hg=>by cases hg;omega);replace hw7:=hw7.mod m3 (fun g hg=>by cases hg;omega);replace hw8:=hw8.mod m3 (fun g hg=>by cases hg;omega);replace ho2:=Own.modN ho2 m3 (fun g hg hv=>by have hN:=hn1 g hv;have hB:=Own.blk ho2 g hv;cases hg;omega)
  have z11:=m3.size
  refine Qd (Q4 (Yn (Qh (Qi [true,false] Z Z (Qa (Ql Yh Z h3.at Z) Z (Qs (cs':=[v1,o2,o3,o4,o5,o6,o7,o8]) Yh Z Z Z (Qg ho2.one (Qg hw2.one (Qg hw3.one (Qg hw4.one (Qg hw5.one (Qg hw6.one (Qg hw7.one (Qg hw8.one Z)))))))) h2 (Nat.le_of_ble_eq_true Z) Z (fun w12 m4 h2'=>?_)))))))
  replace h2:=h2'
  replace E:=E.mod m4 (fun g hg=>by cases hg;omega);replace hcu:=hcu.mod m4 (fun g hg=>by cases hg;omega);replace h1:=h1.mod m4 (fun g hg=>by cases hg;omega);replace hw2:=hw2.mod m4 (fun g hg=>by cases hg;omega);replace hw3:=hw3.mod m4 (fun g hg=>by cases hg;omega);replace hw4:=hw4.mod m4 (fun g hg=>by cases hg;omega);replace hw5:=hw5.mod m4 (fun g hg=>by cases hg;omega);replace hw6:=hw6.mod m4 (fun g hg=>by cases hg;omega);replace hw7:=hw7.mod m4 (fun g hg=>by cases hg;omega);replace hw8:=hw8.mod m4 (fun g hg=>by cases hg;omega);replace h3:=h3.mod m4 (fun g hg=>by cases hg;omega);replace ho2:=Own.modN ho2 m4 (fun g hg hv=>by have hN:=hn1 g hv;have hB:=Own.blk ho2 g hv;cases hg;omega)
  have z12:=m4.size
  refine Qd (Qx (Xh Z Z (Qv Yh h2.at Z) E ?_))
  exact ⟨(⟨dx1.queue ++ [dx3],dx1.staged,dx1.inputs,dx1.cells,dx1.sums,dx1.black,dx1.caps,dx1.dones⟩ : Worker),(by first | omega | (simp only [Q6,List.length_append,List.length_cons,List.length_nil,List.length_take,List.length_set] at *;omega)),hcu,⟨_,Z,Worker.mkR (⟨dx1.queue ++ [dx3],dx1.staged,dx1.inputs,dx1.cells,dx1.sums,dx1.black,dx1.caps,dx1.dones⟩ : Worker) (RdD.widen (Own.rdD ho2) (by have:=E.size;omega) (by omega)) (RdD.widen (Own.rdD hw2) (by have:=E.size;omega) (by omega)) (RdD.widen (Own.rdD hw3) (by have:=E.size;omega) (by omega)) (RdD.widen (Own.rdD hw4) (by have:=E.size;omega) (by omega)) (RdD.widen (Own.rdD hw5) (by have:=E.size;omega) (by omega)) (RdD.widen (Own.rdD hw6) (by have:=E.size;omega) (by omega)) (RdD.widen (Own.rdD hw7) (by have:=E.size;omega) (by omega)) (RdD.widen (Own.rdD hw8) (by have:=E.size;omega) (by omega))⟩⟩
 ·have hc1n : ¬ dx2 = 0:=by first | (have h:=of_decide_eq_false hc1;omega) | (have h:=hc1;simp at h;omega)
  refine Qh (Qi [true,true] Z Z (Qa (Y9 Z Z) Z (Qa (Qe Z) Z (Qd (Qt Z (fun hc2=>?_) (fun hc2=>?_))))))
  ·have hc2n : dx2 = 1:=by first | (have h:=of_decide_eq_true hc2;omega) | (have h:=hc2;simp at h;omega)
   refine Ga Xd [0,2,6] [(0,true),(1,true),(2,true),(3,false),(4,false),(5,false),(6,true)] [(7,false)] (by decide +kernel) Z Z (fun w'=>ModR w w' lo (lo + 1) ∧ w6.heap.size ≤ w'.heap.size ∧ CurO w' lo vb bs ∧ Blk w' b1 ([og,.int .i64 g.workers,.int .i64 g.cap]) ∧ Blk w' b2 [.slice none 0 0,.slice none 0 0,.slice none 0 0,.slice none 0 0,.slice none 0 0,.slice none 0 0,.slice none 0 0,.slice none 0 0] ∧ Own w' w2.heap.size w3.heap.size 5 o1 (List.flatMap (Enc.enc (α:=Record)) dx1.queue) ∧ Own w' w2.heap.size w3.heap.size 5 o2 (List.flatMap (Enc.enc (α:=Record)) dx1.staged) ∧ Own w' w2.heap.size w3.heap.size 4 o4 (List.flatMap (Enc.enc (α:=Cell)) dx1.cells) ∧ Own w' w2.heap.size w3.heap.size 1 o5 (List.flatMap (Enc.enc (α:=Int)) dx1.sums) ∧ Own w' w2.heap.size w3.heap.size 1 o6 (List.flatMap (Enc.enc (α:=Bool)) dx1.black) ∧ Own w' w2.heap.size w3.heap.size 1 o7 (List.flatMap (Enc.enc (α:=Bool)) dx1.caps) ∧ Own w' w2.heap.size w3.heap.size 2 o8 (List.flatMap (Enc.enc (α:=Done)) dx1.dones) ∧ Blk w' b3 [o1,o2,o3,o4,o5,o6,o7,o8]) (fun w13 e9=>?_)
   replace E:=E.ext e9;replace hcu:=hcu.ext e9;replace h1:=h1.ext e9;replace h2:=h2.ext e9;replace hw1:=hw1.ext e9;replace hw2:=hw2.ext e9;replace hw3:=hw3.ext e9;replace hw4:=hw4.ext e9;replace hw5:=hw5.ext e9;replace hw6:=hw6.ext e9;replace hw7:=hw7.ext e9;replace hw8:=hw8.ext e9;replace h3:=h3.ext e9
   have z13:=e9.size
   refine ⟨⟨E,(by omega),hcu,h1,h2,hw1,hw2,hw4,hw5,hw6,hw7,hw8,h3⟩,?_⟩
   refine Kw Z (fun wX=>Qf X5 Z) Z ?_
   refine U2 rfl (fun wX hX=>by obtain ⟨E,zX,hcu,h1,h2,hw1,hw2,hw4,hw5,hw6,hw7,hw8,h3⟩:=hX;exact Qk Xv rfl (h3.one 2 rfl)) rfl ?_
   refine Kw Z (fun wX=>Qb Z) Z ?_
   refine K7 Z ?_
   refine Yf Tryz.call69 Z Z (s_l05Record lo vb bs _ hcu (RdD.modR hbs E (.inl (Nat.le_refl _)))) Z (fun _ w14 e10 hv=>?_)
   obtain ⟨dx4,hcu',hv⟩:=hv
   replace hcu:=hcu'
   subst hv
   replace E:=E.trans e10 (by omega) (by omega);replace h1:=h1.modR e10 (by omega);replace h2:=h2.modR e10 (by omega);replace hw1:=hw1.modR e10 (by omega);replace hw2:=hw2.modR e10 (by omega);replace hw3:=hw3.modR e10 (by omega);replace hw4:=hw4.modR e10 (by omega);replace hw5:=hw5.modR e10 (by omega);replace hw6:=hw6.modR e10 (by omega);replace hw7:=hw7.modR e10 (by omega);replace hw8:=hw8.modR e10 (by omega);replace h3:=h3.modR e10 (by omega)
   have z14:=e10.size
   refine Xx ⟨E,(by omega),hcu,h1,h2,hw1,hw2,hw4,hw5,hw6,hw7,hw8,h3⟩ ?_
   refine K7 Z ?_
   refine Qz (vs:=[.agg (Enc.enc dx4).toArray]) (css:=[[.int .i64 dx4.op,.int .i64 dx4.stamp.epoch,.int .i64 dx4.stamp.turn,.int .i64 dx4.key,.int .i64 dx4.val]]) Xp Z Z ⟨⟨Z,Z⟩,trivial⟩ Z Z (fun b5 w15 e11 s5 h5=>?_)
   replace h5 : Blk w15 b5 [.int .i64 dx4.op,.int .i64 dx4.stamp.epoch,.int .i64 dx4.stamp.turn,.int .i64 dx4.key,.int .i64 dx4.val]:=h5
   have g_b5 : w.heap.size ≤ b5:=by have:=E.size;omega
   have y_b5:=h5.lt
   replace E:=E.ext e11;replace hcu:=hcu.ext e11;replace h1:=h1.ext e11;replace h2:=h2.ext e11;replace hw1:=hw1.ext e11;replace hw2:=hw2.ext e11;replace hw3:=hw3.ext e11;replace hw4:=hw4.ext e11;replace hw5:=hw5.ext e11;replace hw6:=hw6.ext e11;replace hw7:=hw7.ext e11;replace hw8:=hw8.ext e11;replace h3:=h3.ext e11
   have z15:=e11.size
   refine Xx ⟨E,(by omega),hcu,h1,h2,hw1,hw2,hw4,hw5,hw6,hw7,hw8,h3⟩ ?_
   refine K7 Z ?_
   refine Ka Xp Z Z hw3 (Src.ofBlk h5 Z) Z (by unfold Q6 at q1;simp only [Ya,List.length_cons,List.length_nil];simp only [Enc.sz];omega) (by decide) (by omega) (by omega) Z Z (fun v2 w16 m5 ho3 hb2=>?_)
   have hn2 : ∀ g,Value.ownBlock v2 = some g → g < w3.heap.size ∨ w15.heap.size ≤ g:=fun g hg=>(hb2 g hg).elim (fun h=>.inl (by have:=Own.blk hw3 g h;omega)) (fun h=>.inr h)
   have sq2:=sp1
   replace sp1:=SepL.set hb2 2 rfl sp1 ⟨(Own.lt hw1),(Own.lt hw2),(Own.lt hw3),(Own.lt hw4),(Own.lt hw5),(Own.lt hw6),(Own.lt hw7),(Own.lt hw8),trivial⟩
   replace sp1 : SepL [o1,o2,v2,o4,o5,o6,o7,o8]:=sp1
   replace E:=E.mod m5 (fun g hg=>by have:=Own.blk hw3 g hg;omega);replace hcu:=hcu.mod m5 (fun g hg=>by have:=Own.blk hw3 g hg;omega);replace h1:=h1.mod m5 (fun g hg=>by have:=Own.blk hw3 g hg;omega);replace h2:=h2.mod m5 (fun g hg=>by have:=Own.blk hw3 g hg;omega);replace hw1:=Own.modS hw1 m5 (sq2.1.2.1).symm;replace hw2:=Own.modS hw2 m5 (sq2.2.1.1).symm;replace hw4:=Own.modS hw4 m5 sq2.2.2.1.1;replace hw5:=Own.modS hw5 m5 sq2.2.2.1.2.1;replace hw6:=Own.modS hw6 m5 sq2.2.2.1.2.2.1;replace hw7:=Own.modS hw7 m5 sq2.2.2.1.2.2.2.1;replace hw8:=Own.modS hw8 m5 sq2.2.2.1.2.2.2.2.1;replace h3:=h3.mod m5 (fun g hg=>by have:=Own.blk hw3 g hg;omega)
   have z16:=m5.size
   replace ho3 : Own w16 w2.heap.size w16.heap.size 5 v2 (List.flatMap (Enc.enc (α:=Record)) (dx1.inputs ++ [dx4])):=by rw [List.flatMap_append];exact ho3
   refine Xx ⟨E,(by omega),hcu,h1,h2,hw1,hw2,hw4,hw5,hw6,hw7,hw8,h3⟩ ?_
   refine Kw Z (fun wX=>Qf X5 Z) Z ?_
   refine Gc ?_
   refine Xf (cs':=[o1,o2,v2,o4,o5,o6,o7,o8]) Xv Z Z ho3.one h3 (Nat.le_of_ble_eq_true Z) Z (fun w17 m6 h3'=>?_)
   replace h3:=h3'
   replace E:=E.mod m6 (fun g hg=>by cases hg;omega);replace hcu:=hcu.mod m6 (fun g hg=>by cases hg;omega);replace h1:=h1.mod m6 (fun g hg=>by cases hg;omega);replace h2:=h2.mod m6 (fun g hg=>by cases hg;omega);replace hw1:=hw1.mod m6 (fun g hg=>by cases hg;omega);replace hw2:=hw2.mod m6 (fun g hg=>by cases hg;omega);replace hw4:=hw4.mod m6 (fun g hg=>by cases hg;omega);replace hw5:=hw5.mod m6 (fun g hg=>by cases hg;omega);replace hw6:=hw6.mod m6 (fun g hg=>by cases hg;omega);replace hw7:=hw7.mod m6 (fun g hg=>by cases hg;omega);replace hw8:=hw8.mod m6 (fun g hg=>by cases hg;omega);replace ho3:=Own.modN ho3 m6 (fun g hg hv=>by have hN:=hn2 g hv;have hB:=Own.blk ho3 g hv;cases hg;omega)
   have z17:=m6.size
   refine Qd (Q4 (Yn (Qh (Qi [true,false] Z Z (Qa (Ql Yh Z h3.at Z) Z (Qs (cs':=[o1,o2,v2,o4,o5,o6,o7,o8]) Yh Z Z Z (Qg hw1.one (Qg hw2.one (Qg ho3.one (Qg hw4.one (Qg hw5.one (Qg hw6.one (Qg hw7.one (Qg hw8.one Z)))))))) h2 (Nat.le_of_ble_eq_true Z) Z (fun w18 m7 h2'=>?_)))))))
   replace h2:=h2'
   replace E:=E.mod m7 (fun g hg=>by cases hg;omega);replace hcu:=hcu.mod m7 (fun g hg=>by cases hg;omega);replace h1:=h1.mod m7 (fun g hg=>by cases hg;omega);replace hw1:=hw1.mod m7 (fun g hg=>by cases hg;omega);replace hw2:=hw2.mod m7 (fun g hg=>by cases hg;omega);replace hw4:=hw4.mod m7 (fun g hg=>by cases hg;omega);replace hw5:=hw5.mod m7 (fun g hg=>by cases hg;omega);replace hw6:=hw6.mod m7 (fun g hg=>by cases hg;omega);replace hw7:=hw7.mod m7 (fun g hg=>by cases hg;omega);replace hw8:=hw8.mod m7 (fun g hg=>by cases hg;omega);replace h3:=h3.mod m7 (fun g hg=>by cases hg;omega);replace ho3:=Own.modN ho3 m7 (fun g hg hv=>by have hN:=hn2 g hv;have hB:=Own.blk ho3 g hv;cases hg;omega)
   have z18:=m7.size
   refine Qd (Qx (Xh Z Z (Qv Yh h2.at Z) E ?_))
   exact ⟨(⟨dx1.queue,dx1.staged,dx1.inputs ++ [dx4],dx1.cells,dx1.sums,dx1.black,dx1.caps,dx1.dones⟩ : Worker),(by first | omega | (simp only [Q6,List.length_append,List.length_cons,List.length_nil,List.length_take,List.length_set] at *;omega)),hcu,⟨_,Z,Worker.mkR (⟨dx1.queue,dx1.staged,dx1.inputs ++ [dx4],dx1.cells,dx1.sums,dx1.black,dx1.caps,dx1.dones⟩ : Worker) (RdD.widen (Own.rdD hw1) (by have:=E.size;omega) (by omega)) (RdD.widen (Own.rdD hw2) (by have:=E.size;omega) (by omega)) (RdD.widen (Own.rdD ho3) (by have:=E.size;omega) (by omega)) (RdD.widen (Own.rdD hw4) (by have:=E.size;omega) (by omega)) (RdD.widen (Own.rdD hw5) (by have:=E.size;omega) (by omega)) (RdD.widen (Own.rdD hw6) (by have:=E.size;omega) (by omega)) (RdD.widen (Own.rdD hw7) (by have:=E.size;omega) (by omega)) (RdD.widen (Own.rdD hw8) (by have:=E.size;omega) (by omega))⟩⟩
  ·have hc2n : ¬ dx2 = 1:=by first | (have h:=of_decide_eq_false hc2;omega) | (have h:=hc2;simp at h;omega)
   refine Qh (Qi [true,true] Z Z (Qa (Y9 Z Z) Z (Qa (Qe Z) Z (Qd (Qt Z (fun hc3=>?_) (fun hc3=>?_))))))
   ·have hc3n : dx2 = 2:=by first | (have h:=of_decide_eq_true hc3;omega) | (have h:=hc3;simp at h;omega)
    refine Ga Xd [0,2,5] [(0,true),(1,true),(2,true),(3,false),(4,true),(5,true)] [(6,false)] (by decide +kernel) Z Z (fun w'=>ModR w w' lo (lo + 1) ∧ w6.heap.size ≤ w'.heap.size ∧ CurO w' lo vb bs ∧ Blk w' b1 ([og,.int .i64 g.workers,.int .i64 g.cap]) ∧ Blk w' b2 [.slice none 0 0,.slice none 0 0,.slice none 0 0,.slice none 0 0,.slice none 0 0,.slice none 0 0,.slice none 0 0,.slice none 0 0] ∧ Own w' w2.heap.size w3.heap.size 5 o1 (List.flatMap (Enc.enc (α:=Record)) dx1.queue) ∧ Own w' w2.heap.size w3.heap.size 5 o2 (List.flatMap (Enc.enc (α:=Record)) dx1.staged) ∧ Own w' w2.heap.size w3.heap.size 5 o3 (List.flatMap (Enc.enc (α:=Record)) dx1.inputs) ∧ Own w' w2.heap.size w3.heap.size 4 o4 (List.flatMap (Enc.enc (α:=Cell)) dx1.cells) ∧ Own w' w2.heap.size w3.heap.size 1 o5 (List.flatMap (Enc.enc (α:=Int)) dx1.sums) ∧ Own w' w2.heap.size w3.heap.size 1 o6 (List.flatMap (Enc.enc (α:=Bool)) dx1.black) ∧ Own w' w2.heap.size w3.heap.size 1 o7 (List.flatMap (Enc.enc (α:=Bool)) dx1.caps) ∧ Own w' w2.heap.size w3.heap.size 2 o8 (List.flatMap (Enc.enc (α:=Done)) dx1.dones) ∧ Blk w' b3 [o1,o2,o3,o4,o5,o6,o7,o8]) (fun w19 e12=>?_)
    replace E:=E.ext e12;replace hcu:=hcu.ext e12;replace h1:=h1.ext e12;replace h2:=h2.ext e12;replace hw1:=hw1.ext e12;replace hw2:=hw2.ext e12;replace hw3:=hw3.ext e12;replace hw4:=hw4.ext e12;replace hw5:=hw5.ext e12;replace hw6:=hw6.ext e12;replace hw7:=hw7.ext e12;replace hw8:=hw8.ext e12;replace h3:=h3.ext e12
    have z19:=e12.size
    refine ⟨⟨E,(by omega),hcu,h1,h2,hw1,hw2,hw3,hw4,hw5,hw6,hw7,hw8,h3⟩,?_⟩
    refine Kw Z (fun wX=>Qf Un Z) Z ?_
    refine U2 rfl (fun wX hX=>by obtain ⟨E,zX,hcu,h1,h2,hw1,hw2,hw3,hw4,hw5,hw6,hw7,hw8,h3⟩:=hX;exact Qk Uc rfl (h3.one 4 rfl)) rfl ?_
    refine Kw Z (fun wX=>Qb Z) Z ?_
    refine K7 Z ?_
    refine Yf Tryz.call66 Z Z (s_l01Below lo vb bs 4 _ hcu (RdD.modR hbs E (.inl (Nat.le_refl _)))) Z (fun _ w20 e13 hv=>?_)
    obtain ⟨dx5,q5,q6,hcu',hv⟩:=hv
    replace hcu:=hcu'
    subst hv
    replace E:=E.trans e13 (by omega) (by omega);replace h1:=h1.modR e13 (by omega);replace h2:=h2.modR e13 (by omega);replace hw1:=hw1.modR e13 (by omega);replace hw2:=hw2.modR e13 (by omega);replace hw3:=hw3.modR e13 (by omega);replace hw4:=hw4.modR e13 (by omega);replace hw5:=hw5.modR e13 (by omega);replace hw6:=hw6.modR e13 (by omega);replace hw7:=hw7.modR e13 (by omega);replace hw8:=hw8.modR e13 (by omega);replace h3:=h3.modR e13 (by omega)
    have z20:=e13.size
    refine Xx ⟨E,(by omega),hcu,h1,h2,hw1,hw2,hw3,hw4,hw5,hw6,hw7,hw8,h3⟩ ?_
    have hk1 : dx5 ≤ dx1.sums.length:=by first | assumption | omega
    have hs1 : RdD (α:=Int) w20 w2.heap.size w3.heap.size (slTo o5 dx5) (List.take dx5 dx1.sums):=RdB.slTo (Own.rdD hw5) hk1
    refine U2 rfl (fun wX hX=>by obtain ⟨E,zX,hcu,h1,h2,hw1,hw2,hw3,hw4,hw5,hw6,hw7,hw8,h3⟩:=hX;exact Ck Kd rfl rfl (RdL.room (Own.rdD hw5).1) hk1) rfl ?_
    refine Kw Z (fun wX=>Qf Un Z) Z ?_
    refine Gc ?_
    refine Xf (cs':=[o1,o2,o3,o4,slTo o5 dx5,o6,o7,o8]) Uc Z Z (RdD.one hs1) h3 (Nat.le_of_ble_eq_true Z) Z (fun w21 m8 h3'=>?_)
    replace h3:=h3'
    replace E:=E.mod m8 (fun g hg=>by cases hg;omega);replace hcu:=hcu.mod m8 (fun g hg=>by cases hg;omega);replace h1:=h1.mod m8 (fun g hg=>by cases hg;omega);replace h2:=h2.mod m8 (fun g hg=>by cases hg;omega);replace hw1:=hw1.mod m8 (fun g hg=>by cases hg;omega);replace hw2:=hw2.mod m8 (fun g hg=>by cases hg;omega);replace hw3:=hw3.mod m8 (fun g hg=>by cases hg;omega);replace hw4:=hw4.mod m8 (fun g hg=>by cases hg;omega);replace hw5:=hw5.mod m8 (fun g hg=>by cases hg;omega);replace hw6:=hw6.mod m8 (fun g hg=>by cases hg;omega);replace hw7:=hw7.mod m8 (fun g hg=>by cases hg;omega);replace hw8:=hw8.mod m8 (fun g hg=>by cases hg;omega);replace hs1:=hs1.mod m8 (fun g hg=>by cases hg;omega)
    have z21:=m8.size
    refine Qd (Q4 (Yn (Qh (Qi [true,false] Z Z (Qa (Ql Yh Z h3.at Z) Z (Qs (cs':=[o1,o2,o3,o4,slTo o5 dx5,o6,o7,o8]) Yh Z Z Z (Qg hw1.one (Qg hw2.one (Qg hw3.one (Qg hw4.one (Qg (RdD.one hs1) (Qg hw6.one (Qg hw7.one (Qg hw8.one Z)))))))) h2 (Nat.le_of_ble_eq_true Z) Z (fun w22 m9 h2'=>?_)))))))
    replace h2:=h2'
    replace E:=E.mod m9 (fun g hg=>by cases hg;omega);replace hcu:=hcu.mod m9 (fun g hg=>by cases hg;omega);replace h1:=h1.mod m9 (fun g hg=>by cases hg;omega);replace hw1:=hw1.mod m9 (fun g hg=>by cases hg;omega);replace hw2:=hw2.mod m9 (fun g hg=>by cases hg;omega);replace hw3:=hw3.mod m9 (fun g hg=>by cases hg;omega);replace hw4:=hw4.mod m9 (fun g hg=>by cases hg;omega);replace hw5:=hw5.mod m9 (fun g hg=>by cases hg;omega);replace hw6:=hw6.mod m9 (fun g hg=>by cases hg;omega);replace hw7:=hw7.mod m9 (fun g hg=>by cases hg;omega);replace hw8:=hw8.mod m9 (fun g hg=>by cases hg;omega);replace h3:=h3.mod m9 (fun g hg=>by cases hg;omega);replace hs1:=hs1.mod m9 (fun g hg=>by cases hg;omega)
    have z22:=m9.size
    refine Qd (Qx (Xh Z Z (Qv Yh h2.at Z) E ?_))
    exact ⟨(⟨dx1.queue,dx1.staged,dx1.inputs,dx1.cells,List.take dx5 dx1.sums,dx1.black,dx1.caps,dx1.dones⟩ : Worker),(by first | omega | (simp only [Q6,List.length_append,List.length_cons,List.length_nil,List.length_take,List.length_set] at *;omega)),hcu,⟨_,Z,Worker.mkR (⟨dx1.queue,dx1.staged,dx1.inputs,dx1.cells,List.take dx5 dx1.sums,dx1.black,dx1.caps,dx1.dones⟩ : Worker) (RdD.widen (Own.rdD hw1) (by have:=E.size;omega) (by omega)) (RdD.widen (Own.rdD hw2) (by have:=E.size;omega) (by omega)) (RdD.widen (Own.rdD hw3) (by have:=E.size;omega) (by omega)) (RdD.widen (Own.rdD hw4) (by have:=E.size;omega) (by omega)) (RdD.widen hs1 (by have:=E.size;omega) (by omega)) (RdD.widen (Own.rdD hw6) (by have:=E.size;omega) (by omega)) (RdD.widen (Own.rdD hw7) (by have:=E.size;omega) (by omega)) (RdD.widen (Own.rdD hw8) (by have:=E.size;omega) (by omega))⟩⟩
   ·have hc3n : ¬ dx2 = 2:=by first | (have h:=of_decide_eq_false hc3;omega) | (have h:=hc3;simp at h;omega)
    refine Qh (Qi [true,true] Z Z (Qa (Y9 Z Z) Z (Qa (Qe Z) Z (Qd (Qt Z (fun hc4=>?_) (fun hc4=>?_))))))
    ·have hc4n : dx2 = 3:=by first | (have h:=of_decide_eq_true hc4;omega) | (have h:=hc4;simp at h;omega)
     refine Ga Xd [0,2] [(0,true),(1,true),(2,true),(3,false),(4,false),(5,true)] [(6,false)] (by decide +kernel) Z Z (fun w'=>ModR w w' lo (lo + 1) ∧ w6.heap.size ≤ w'.heap.size ∧ CurO w' lo vb bs ∧ Blk w' b1 ([og,.int .i64 g.workers,.int .i64 g.cap]) ∧ Blk w' b2 [.slice none 0 0,.slice none 0 0,.slice none 0 0,.slice none 0 0,.slice none 0 0,.slice none 0 0,.slice none 0 0,.slice none 0 0] ∧ Own w' w2.heap.size w3.heap.size 5 o1 (List.flatMap (Enc.enc (α:=Record)) dx1.queue) ∧ Own w' w2.heap.size w3.heap.size 5 o2 (List.flatMap (Enc.enc (α:=Record)) dx1.staged) ∧ Own w' w2.heap.size w3.heap.size 5 o3 (List.flatMap (Enc.enc (α:=Record)) dx1.inputs) ∧ Own w' w2.heap.size w3.heap.size 4 o4 (List.flatMap (Enc.enc (α:=Cell)) dx1.cells) ∧ Own w' w2.heap.size w3.heap.size 1 o5 (List.flatMap (Enc.enc (α:=Int)) dx1.sums) ∧ Own w' w2.heap.size w3.heap.size 1 o6 (List.flatMap (Enc.enc (α:=Bool)) dx1.black) ∧ Own w' w2.heap.size w3.heap.size 1 o7 (List.flatMap (Enc.enc (α:=Bool)) dx1.caps) ∧ Own w' w2.heap.size w3.heap.size 2 o8 (List.flatMap (Enc.enc (α:=Done)) dx1.dones) ∧ Blk w' b3 [o1,o2,o3,o4,o5,o6,o7,o8]) (fun w23 e14=>?_)
     replace E:=E.ext e14;replace hcu:=hcu.ext e14;replace h1:=h1.ext e14;replace h2:=h2.ext e14;replace hw1:=hw1.ext e14;replace hw2:=hw2.ext e14;replace hw3:=hw3.ext e14;replace hw4:=hw4.ext e14;replace hw5:=hw5.ext e14;replace hw6:=hw6.ext e14;replace hw7:=hw7.ext e14;replace hw8:=hw8.ext e14;replace h3:=h3.ext e14
     have z23:=e14.size
     refine ⟨⟨E,(by omega),hcu,h1,h2,hw1,hw2,hw3,hw4,hw5,hw6,hw7,hw8,h3⟩,?_⟩
     refine Kw Z (fun wX=>Qf Un Z) Z ?_
     refine U2 rfl (fun wX hX=>by obtain ⟨E,zX,hcu,h1,h2,hw1,hw2,hw3,hw4,hw5,hw6,hw7,hw8,h3⟩:=hX;exact Qk Uc rfl (h3.one 4 rfl)) rfl ?_
     refine Kw Z (fun wX=>Qb Z) Z ?_
     refine K7 Z ?_
     refine Qz (vs:=[.int .i64 1000000,.int .i64 1000001,.int .i64 (-1000001)]) (css:=[[.int .i64 1000000],[.int .i64 1000001],[.int .i64 (-1000001)]]) Kd Z Z ⟨⟨Z,Z⟩,⟨Z,Z⟩,⟨Z,Z⟩,trivial⟩ Z Z (fun b6 w24 e15 s6 h6=>?_)
     replace h6 : Blk w24 b6 [.int .i64 1000000,.int .i64 1000001,.int .i64 (-1000001)]:=h6
     have g_b6 : w.heap.size ≤ b6:=by have:=E.size;omega
     have y_b6:=h6.lt
     replace E:=E.ext e15;replace hcu:=hcu.ext e15;replace h1:=h1.ext e15;replace h2:=h2.ext e15;replace hw1:=hw1.ext e15;replace hw2:=hw2.ext e15;replace hw3:=hw3.ext e15;replace hw4:=hw4.ext e15;replace hw5:=hw5.ext e15;replace hw6:=hw6.ext e15;replace hw7:=hw7.ext e15;replace hw8:=hw8.ext e15;replace h3:=h3.ext e15
     have z24:=e15.size
     refine Xx ⟨E,(by omega),hcu,h1,h2,hw1,hw2,hw3,hw4,hw5,hw6,hw7,hw8,h3⟩ ?_
     refine K7 Z ?_
     refine Yf Tryz.call70 Z Z (s_l01PickInt lo vb bs (.slice (some ⟨b6,0,none⟩) 3 3) [1000000,1000001,(-1000001)] _ hcu (RdD.modR hbs E (.inl (Nat.le_refl _))) (fun wX eX=>(Blk.rd (α:=Int) (xs:=[1000000,1000001,(-1000001)]) (by decide) (Blk.modR h6 eX (by omega)) Z (by simp [maxLen]))) (by decide)) Z (fun _ w25 e16 hv=>?_)
     obtain ⟨dx6,q7,hcu',hv⟩:=hv
     replace hcu:=hcu'
     subst hv
     replace E:=E.trans e16 (by omega) (by omega);replace h1:=h1.modR e16 (by omega);replace h2:=h2.modR e16 (by omega);replace hw1:=hw1.modR e16 (by omega);replace hw2:=hw2.modR e16 (by omega);replace hw3:=hw3.modR e16 (by omega);replace hw4:=hw4.modR e16 (by omega);replace hw5:=hw5.modR e16 (by omega);replace hw6:=hw6.modR e16 (by omega);replace hw7:=hw7.modR e16 (by omega);replace hw8:=hw8.modR e16 (by omega);replace h3:=h3.modR e16 (by omega);replace h6:=h6.modR e16 (by omega)
     have z25:=e16.size
     refine Xx ⟨E,(by omega),hcu,h1,h2,hw1,hw2,hw3,hw4,hw5,hw6,hw7,hw8,h3⟩ ?_
     have hi1 : 0 < dx1.sums.length:=(by first | assumption | omega | (simp only [List.length_set];first | assumption | omega) | (simp only [List.getElem_set_self,List.length_set];first | assumption | omega) | (simp only [Y3,Yj,List.length_set];first | assumption | omega) | (simp;done))
     refine U2 rfl (fun wX hX=>by obtain ⟨E,zX,hcu,h1,h2,hw1,hw2,hw3,hw4,hw5,hw6,hw7,hw8,h3⟩:=hX;exact Q5 (i:=0) Kd rfl rfl (Own.rd (by decide) hw5) hi1) rfl ?_
     refine Gc ?_
     refine Gb (α:=Int) (i:=0) (f:=0) dx6 Xi Z Z Z Z hw5 hi1 (by decide) Z (fun w26 m10 hw5'=>?_)
     have hq:=Own.blk hw5
     replace hw5:=hw5'
     replace E:=E.mod m10 (fun g hg=>by have:=hq g hg;omega);replace hcu:=hcu.mod m10 (fun g hg=>by have:=hq g hg;omega);replace h1:=h1.mod m10 (fun g hg=>by have:=hq g hg;omega);replace h2:=h2.mod m10 (fun g hg=>by have:=hq g hg;omega);replace hw1:=Own.modS hw1 m10 (sp1.1.2.2.2.1).symm;replace hw2:=Own.modS hw2 m10 (sp1.2.1.2.2.1).symm;replace hw3:=Own.modS hw3 m10 (sp1.2.2.1.2.1).symm;replace hw4:=Own.modS hw4 m10 (sp1.2.2.2.1.1).symm;replace hw6:=Own.modS hw6 m10 sp1.2.2.2.2.1.1;replace hw7:=Own.modS hw7 m10 sp1.2.2.2.2.1.2.1;replace hw8:=Own.modS hw8 m10 sp1.2.2.2.2.1.2.2.1;replace h3:=h3.mod m10 (fun g hg=>by have:=hq g hg;omega);replace h6:=h6.mod m10 (fun g hg=>by have:=hq g hg;omega)
     have z26:=m10.size
     clear hq
     refine Qd (Q4 (Yn (Qh (Qi [true,false] Z Z (Qa (Ql Yh Z h3.at Z) Z (Qs (cs':=[o1,o2,o3,o4,o5,o6,o7,o8]) Yh Z Z Z (Qg hw1.one (Qg hw2.one (Qg hw3.one (Qg hw4.one (Qg hw5.one (Qg hw6.one (Qg hw7.one (Qg hw8.one Z)))))))) h2 (Nat.le_of_ble_eq_true Z) Z (fun w27 m11 h2'=>?_)))))))
     replace h2:=h2'
     replace E:=E.mod m11 (fun g hg=>by cases hg;omega);replace hcu:=hcu.mod m11 (fun g hg=>by cases hg;omega);replace h1:=h1.mod m11 (fun g hg=>by cases hg;omega);replace hw1:=hw1.mod m11 (fun g hg=>by cases hg;omega);replace hw2:=hw2.mod m11 (fun g hg=>by cases hg;omega);replace hw3:=hw3.mod m11 (fun g hg=>by cases hg;omega);replace hw4:=hw4.mod m11 (fun g hg=>by cases hg;omega);replace hw6:=hw6.mod m11 (fun g hg=>by cases hg;omega);replace hw7:=hw7.mod m11 (fun g hg=>by cases hg;omega);replace hw8:=hw8.mod m11 (fun g hg=>by cases hg;omega);replace h3:=h3.mod m11 (fun g hg=>by cases hg;omega);replace h6:=h6.mod m11 (fun g hg=>by cases hg;omega);replace hw5:=hw5.mod m11 (fun g hg=>by cases hg;omega)
     have z27:=m11.size
     refine Qd (Qx (Xh Z Z (Qv Yh h2.at Z) E ?_))
     exact ⟨(⟨dx1.queue,dx1.staged,dx1.inputs,dx1.cells,List.set dx1.sums 0 dx6,dx1.black,dx1.caps,dx1.dones⟩ : Worker),(by first | omega | (simp only [Q6,List.length_append,List.length_cons,List.length_nil,List.length_take,List.length_set] at *;omega)),hcu,⟨_,Z,Worker.mkR (⟨dx1.queue,dx1.staged,dx1.inputs,dx1.cells,List.set dx1.sums 0 dx6,dx1.black,dx1.caps,dx1.dones⟩ : Worker) (RdD.widen (Own.rdD hw1) (by have:=E.size;omega) (by omega)) (RdD.widen (Own.rdD hw2) (by have:=E.size;omega) (by omega)) (RdD.widen (Own.rdD hw3) (by have:=E.size;omega) (by omega)) (RdD.widen (Own.rdD hw4) (by have:=E.size;omega) (by omega)) (RdD.widen (Own.rdD hw5) (by have:=E.size;omega) (by omega)) (RdD.widen (Own.rdD hw6) (by have:=E.size;omega) (by omega)) (RdD.widen (Own.rdD hw7) (by have:=E.size;omega) (by omega)) (RdD.widen (Own.rdD hw8) (by have:=E.size;omega) (by omega))⟩⟩
    ·have hc4n : ¬ dx2 = 3:=by first | (have h:=of_decide_eq_false hc4;omega) | (have h:=hc4;simp at h;omega)
     refine Qh (Qi [true,true] Z Z (Qa (Y9 Z Z) Z (Qa (Qe Z) Z (Qd (Qt Z (fun hc5=>?_) (fun hc5=>?_))))))
     ·have hc5n : dx2 = 4:=by first | (have h:=of_decide_eq_true hc5;omega) | (have h:=hc5;simp at h;omega)
      refine Ga Xd [0,2,4,5,8] [(0,true),(1,true),(2,true),(3,false),(4,true),(5,true),(6,false),(7,false),(8,true)] [(9,false)] (by decide +kernel) Z Z (fun w'=>ModR w w' lo (lo + 1) ∧ w6.heap.size ≤ w'.heap.size ∧ CurO w' lo vb bs ∧ Blk w' b1 ([og,.int .i64 g.workers,.int .i64 g.cap]) ∧ Blk w' b2 [.slice none 0 0,.slice none 0 0,.slice none 0 0,.slice none 0 0,.slice none 0 0,.slice none 0 0,.slice none 0 0,.slice none 0 0] ∧ Own w' w2.heap.size w3.heap.size 5 o1 (List.flatMap (Enc.enc (α:=Record)) dx1.queue) ∧ Own w' w2.heap.size w3.heap.size 5 o2 (List.flatMap (Enc.enc (α:=Record)) dx1.staged) ∧ Own w' w2.heap.size w3.heap.size 5 o3 (List.flatMap (Enc.enc (α:=Record)) dx1.inputs) ∧ Own w' w2.heap.size w3.heap.size 4 o4 (List.flatMap (Enc.enc (α:=Cell)) dx1.cells) ∧ Own w' w2.heap.size w3.heap.size 1 o5 (List.flatMap (Enc.enc (α:=Int)) dx1.sums) ∧ Own w' w2.heap.size w3.heap.size 1 o6 (List.flatMap (Enc.enc (α:=Bool)) dx1.black) ∧ Own w' w2.heap.size w3.heap.size 1 o7 (List.flatMap (Enc.enc (α:=Bool)) dx1.caps) ∧ Blk w' b3 [o1,o2,o3,o4,o5,o6,o7,o8]) (fun w28 e17=>?_)
      replace E:=E.ext e17;replace hcu:=hcu.ext e17;replace h1:=h1.ext e17;replace h2:=h2.ext e17;replace hw1:=hw1.ext e17;replace hw2:=hw2.ext e17;replace hw3:=hw3.ext e17;replace hw4:=hw4.ext e17;replace hw5:=hw5.ext e17;replace hw6:=hw6.ext e17;replace hw7:=hw7.ext e17;replace hw8:=hw8.ext e17;replace h3:=h3.ext e17
      have z28:=e17.size
      refine ⟨⟨E,(by omega),hcu,h1,h2,hw1,hw2,hw3,hw4,hw5,hw6,hw7,h3⟩,?_⟩
      refine Kw Z (fun wX=>Qf Um Z) Z ?_
      refine U2 rfl (fun wX hX=>by obtain ⟨E,zX,hcu,h1,h2,hw1,hw2,hw3,hw4,hw5,hw6,hw7,h3⟩:=hX;exact Qk Hh rfl (h3.one 7 rfl)) rfl ?_
      refine Kw Z (fun wX=>Qb Z) Z ?_
      refine K7 Z ?_
      refine Yf Tryz.call66 Z Z (s_l01Below lo vb bs 6 _ hcu (RdD.modR hbs E (.inl (Nat.le_refl _)))) Z (fun _ w29 e18 hv=>?_)
      obtain ⟨dx7,q8,q9,hcu',hv⟩:=hv
      replace hcu:=hcu'
      subst hv
      replace E:=E.trans e18 (by omega) (by omega);replace h1:=h1.modR e18 (by omega);replace h2:=h2.modR e18 (by omega);replace hw1:=hw1.modR e18 (by omega);replace hw2:=hw2.modR e18 (by omega);replace hw3:=hw3.modR e18 (by omega);replace hw4:=hw4.modR e18 (by omega);replace hw5:=hw5.modR e18 (by omega);replace hw6:=hw6.modR e18 (by omega);replace hw7:=hw7.modR e18 (by omega);replace hw8:=hw8.modR e18 (by omega);replace h3:=h3.modR e18 (by omega)
      have z29:=e18.size
      refine Xx ⟨E,(by omega),hcu,h1,h2,hw1,hw2,hw3,hw4,hw5,hw6,hw7,h3⟩ ?_
      refine Kw Z (fun wX=>Gh Z Z Z) Z ?_
      refine Kw Z (fun wX=>Kv (⟨IntKind.i64.wrap (((dx7 : Nat) : Int) - 1),false⟩ : Done) Z (fun _=>by kernel_rfl)) Z ?_
      refine K7 Z ?_
      refine Qz (vs:=[.agg (Enc.enc (⟨IntKind.i64.wrap (((dx7 : Nat) : Int) - 1),false⟩ : Done)).toArray]) (css:=[[.int .i64 ((⟨IntKind.i64.wrap (((dx7 : Nat) : Int) - 1),false⟩ : Done).epoch),.bool ((⟨IntKind.i64.wrap (((dx7 : Nat) : Int) - 1),false⟩ : Done).capped)]]) H1 Z Z ⟨⟨Z,Z⟩,trivial⟩ Z Z (fun b7 w30 e19 s7 h7=>?_)
      replace h7 : Blk w30 b7 [.int .i64 ((⟨IntKind.i64.wrap (((dx7 : Nat) : Int) - 1),false⟩ : Done).epoch),.bool ((⟨IntKind.i64.wrap (((dx7 : Nat) : Int) - 1),false⟩ : Done).capped)]:=h7
      have g_b7 : w.heap.size ≤ b7:=by have:=E.size;omega
      have y_b7:=h7.lt
      replace E:=E.ext e19;replace hcu:=hcu.ext e19;replace h1:=h1.ext e19;replace h2:=h2.ext e19;replace hw1:=hw1.ext e19;replace hw2:=hw2.ext e19;replace hw3:=hw3.ext e19;replace hw4:=hw4.ext e19;replace hw5:=hw5.ext e19;replace hw6:=hw6.ext e19;replace hw7:=hw7.ext e19;replace hw8:=hw8.ext e19;replace h3:=h3.ext e19
      have z30:=e19.size
      refine Xx ⟨E,(by omega),hcu,h1,h2,hw1,hw2,hw3,hw4,hw5,hw6,hw7,h3⟩ ?_
      refine K7 Z ?_
      refine Ka H1 Z Z hw8 (Src.ofBlk h7 Z) Z (by unfold Q6 at q1;simp only [Ya,List.length_cons,List.length_nil];simp only [Enc.sz];omega) (by decide) (by omega) (by omega) Z Z (fun v3 w31 m12 ho4 hb3=>?_)
      have hn3 : ∀ g,Value.ownBlock v3 = some g → g < w3.heap.size ∨ w30.heap.size ≤ g:=fun g hg=>(hb3 g hg).elim (fun h=>.inl (by have:=Own.blk hw8 g h;omega)) (fun h=>.inr h)
      have sq3:=sp1
      replace sp1:=SepL.set hb3 7 rfl sp1 ⟨(Own.lt hw1),(Own.lt hw2),(Own.lt hw3),(Own.lt hw4),(Own.lt hw5),(Own.lt hw6),(Own.lt hw7),(Own.lt hw8),trivial⟩
      replace sp1 : SepL [o1,o2,o3,o4,o5,o6,o7,v3]:=sp1
      replace E:=E.mod m12 (fun g hg=>by have:=Own.blk hw8 g hg;omega);replace hcu:=hcu.mod m12 (fun g hg=>by have:=Own.blk hw8 g hg;omega);replace h1:=h1.mod m12 (fun g hg=>by have:=Own.blk hw8 g hg;omega);replace h2:=h2.mod m12 (fun g hg=>by have:=Own.blk hw8 g hg;omega);replace hw1:=Own.modS hw1 m12 (sq3.1.2.2.2.2.2.2.1).symm;replace hw2:=Own.modS hw2 m12 (sq3.2.1.2.2.2.2.2.1).symm;replace hw3:=Own.modS hw3 m12 (sq3.2.2.1.2.2.2.2.1).symm;replace hw4:=Own.modS hw4 m12 (sq3.2.2.2.1.2.2.2.1).symm;replace hw5:=Own.modS hw5 m12 (sq3.2.2.2.2.1.2.2.1).symm;replace hw6:=Own.modS hw6 m12 (sq3.2.2.2.2.2.1.2.1).symm;replace hw7:=Own.modS hw7 m12 (sq3.2.2.2.2.2.2.1.1).symm;replace h3:=h3.mod m12 (fun g hg=>by have:=Own.blk hw8 g hg;omega)
      have z31:=m12.size
      replace ho4 : Own w31 w2.heap.size w31.heap.size 2 v3 (List.flatMap (Enc.enc (α:=Done)) (dx1.dones ++ [(⟨IntKind.i64.wrap (((dx7 : Nat) : Int) - 1),false⟩ : Done)])):=by rw [List.flatMap_append];exact ho4
      refine Xx ⟨E,(by omega),hcu,h1,h2,hw1,hw2,hw3,hw4,hw5,hw6,hw7,h3⟩ ?_
      refine Kw Z (fun wX=>Qf Um Z) Z ?_
      refine Gc ?_
      refine Xf (cs':=[o1,o2,o3,o4,o5,o6,o7,v3]) Hh Z Z ho4.one h3 (Nat.le_of_ble_eq_true Z) Z (fun w32 m13 h3'=>?_)
      replace h3:=h3'
      replace E:=E.mod m13 (fun g hg=>by cases hg;omega);replace hcu:=hcu.mod m13 (fun g hg=>by cases hg;omega);replace h1:=h1.mod m13 (fun g hg=>by cases hg;omega);replace h2:=h2.mod m13 (fun g hg=>by cases hg;omega);replace hw1:=hw1.mod m13 (fun g hg=>by cases hg;omega);replace hw2:=hw2.mod m13 (fun g hg=>by cases hg;omega);replace hw3:=hw3.mod m13 (fun g hg=>by cases hg;omega);replace hw4:=hw4.mod m13 (fun g hg=>by cases hg;omega);replace hw5:=hw5.mod m13 (fun g hg=>by cases hg;omega);replace hw6:=hw6.mod m13 (fun g hg=>by cases hg;omega);replace hw7:=hw7.mod m13 (fun g hg=>by cases hg;omega);replace ho4:=Own.modN ho4 m13 (fun g hg hv=>by have hN:=hn3 g hv;have hB:=Own.blk ho4 g hv;cases hg;omega)
      have z32:=m13.size
      refine Qd (Q4 (Yn (Qh (Qi [true,false] Z Z (Qa (Ql Yh Z h3.at Z) Z (Qs (cs':=[o1,o2,o3,o4,o5,o6,o7,v3]) Yh Z Z Z (Qg hw1.one (Qg hw2.one (Qg hw3.one (Qg hw4.one (Qg hw5.one (Qg hw6.one (Qg hw7.one (Qg ho4.one Z)))))))) h2 (Nat.le_of_ble_eq_true Z) Z (fun w33 m14 h2'=>?_)))))))
      replace h2:=h2'
      replace E:=E.mod m14 (fun g hg=>by cases hg;omega);replace hcu:=hcu.mod m14 (fun g hg=>by cases hg;omega);replace h1:=h1.mod m14 (fun g hg=>by cases hg;omega);replace hw1:=hw1.mod m14 (fun g hg=>by cases hg;omega);replace hw2:=hw2.mod m14 (fun g hg=>by cases hg;omega);replace hw3:=hw3.mod m14 (fun g hg=>by cases hg;omega);replace hw4:=hw4.mod m14 (fun g hg=>by cases hg;omega);replace hw5:=hw5.mod m14 (fun g hg=>by cases hg;omega);replace hw6:=hw6.mod m14 (fun g hg=>by cases hg;omega);replace hw7:=hw7.mod m14 (fun g hg=>by cases hg;omega);replace h3:=h3.mod m14 (fun g hg=>by cases hg;omega);replace ho4:=Own.modN ho4 m14 (fun g hg hv=>by have hN:=hn3 g hv;have hB:=Own.blk ho4 g hv;cases hg;omega)
      have z33:=m14.size
      refine Qd (Qx (Xh Z Z (Qv Yh h2.at Z) E ?_))
      exact ⟨(⟨dx1.queue,dx1.staged,dx1.inputs,dx1.cells,dx1.sums,dx1.black,dx1.caps,dx1.dones ++ [(⟨IntKind.i64.wrap (((dx7 : Nat) : Int) - 1),false⟩ : Done)]⟩ : Worker),(by first | omega | (simp only [Q6,List.length_append,List.length_cons,List.length_nil,List.length_take,List.length_set] at *;omega)),hcu,⟨_,Z,Worker.mkR (⟨dx1.queue,dx1.staged,dx1.inputs,dx1.cells,dx1.sums,dx1.black,dx1.caps,dx1.dones ++ [(⟨IntKind.i64.wrap (((dx7 : Nat) : Int) - 1),false⟩ : Done)]⟩ : Worker) (RdD.widen (Own.rdD hw1) (by have:=E.size;omega) (by omega)) (RdD.widen (Own.rdD hw2) (by have:=E.size;omega) (by omega)) (RdD.widen (Own.rdD hw3) (by have:=E.size;omega) (by omega)) (RdD.widen (Own.rdD hw4) (by have:=E.size;omega) (by omega)) (RdD.widen (Own.rdD hw5) (by have:=E.size;omega) (by omega)) (RdD.widen (Own.rdD hw6) (by have:=E.size;omega) (by omega)) (RdD.widen (Own.rdD hw7) (by have:=E.size;omega) (by omega)) (RdD.widen (Own.rdD ho4) (by have:=E.size;omega) (by omega))⟩⟩
     ·have hc5n : ¬ dx2 = 4:=by first | (have h:=of_decide_eq_false hc5;omega) | (have h:=hc5;simp at h;omega)
      refine Qh (Qi [true,true] Z Z (Qa (Y9 Z Z) Z (Qa (Qe Z) Z (Qd (Qt Z (fun hc6=>?_) (fun hc6=>?_))))))
      ·have hc6n : dx2 = 5:=by first | (have h:=of_decide_eq_true hc6;omega) | (have h:=hc6;simp at h;omega)
       refine Qi [true,true,false,true,false,true,false] Z Z (Qa (Kv (⟨1,false⟩ : Done) Z (fun _=>by kernel_rfl)) Z (Qa (Qb Z) Z (Yf Tryz.call66 Z Z (s_l01Below lo vb bs 2 _ hcu (RdD.modR hbs E (.inl (Nat.le_refl _)))) Z (fun _ w34 e20 hv=>?_))))
       obtain ⟨dx8,q10,q11,hcu',hv⟩:=hv
       replace hcu:=hcu'
       subst hv
       replace E:=E.trans e20 (by omega) (by omega);replace h1:=h1.modR e20 (by omega);replace h2:=h2.modR e20 (by omega);replace hw1:=hw1.modR e20 (by omega);replace hw2:=hw2.modR e20 (by omega);replace hw3:=hw3.modR e20 (by omega);replace hw4:=hw4.modR e20 (by omega);replace hw5:=hw5.modR e20 (by omega);replace hw6:=hw6.modR e20 (by omega);replace hw7:=hw7.modR e20 (by omega);replace hw8:=hw8.modR e20 (by omega);replace h3:=h3.modR e20 (by omega)
       have z34:=e20.size
       refine Qa (Kv (⟨((dx8 : Nat) : Int),true⟩ : Done) Z (fun _=>by kernel_rfl)) Z (Qz (vs:=[.agg (Enc.enc (⟨1,false⟩ : Done)).toArray,.agg (Enc.enc (⟨((dx8 : Nat) : Int),true⟩ : Done)).toArray]) (css:=[[.int .i64 ((⟨1,false⟩ : Done).epoch),.bool ((⟨1,false⟩ : Done).capped)],[.int .i64 ((⟨((dx8 : Nat) : Int),true⟩ : Done).epoch),.bool ((⟨((dx8 : Nat) : Int),true⟩ : Done).capped)]]) H1 Z Z ⟨⟨Z,Z⟩,⟨Z,Z⟩,trivial⟩ Z Z (fun b8 w35 e21 s8 h8=>?_))
       replace h8 : Blk w35 b8 [.int .i64 ((⟨1,false⟩ : Done).epoch),.bool ((⟨1,false⟩ : Done).capped),.int .i64 ((⟨((dx8 : Nat) : Int),true⟩ : Done).epoch),.bool ((⟨((dx8 : Nat) : Int),true⟩ : Done).capped)]:=h8
       have g_b8 : w.heap.size ≤ b8:=by have:=E.size;omega
       have y_b8:=h8.lt
       replace E:=E.ext e21;replace hcu:=hcu.ext e21;replace h1:=h1.ext e21;replace h2:=h2.ext e21;replace hw1:=hw1.ext e21;replace hw2:=hw2.ext e21;replace hw3:=hw3.ext e21;replace hw4:=hw4.ext e21;replace hw5:=hw5.ext e21;replace hw6:=hw6.ext e21;replace hw7:=hw7.ext e21;replace hw8:=hw8.ext e21;replace h3:=h3.ext e21
       have z35:=e21.size
       refine Qa (Qf Um Z) Z (Xf (cs':=[o1,o2,o3,o4,o5,o6,o7,.slice (some ⟨b8,0,none⟩) 2 2]) Hh Z Z Z h3 (Nat.le_of_ble_eq_true Z) Z (fun w36 m15 h3'=>?_))
       replace h3:=h3'
       replace E:=E.mod m15 (fun g hg=>by cases hg;omega);replace hcu:=hcu.mod m15 (fun g hg=>by cases hg;omega);replace h1:=h1.mod m15 (fun g hg=>by cases hg;omega);replace h2:=h2.mod m15 (fun g hg=>by cases hg;omega);replace hw1:=hw1.mod m15 (fun g hg=>by cases hg;omega);replace hw2:=hw2.mod m15 (fun g hg=>by cases hg;omega);replace hw3:=hw3.mod m15 (fun g hg=>by cases hg;omega);replace hw4:=hw4.mod m15 (fun g hg=>by cases hg;omega);replace hw5:=hw5.mod m15 (fun g hg=>by cases hg;omega);replace hw6:=hw6.mod m15 (fun g hg=>by cases hg;omega);replace hw7:=hw7.mod m15 (fun g hg=>by cases hg;omega);replace hw8:=hw8.mod m15 (fun g hg=>by cases hg;omega);replace h8:=h8.mod m15 (fun g hg=>by cases hg;omega)
       have z36:=m15.size
       refine Qd (Q4 (Yn (Qh (Qi [true,false] Z Z (Qa (Ql Yh Z h3.at Z) Z (Qs (cs':=[o1,o2,o3,o4,o5,o6,o7,.slice (some ⟨b8,0,none⟩) 2 2]) Yh Z Z Z (Qg hw1.one (Qg hw2.one (Qg hw3.one (Qg hw4.one (Qg hw5.one (Qg hw6.one (Qg hw7.one (Qg Z Z)))))))) h2 (Nat.le_of_ble_eq_true Z) Z (fun w37 m16 h2'=>?_)))))))
       replace h2:=h2'
       replace E:=E.mod m16 (fun g hg=>by cases hg;omega);replace hcu:=hcu.mod m16 (fun g hg=>by cases hg;omega);replace h1:=h1.mod m16 (fun g hg=>by cases hg;omega);replace hw1:=hw1.mod m16 (fun g hg=>by cases hg;omega);replace hw2:=hw2.mod m16 (fun g hg=>by cases hg;omega);replace hw3:=hw3.mod m16 (fun g hg=>by cases hg;omega);replace hw4:=hw4.mod m16 (fun g hg=>by cases hg;omega);replace hw5:=hw5.mod m16 (fun g hg=>by cases hg;omega);replace hw6:=hw6.mod m16 (fun g hg=>by cases hg;omega);replace hw7:=hw7.mod m16 (fun g hg=>by cases hg;omega);replace hw8:=hw8.mod m16 (fun g hg=>by cases hg;omega);replace h3:=h3.mod m16 (fun g hg=>by cases hg;omega);replace h8:=h8.mod m16 (fun g hg=>by cases hg;omega)
       have z37:=m16.size
       refine Qd (Qx (Xh Z Z (Qv Yh h2.at Z) E ?_))
       exact ⟨(⟨dx1.queue,dx1.staged,dx1.inputs,dx1.cells,dx1.sums,dx1.black,dx1.caps,[(⟨1,false⟩ : Done),(⟨((dx8 : Nat) : Int),true⟩ : Done)]⟩ : Worker),(by first | omega | (simp only [Q6,List.length_append,List.length_cons,List.length_nil,List.length_take,List.length_set] at *;omega)),hcu,⟨_,Z,Worker.mkR (⟨dx1.queue,dx1.staged,dx1.inputs,dx1.cells,dx1.sums,dx1.black,dx1.caps,[(⟨1,false⟩ : Done),(⟨((dx8 : Nat) : Int),true⟩ : Done)]⟩ : Worker) (RdD.widen (Own.rdD hw1) (by have:=E.size;omega) (by omega)) (RdD.widen (Own.rdD hw2) (by have:=E.size;omega) (by omega)) (RdD.widen (Own.rdD hw3) (by have:=E.size;omega) (by omega)) (RdD.widen (Own.rdD hw4) (by have:=E.size;omega) (by omega)) (RdD.widen (Own.rdD hw5) (by have:=E.size;omega) (by omega)) (RdD.widen (Own.rdD hw6) (by have:=E.size;omega) (by omega)) (RdD.widen (Own.rdD hw7) (by have:=E.size;omega) (by omega)) (RdD.widen (Own.rdD (Own.ofBlk (lo:=b8) (hi:=b8 + 1) (sz:=2) h8 (Nat.le_refl _) (Nat.lt_succ_self _) (by rfl) (by unfold maxLen;omega))) (by have:=E.size;omega) (by omega))⟩⟩
      ·have hc6n : ¬ dx2 = 5:=by first | (have h:=of_decide_eq_false hc6;omega) | (have h:=hc6;simp at h;omega)
       refine Qh (Qi [true,true] Z Z (Qa (Y9 Z Z) Z (Qa (Qe Z) Z (Qd (Qt Z (fun hc7=>?_) (fun hc7=>?_))))))
       ·have hc7n : dx2 = 6:=by first | (have h:=of_decide_eq_true hc7;omega) | (have h:=hc7;simp at h;omega)
        refine Qi [true,true,false,false,true,false] Z Z (Qa (Qf V4 Z) Z (Qa (Qk Gz Z (h3.one 5 Z)) Z (Qz (vs:=[.bool true]) (css:=[[.bool true]]) H2 Z Z ⟨⟨Z,Z⟩,trivial⟩ Z Z (fun b9 w38 e22 s9 h9=>?_))))
        replace h9 : Blk w38 b9 [.bool true]:=h9
        have g_b9 : w.heap.size ≤ b9:=by have:=E.size;omega
        have y_b9:=h9.lt
        replace E:=E.ext e22;replace hcu:=hcu.ext e22;replace h1:=h1.ext e22;replace h2:=h2.ext e22;replace hw1:=hw1.ext e22;replace hw2:=hw2.ext e22;replace hw3:=hw3.ext e22;replace hw4:=hw4.ext e22;replace hw5:=hw5.ext e22;replace hw6:=hw6.ext e22;replace hw7:=hw7.ext e22;replace hw8:=hw8.ext e22;replace h3:=h3.ext e22
        have z38:=e22.size
        refine Ka H2 Z Z hw6 (Src.ofBlk h9 Z) Z (by unfold Q6 at q1;simp only [Ya,List.length_cons,List.length_nil];simp only [Enc.sz];omega) (by decide) (by omega) (by omega) Z Z (fun v4 w39 m17 ho5 hb4=>?_)
        have hn4 : ∀ g,Value.ownBlock v4 = some g → g < w3.heap.size ∨ w38.heap.size ≤ g:=fun g hg=>(hb4 g hg).elim (fun h=>.inl (by have:=Own.blk hw6 g h;omega)) (fun h=>.inr h)
        have sq4:=sp1
        replace sp1:=SepL.set hb4 5 rfl sp1 ⟨(Own.lt hw1),(Own.lt hw2),(Own.lt hw3),(Own.lt hw4),(Own.lt hw5),(Own.lt hw6),(Own.lt hw7),(Own.lt hw8),trivial⟩
        replace sp1 : SepL [o1,o2,o3,o4,o5,v4,o7,o8]:=sp1
        replace E:=E.mod m17 (fun g hg=>by have:=Own.blk hw6 g hg;omega);replace hcu:=hcu.mod m17 (fun g hg=>by have:=Own.blk hw6 g hg;omega);replace h1:=h1.mod m17 (fun g hg=>by have:=Own.blk hw6 g hg;omega);replace h2:=h2.mod m17 (fun g hg=>by have:=Own.blk hw6 g hg;omega);replace hw1:=Own.modS hw1 m17 (sq4.1.2.2.2.2.1).symm;replace hw2:=Own.modS hw2 m17 (sq4.2.1.2.2.2.1).symm;replace hw3:=Own.modS hw3 m17 (sq4.2.2.1.2.2.1).symm;replace hw4:=Own.modS hw4 m17 (sq4.2.2.2.1.2.1).symm;replace hw5:=Own.modS hw5 m17 (sq4.2.2.2.2.1.1).symm;replace hw7:=Own.modS hw7 m17 sq4.2.2.2.2.2.1.1;replace hw8:=Own.modS hw8 m17 sq4.2.2.2.2.2.1.2.1;replace h3:=h3.mod m17 (fun g hg=>by have:=Own.blk hw6 g hg;omega)
        have z39:=m17.size
        replace ho5 : Own w39 w2.heap.size w39.heap.size 1 v4 (List.flatMap (Enc.enc (α:=Bool)) (dx1.black ++ [true])):=by rw [List.flatMap_append];exact ho5
        refine Qa (Qf V4 Z) Z (Xf (cs':=[o1,o2,o3,o4,o5,v4,o7,o8]) Gz Z Z ho5.one h3 (Nat.le_of_ble_eq_true Z) Z (fun w40 m18 h3'=>?_))
        replace h3:=h3'
        replace E:=E.mod m18 (fun g hg=>by cases hg;omega);replace hcu:=hcu.mod m18 (fun g hg=>by cases hg;omega);replace h1:=h1.mod m18 (fun g hg=>by cases hg;omega);replace h2:=h2.mod m18 (fun g hg=>by cases hg;omega);replace hw1:=hw1.mod m18 (fun g hg=>by cases hg;omega);replace hw2:=hw2.mod m18 (fun g hg=>by cases hg;omega);replace hw3:=hw3.mod m18 (fun g hg=>by cases hg;omega);replace hw4:=hw4.mod m18 (fun g hg=>by cases hg;omega);replace hw5:=hw5.mod m18 (fun g hg=>by cases hg;omega);replace hw7:=hw7.mod m18 (fun g hg=>by cases hg;omega);replace hw8:=hw8.mod m18 (fun g hg=>by cases hg;omega);replace ho5:=Own.modN ho5 m18 (fun g hg hv=>by have hN:=hn4 g hv;have hB:=Own.blk ho5 g hv;cases hg;omega)
        have z40:=m18.size
        refine Qd (Q4 (Yn (Qh (Qi [true,false] Z Z (Qa (Ql Yh Z h3.at Z) Z (Qs (cs':=[o1,o2,o3,o4,o5,v4,o7,o8]) Yh Z Z Z (Qg hw1.one (Qg hw2.one (Qg hw3.one (Qg hw4.one (Qg hw5.one (Qg ho5.one (Qg hw7.one (Qg hw8.one Z)))))))) h2 (Nat.le_of_ble_eq_true Z) Z (fun w41 m19 h2'=>?_)))))))
        replace h2:=h2'
        replace E:=E.mod m19 (fun g hg=>by cases hg;omega);replace hcu:=hcu.mod m19 (fun g hg=>by cases hg;omega);replace h1:=h1.mod m19 (fun g hg=>by cases hg;omega);replace hw1:=hw1.mod m19 (fun g hg=>by cases hg;omega);replace hw2:=hw2.mod m19 (fun g hg=>by cases hg;omega);replace hw3:=hw3.mod m19 (fun g hg=>by cases hg;omega);replace hw4:=hw4.mod m19 (fun g hg=>by cases hg;omega);replace hw5:=hw5.mod m19 (fun g hg=>by cases hg;omega);replace hw7:=hw7.mod m19 (fun g hg=>by cases hg;omega);replace hw8:=hw8.mod m19 (fun g hg=>by cases hg;omega);replace h3:=h3.mod m19 (fun g hg=>by cases hg;omega);replace ho5:=Own.modN ho5 m19 (fun g hg hv=>by have hN:=hn4 g hv;have hB:=Own.blk ho5 g hv;cases hg;omega)
        have z41:=m19.size
        refine Qd (Qx (Xh Z Z (Qv Yh h2.at Z) E ?_))
        exact ⟨(⟨dx1.queue,dx1.staged,dx1.inputs,dx1.cells,dx1.sums,dx1.black ++ [true],dx1.caps,dx1.dones⟩ : Worker),(by first | omega | (simp only [Q6,List.length_append,List.length_cons,List.length_nil,List.length_take,List.length_set] at *;omega)),hcu,⟨_,Z,Worker.mkR (⟨dx1.queue,dx1.staged,dx1.inputs,dx1.cells,dx1.sums,dx1.black ++ [true],dx1.caps,dx1.dones⟩ : Worker) (RdD.widen (Own.rdD hw1) (by have:=E.size;omega) (by omega)) (RdD.widen (Own.rdD hw2) (by have:=E.size;omega) (by omega)) (RdD.widen (Own.rdD hw3) (by have:=E.size;omega) (by omega)) (RdD.widen (Own.rdD hw4) (by have:=E.size;omega) (by omega)) (RdD.widen (Own.rdD hw5) (by have:=E.size;omega) (by omega)) (RdD.widen (Own.rdD ho5) (by have:=E.size;omega) (by omega)) (RdD.widen (Own.rdD hw7) (by have:=E.size;omega) (by omega)) (RdD.widen (Own.rdD hw8) (by have:=E.size;omega) (by omega))⟩⟩
       ·have hc7n : ¬ dx2 = 6:=by first | (have h:=of_decide_eq_false hc7;omega) | (have h:=hc7;simp at h;omega)
        refine Qh (Qi [true,true] Z Z (Qa (Y9 Z Z) Z (Qa (Qe Z) Z (Qd (Qt Z (fun hc8=>?_) (fun hc8=>?_))))))
        ·have hc8n : dx2 = 7:=by first | (have h:=of_decide_eq_true hc8;omega) | (have h:=hc8;simp at h;omega)
         refine Qi [true,true,true,false,false,true,false] Z Z (Qa (Qf V5 Z) Z (Qa (Qk C9 Z (h3.one 3 Z)) Z (Qa (Kv (⟨0,0,0,0⟩ : Cell) Z (fun _=>by kernel_rfl)) Z (Qz (vs:=[.agg (Enc.enc (⟨0,0,0,0⟩ : Cell)).toArray]) (css:=[[.int .i64 ((⟨0,0,0,0⟩ : Cell).op),.int .i64 ((⟨0,0,0,0⟩ : Cell).epoch),.int .i64 ((⟨0,0,0,0⟩ : Cell).key),.int .i64 ((⟨0,0,0,0⟩ : Cell).val)]]) K3 Z Z ⟨⟨Z,Z⟩,trivial⟩ Z Z (fun b10 w42 e23 s10 h10=>?_)))))
         replace h10 : Blk w42 b10 [.int .i64 ((⟨0,0,0,0⟩ : Cell).op),.int .i64 ((⟨0,0,0,0⟩ : Cell).epoch),.int .i64 ((⟨0,0,0,0⟩ : Cell).key),.int .i64 ((⟨0,0,0,0⟩ : Cell).val)]:=h10
         have g_b10 : w.heap.size ≤ b10:=by have:=E.size;omega
         have y_b10:=h10.lt
         replace E:=E.ext e23;replace hcu:=hcu.ext e23;replace h1:=h1.ext e23;replace h2:=h2.ext e23;replace hw1:=hw1.ext e23;replace hw2:=hw2.ext e23;replace hw3:=hw3.ext e23;replace hw4:=hw4.ext e23;replace hw5:=hw5.ext e23;replace hw6:=hw6.ext e23;replace hw7:=hw7.ext e23;replace hw8:=hw8.ext e23;replace h3:=h3.ext e23
         have z42:=e23.size
         refine Ka K3 Z Z hw4 (Src.ofBlk h10 Z) Z (by unfold Q6 at q1;simp only [Ya,List.length_cons,List.length_nil];simp only [Enc.sz];omega) (by decide) (by omega) (by omega) Z Z (fun v5 w43 m20 ho6 hb5=>?_)
         have hn5 : ∀ g,Value.ownBlock v5 = some g → g < w3.heap.size ∨ w42.heap.size ≤ g:=fun g hg=>(hb5 g hg).elim (fun h=>.inl (by have:=Own.blk hw4 g h;omega)) (fun h=>.inr h)
         have sq5:=sp1
         replace sp1:=SepL.set hb5 3 rfl sp1 ⟨(Own.lt hw1),(Own.lt hw2),(Own.lt hw3),(Own.lt hw4),(Own.lt hw5),(Own.lt hw6),(Own.lt hw7),(Own.lt hw8),trivial⟩
         replace sp1 : SepL [o1,o2,o3,v5,o5,o6,o7,o8]:=sp1
         replace E:=E.mod m20 (fun g hg=>by have:=Own.blk hw4 g hg;omega);replace hcu:=hcu.mod m20 (fun g hg=>by have:=Own.blk hw4 g hg;omega);replace h1:=h1.mod m20 (fun g hg=>by have:=Own.blk hw4 g hg;omega);replace h2:=h2.mod m20 (fun g hg=>by have:=Own.blk hw4 g hg;omega);replace hw1:=Own.modS hw1 m20 (sq5.1.2.2.1).symm;replace hw2:=Own.modS hw2 m20 (sq5.2.1.2.1).symm;replace hw3:=Own.modS hw3 m20 (sq5.2.2.1.1).symm;replace hw5:=Own.modS hw5 m20 sq5.2.2.2.1.1;replace hw6:=Own.modS hw6 m20 sq5.2.2.2.1.2.1;replace hw7:=Own.modS hw7 m20 sq5.2.2.2.1.2.2.1;replace hw8:=Own.modS hw8 m20 sq5.2.2.2.1.2.2.2.1;replace h3:=h3.mod m20 (fun g hg=>by have:=Own.blk hw4 g hg;omega)
         have z43:=m20.size
         replace ho6 : Own w43 w2.heap.size w43.heap.size 4 v5 (List.flatMap (Enc.enc (α:=Cell)) (dx1.cells ++ [(⟨0,0,0,0⟩ : Cell)])):=by rw [List.flatMap_append];exact ho6
         refine Qa (Qf V5 Z) Z (Xf (cs':=[o1,o2,o3,v5,o5,o6,o7,o8]) C9 Z Z ho6.one h3 (Nat.le_of_ble_eq_true Z) Z (fun w44 m21 h3'=>?_))
         replace h3:=h3'
         replace E:=E.mod m21 (fun g hg=>by cases hg;omega);replace hcu:=hcu.mod m21 (fun g hg=>by cases hg;omega);replace h1:=h1.mod m21 (fun g hg=>by cases hg;omega);replace h2:=h2.mod m21 (fun g hg=>by cases hg;omega);replace hw1:=hw1.mod m21 (fun g hg=>by cases hg;omega);replace hw2:=hw2.mod m21 (fun g hg=>by cases hg;omega);replace hw3:=hw3.mod m21 (fun g hg=>by cases hg;omega);replace hw5:=hw5.mod m21 (fun g hg=>by cases hg;omega);replace hw6:=hw6.mod m21 (fun g hg=>by cases hg;omega);replace hw7:=hw7.mod m21 (fun g hg=>by cases hg;omega);replace hw8:=hw8.mod m21 (fun g hg=>by cases hg;omega);replace ho6:=Own.modN ho6 m21 (fun g hg hv=>by have hN:=hn5 g hv;have hB:=Own.blk ho6 g hv;cases hg;omega)
         have z44:=m21.size
         refine Qd (Q4 (Yn (Qh (Qi [true,false] Z Z (Qa (Ql Yh Z h3.at Z) Z (Qs (cs':=[o1,o2,o3,v5,o5,o6,o7,o8]) Yh Z Z Z (Qg hw1.one (Qg hw2.one (Qg hw3.one (Qg ho6.one (Qg hw5.one (Qg hw6.one (Qg hw7.one (Qg hw8.one Z)))))))) h2 (Nat.le_of_ble_eq_true Z) Z (fun w45 m22 h2'=>?_)))))))
         replace h2:=h2'
         replace E:=E.mod m22 (fun g hg=>by cases hg;omega);replace hcu:=hcu.mod m22 (fun g hg=>by cases hg;omega);replace h1:=h1.mod m22 (fun g hg=>by cases hg;omega);replace hw1:=hw1.mod m22 (fun g hg=>by cases hg;omega);replace hw2:=hw2.mod m22 (fun g hg=>by cases hg;omega);replace hw3:=hw3.mod m22 (fun g hg=>by cases hg;omega);replace hw5:=hw5.mod m22 (fun g hg=>by cases hg;omega);replace hw6:=hw6.mod m22 (fun g hg=>by cases hg;omega);replace hw7:=hw7.mod m22 (fun g hg=>by cases hg;omega);replace hw8:=hw8.mod m22 (fun g hg=>by cases hg;omega);replace h3:=h3.mod m22 (fun g hg=>by cases hg;omega);replace ho6:=Own.modN ho6 m22 (fun g hg hv=>by have hN:=hn5 g hv;have hB:=Own.blk ho6 g hv;cases hg;omega)
         have z45:=m22.size
         refine Qd (Qx (Xh Z Z (Qv Yh h2.at Z) E ?_))
         exact ⟨(⟨dx1.queue,dx1.staged,dx1.inputs,dx1.cells ++ [(⟨0,0,0,0⟩ : Cell)],dx1.sums,dx1.black,dx1.caps,dx1.dones⟩ : Worker),(by first | omega | (simp only [Q6,List.length_append,List.length_cons,List.length_nil,List.length_take,List.length_set] at *;omega)),hcu,⟨_,Z,Worker.mkR (⟨dx1.queue,dx1.staged,dx1.inputs,dx1.cells ++ [(⟨0,0,0,0⟩ : Cell)],dx1.sums,dx1.black,dx1.caps,dx1.dones⟩ : Worker) (RdD.widen (Own.rdD hw1) (by have:=E.size;omega) (by omega)) (RdD.widen (Own.rdD hw2) (by have:=E.size;omega) (by omega)) (RdD.widen (Own.rdD hw3) (by have:=E.size;omega) (by omega)) (RdD.widen (Own.rdD ho6) (by have:=E.size;omega) (by omega)) (RdD.widen (Own.rdD hw5) (by have:=E.size;omega) (by omega)) (RdD.widen (Own.rdD hw6) (by have:=E.size;omega) (by omega)) (RdD.widen (Own.rdD hw7) (by have:=E.size;omega) (by omega)) (RdD.widen (Own.rdD hw8) (by have:=E.size;omega) (by omega))⟩⟩
        ·have hc8n : ¬ dx2 = 7:=by first | (have h:=of_decide_eq_false hc8;omega) | (have h:=hc8;simp at h;omega)
         refine Qy (Q4 (Yn (Qh (Qi [true,false] Z Z (Qa (Ql Yh Z h3.at Z) Z (Qs (cs':=[o1,o2,o3,o4,o5,o6,o7,o8]) Yh Z Z Z (Qg hw1.one (Qg hw2.one (Qg hw3.one (Qg hw4.one (Qg hw5.one (Qg hw6.one (Qg hw7.one (Qg hw8.one Z)))))))) h2 (Nat.le_of_ble_eq_true Z) Z (fun w46 m23 h2'=>?_)))))))
         replace h2:=h2'
         replace E:=E.mod m23 (fun g hg=>by cases hg;omega);replace hcu:=hcu.mod m23 (fun g hg=>by cases hg;omega);replace h1:=h1.mod m23 (fun g hg=>by cases hg;omega);replace hw1:=hw1.mod m23 (fun g hg=>by cases hg;omega);replace hw2:=hw2.mod m23 (fun g hg=>by cases hg;omega);replace hw3:=hw3.mod m23 (fun g hg=>by cases hg;omega);replace hw4:=hw4.mod m23 (fun g hg=>by cases hg;omega);replace hw5:=hw5.mod m23 (fun g hg=>by cases hg;omega);replace hw6:=hw6.mod m23 (fun g hg=>by cases hg;omega);replace hw7:=hw7.mod m23 (fun g hg=>by cases hg;omega);replace hw8:=hw8.mod m23 (fun g hg=>by cases hg;omega);replace h3:=h3.mod m23 (fun g hg=>by cases hg;omega)
         have z46:=m23.size
         refine Qd (Qx (Xh Z Z (Qv Yh h2.at Z) E ?_))
         exact ⟨dx1,(by first | omega | (simp only [Q6,List.length_append,List.length_cons,List.length_nil,List.length_take,List.length_set] at *;omega)),hcu,⟨_,Z,Worker.mkR dx1 (RdD.widen (Own.rdD hw1) (by have:=E.size;omega) (by omega)) (RdD.widen (Own.rdD hw2) (by have:=E.size;omega) (by omega)) (RdD.widen (Own.rdD hw3) (by have:=E.size;omega) (by omega)) (RdD.widen (Own.rdD hw4) (by have:=E.size;omega) (by omega)) (RdD.widen (Own.rdD hw5) (by have:=E.size;omega) (by omega)) (RdD.widen (Own.rdD hw6) (by have:=E.size;omega) (by omega)) (RdD.widen (Own.rdD hw7) (by have:=E.size;omega) (by omega)) (RdD.widen (Own.rdD hw8) (by have:=E.size;omega) (by omega))⟩⟩

set_option maxRecDepth 20000 in
theorem s_l12Case (vcode : Value) (code : List Byt) (w : World) (hcode : RdS w vcode code) : Ct Tryz.prog 25 [vcode] w (fun v w'=>∃ (dr0 : Graph) (dr1 : Worker),smG dr0 ∧ Q6 dr1 ≤ 200 ∧ ∃ c0 c1,v = .tuple [.agg c0.toArray,.agg c1.toArray].toArray ∧ Dat.R w' w.heap.size w'.heap.size c0 dr0 ∧ Dat.R w' w.heap.size w'.heap.size c1 dr1):=by
 refine Yp Tryz.func25 Z Tryz.ntmps25 Z ?_
 refine Yb [(0,vcode)] ⟨Z,trivial⟩ ?_
 have E : Ext w w:=Ext.refl w
 refine Qh (Qi [false,false] Z Z (Yd Xz Z (fun b1 w1 e1 s1 h1=>?_)))
 have g_b1 : w.heap.size ≤ b1:=by have:=E.size;omega
 have y_b1:=h1.lt
 replace E:=E.trans e1
 have z1:=e1.size
 refine Yd Yh Z (fun b2 w2 e2 s2 h2=>?_)
 have g_b2 : w.heap.size ≤ b2:=by have:=E.size;omega
 have y_b2:=h2.lt
 replace E:=E.trans e2;replace h1:=h1.ext e2
 have z2:=e2.size
 refine Qd (Qh (Qi [true,false,true] Z Z (Qa (Qb Z) Z (Qw Tryz.call37 Z (s_l01New vcode code _ (hcode.ext E)) Z (fun _ w3 e3 hcu1=>?_)))))
 obtain ⟨bc1,rfl,ybc1,hcu1⟩:=hcu1
 have g_bc1 : w.heap.size ≤ bc1:=Nat.le_trans E.size ybc1
 have y_bc1:=CurO.lt hcu1
 replace E:=E.trans e3;replace h1:=h1.ext e3;replace h2:=h2.ext e3
 have z3:=e3.size
 refine Qa (Qe Z) Z (Qd (Qh (Qi [true,false,false,false] Z Z (Qa (Qb Z) Z (Yf Tryz.call38 Z Z (s_l08Graph bc1 vcode code _ hcu1 (RdD.widen (RdD.ext (RdS.rdD hcode) E) (Nat.le_refl _) (by omega))) Z (fun _ w4 e4 ho1=>?_))))))
 obtain ⟨dx1,q1,q2,q3,hcu1',ho1⟩:=ho1
 replace hcu1:=hcu1'
 obtain ⟨o1,rfl,ho1⟩:=ho1
 have g_ho1 : w.heap.size ≤ w3.heap.size:=E.size
 replace E:=E.stepR e4 (by omega);replace h1:=h1.modR e4 (by omega);replace h2:=h2.modR e4 (by omega)
 have z4:=e4.size
 refine Yd Xz Z (fun b3 w5 e5 s3 h3=>?_)
 have g_b3 : w.heap.size ≤ b3:=by have:=E.size;omega
 have y_b3:=h3.lt
 replace E:=E.trans e5;replace h1:=h1.ext e5;replace h2:=h2.ext e5;replace hcu1:=hcu1.ext e5;replace ho1:=ho1.ext e5
 have z5:=e5.size
 refine Qs (cs':=[o1,.int .i64 dx1.workers,.int .i64 dx1.cap]) Xz Z Z Z (Qg (RdD.one (OwS.rd ho1)) (Qg Z (Qg Z Z))) h3 (Nat.le_of_ble_eq_true Z) Z (fun w6 m1 h3'=>?_)
 replace h3:=h3'
 replace E:=E.step m1 (fun g hg=>by cases hg;omega);replace h1:=h1.mod m1 (fun g hg=>by cases hg;omega);replace h2:=h2.mod m1 (fun g hg=>by cases hg;omega);replace hcu1:=hcu1.mod m1 (fun g hg=>by cases hg;omega);replace ho1:=ho1.mod m1 (fun g hg=>by cases hg;omega)
 have z6:=m1.size
 refine Qd (Qh (Ga Xd [1] [(0,true),(1,true),(2,true),(3,false)] [(4,false),(5,false)] (by decide +kernel) Z Z (fun w'=>Ext w w' ∧ w6.heap.size ≤ w'.heap.size ∧ Blk w' b1 [.slice none 0 0,.int .i64 0,.int .i64 0] ∧ Blk w' b2 [.slice none 0 0,.slice none 0 0,.slice none 0 0,.slice none 0 0,.slice none 0 0,.slice none 0 0,.slice none 0 0,.slice none 0 0] ∧ CurO w' bc1 vcode code ∧ OwS w' w3.heap.size w4.heap.size o1 dx1.nodes ∧ Blk w' b3 [o1,.int .i64 dx1.workers,.int .i64 dx1.cap]) (fun w7 e6=>?_)))
 replace E:=E.trans e6;replace h1:=h1.ext e6;replace h2:=h2.ext e6;replace hcu1:=hcu1.ext e6;replace ho1:=ho1.ext e6;replace h3:=h3.ext e6
 have z7:=e6.size
 refine ⟨⟨E,(by omega),h1,h2,hcu1,ho1,h3⟩,?_⟩
 refine U2 rfl (fun wX hX=>by obtain ⟨E,zX,h1,h2,hcu1,ho1,h3⟩:=hX;exact Ql Xz rfl h3.at rfl) rfl ?_
 refine Kw Z (fun wX=>Qb Z) Z ?_
 refine U2 rfl (fun wX hX=>by obtain ⟨E,zX,h1,h2,hcu1,ho1,h3⟩:=hX;exact Ql Xz rfl h3.at rfl) rfl ?_
 refine K7 Z ?_
 refine Yf Tryz.call39 Z Z (s_l12Any bc1 vcode code o1 dx1 _ hcu1 (RdD.widen (RdD.ext (RdS.rdD hcode) E) (Nat.le_refl _) (by omega)) (fun wX eX=>RdD.any (OwS.rd (OwS.modR ho1 eX (by omega)))) (smG_cnt (by assumption))) Z (fun v1 w8 e7 ho2=>?_)
 obtain ⟨dx2,q4,hcu1',ho2⟩:=ho2
 replace hcu1:=hcu1'
 obtain ⟨_,rfl,ho2⟩:=ho2
 obtain ⟨o2,o3,o4,o5,o6,o7,o8,o9,rfl,hd1,hd2,hd3,hd4,hd5,hd6,hd7,hd8⟩:=Worker.op ho2
 replace E:=E.stepR e7 (by omega);replace h1:=h1.modR e7 (by omega);replace h2:=h2.modR e7 (by omega);replace ho1:=ho1.modR e7 (by omega);replace h3:=h3.modR e7 (by omega)
 have z8:=e7.size
 refine Xx ⟨E,(by omega),h1,h2,hcu1,ho1,h3⟩ ?_
 refine Gc ?_
 refine Qs (cs':=[o1,.int .i64 dx1.workers,.int .i64 dx1.cap]) Xz Z Z Z (Qg (RdD.one (OwS.rd ho1)) (Qg Z (Qg Z Z))) h1 (Nat.le_of_ble_eq_true Z) Z (fun w9 m2 h1'=>?_)
 replace h1:=h1'
 replace E:=E.step m2 (fun g hg=>by cases hg;omega);replace h2:=h2.mod m2 (fun g hg=>by cases hg;omega);replace hcu1:=hcu1.mod m2 (fun g hg=>by cases hg;omega);replace ho1:=ho1.mod m2 (fun g hg=>by cases hg;omega);replace h3:=h3.mod m2 (fun g hg=>by cases hg;omega);replace hd1:=hd1.mod m2 (fun g hg=>by cases hg;omega);replace hd2:=hd2.mod m2 (fun g hg=>by cases hg;omega);replace hd3:=hd3.mod m2 (fun g hg=>by cases hg;omega);replace hd4:=hd4.mod m2 (fun g hg=>by cases hg;omega);replace hd5:=hd5.mod m2 (fun g hg=>by cases hg;omega);replace hd6:=hd6.mod m2 (fun g hg=>by cases hg;omega);replace hd7:=hd7.mod m2 (fun g hg=>by cases hg;omega);replace hd8:=hd8.mod m2 (fun g hg=>by cases hg;omega)
 have z9:=m2.size
 refine Qs (cs':=[o2,o3,o4,o5,o6,o7,o8,o9]) Yh Z Z Z (Qg (RdD.one hd1) (Qg (RdD.one hd2) (Qg (RdD.one hd3) (Qg (RdD.one hd4) (Qg (RdD.one hd5) (Qg (RdD.one hd6) (Qg (RdD.one hd7) (Qg (RdD.one hd8) Z)))))))) h2 (Nat.le_of_ble_eq_true Z) Z (fun w10 m3 h2'=>?_)
 replace h2:=h2'
 replace E:=E.step m3 (fun g hg=>by cases hg;omega);replace h1:=h1.mod m3 (fun g hg=>by cases hg;omega);replace hcu1:=hcu1.mod m3 (fun g hg=>by cases hg;omega);replace ho1:=ho1.mod m3 (fun g hg=>by cases hg;omega);replace h3:=h3.mod m3 (fun g hg=>by cases hg;omega);replace hd1:=hd1.mod m3 (fun g hg=>by cases hg;omega);replace hd2:=hd2.mod m3 (fun g hg=>by cases hg;omega);replace hd3:=hd3.mod m3 (fun g hg=>by cases hg;omega);replace hd4:=hd4.mod m3 (fun g hg=>by cases hg;omega);replace hd5:=hd5.mod m3 (fun g hg=>by cases hg;omega);replace hd6:=hd6.mod m3 (fun g hg=>by cases hg;omega);replace hd7:=hd7.mod m3 (fun g hg=>by cases hg;omega);replace hd8:=hd8.mod m3 (fun g hg=>by cases hg;omega)
 have z10:=m3.size
 refine Qd (Qx (Y1 (l:=[.cell 2 26,.cell 3 33]) (vs:=[.agg [o1,.int .i64 dx1.workers,.int .i64 dx1.cap].toArray,.agg [o2,o3,o4,o5,o6,o7,o8,o9].toArray]) Z ⟨.cell Z (Qv Xz h1.at Z),.cell Z (Qv Yh h2.at Z),trivial⟩ Z E ?_))
 exact ⟨dx1,dx2,(by assumption),(by assumption),⟨_,_,Z,(Graph.mkR _ (RdD.widen (OwS.rd ho1) (by have:=E.size;omega) (by omega))),(Worker.mkR _ (RdD.widen hd1 (by have:=E.size;omega) (by omega)) (RdD.widen hd2 (by have:=E.size;omega) (by omega)) (RdD.widen hd3 (by have:=E.size;omega) (by omega)) (RdD.widen hd4 (by have:=E.size;omega) (by omega)) (RdD.widen hd5 (by have:=E.size;omega) (by omega)) (RdD.widen hd6 (by have:=E.size;omega) (by omega)) (RdD.widen hd7 (by have:=E.size;omega) (by omega)) (RdD.widen hd8 (by have:=E.size;omega) (by omega)))⟩⟩

set_option maxRecDepth 20000 in
theorem l_sameBools (vxs : Value) (xs : List Bool) (vys : Value) (ys : List Bool) (w : World) (hxs : RdS w vxs xs) (hys : RdS w vys ys) : Ct Tryz.prog 54 [vxs,vys] w (fun v _=>v = .bool (decide (xs = ys))):=by
 refine Yp Tryz.func54 Z Tryz.ntmps54 Z ?_
 refine Yb [(0,vxs),(1,vys)] ⟨Z,Z,trivial⟩ ?_
 have E : Ext w w:=Ext.refl w
 refine Qh (Qi [true] Z Z (Qa (Qe Z) Z (Qd (Qh (Qh (Qi [true,true,true,true,true] Z Z (Qa (Qb Z) Z (Qa (Ye Tryz.underlying30 Z (hxs.ext E).len) Z (Qa (Qb Z) Z (Qa (Ye Tryz.underlying30 Z (hys.ext E).len) Z (Qa (X1 Z Z) Z (Qd (Qt Z (fun hc1=>?_) (fun hc1=>?_))))))))))))))
 ·have hc1n : ¬ xs.length = ys.length:=by first | (have h:=of_decide_eq_true hc1;omega) | (have h:=hc1;simp at h;omega)
  refine Qh (Qi [true] Z Z (Qa (Qe Z) Z (Qd (Qx (Qu Z Z E ?_)))))
  simp [V6 hc1n]
 ·have hc1n : xs.length = ys.length:=by first | (have h:=of_decide_eq_false hc1;omega) | (have h:=hc1;simp at h;omega)
  refine Qy (Qh (Qh (Qi [true] Z Z (Qa (Qe Z) Z (Qd (Q2 (Y6 (fun (k : Nat)=>[(0,vxs),(1,vys),(4,.bool false),(5,.int .i64 ((k : Nat) : Int))]) (fun (k : Nat) w'=>Ext w w' ∧ w.heap.size ≤ w'.heap.size ∧ k ≤ xs.length ∧ xs.take k = ys.take k) (fun (k : Nat)=>xs.length - k) 0 ⟨Z,Z,Z,Z,trivial⟩ ⟨E,Nat.le_refl _,Nat.zero_le _,Z⟩ ?_)))))))
  clear E
  rintro k w1 ⟨E,z1,hk,hp⟩
  refine Qh (Qh (Qi [true,true,true,true] Z Z (Qa (Qb Z) Z (Qa (Qb Z) Z (Qa (Ye Tryz.underlying30 Z (hxs.ext E).len) Z (Qa (Xe Z Z) Z (Qd (Qt Z (fun hc2=>?_) (fun hc2=>?_)))))))))
  ·have hc2n : k < xs.length:=by first | (have h:=of_decide_eq_true hc2;omega) | (have h:=hc2;simp at h;omega)
   refine Qy (Qh (Q2 (Qh (Xk Xd [(0,true),(1,true),(2,true),(3,true),(4,true),(5,true),(6,true),(7,true),(8,true)] (by decide +kernel) Z (fun w2 e1=>?_)))))
   replace E:=E.trans e1
   have z2:=e1.size
   refine Qa (Qb Z) Z (Qa (Qb Z) Z ?_)
   have hi1 : k < xs.length:=(by first | assumption | omega | (simp only [List.length_set];first | assumption | omega) | (simp only [List.getElem_set_self,List.length_set];first | assumption | omega) | (simp only [Y3,Yj,List.length_set];first | assumption | omega) | (simp;done))
   refine Qa (Q5 (i:=k) H2 Z Z (hxs.ext E) hi1) Z (Qa (Qk sc4 Z (((hxs.ext E).get hi1).one 0 Z)) Z (Qa (Qb Z) Z (Qa (Qb Z) Z ?_)))
   have hi2 : k < ys.length:=(by first | assumption | omega | (simp only [List.length_set];first | assumption | omega) | (simp only [List.getElem_set_self,List.length_set];first | assumption | omega) | (simp only [Y3,Yj,List.length_set];first | assumption | omega) | (simp;done))
   refine Qa (Q5 (i:=k) H2 Z Z (hys.ext E) hi2) Z (Qa (Qk sc4 Z (((hys.ext E).get hi2).one 0 Z)) Z (Qa (Tk (Tryz.underlying4) Z Z) Z (Qd (Qt Z (fun hc3=>?_) (fun hc3=>?_)))))
   ·refine Qh (Qi [true] Z Z (Qa (Qe Z) Z (Qd (Qx (Q0 (Yy (Q0 (Qu Z Z E ?_))))))))
    exact V7 (by omega) (by omega) (by simpa using hc3)
   ·refine Qy (Q4 (Yn (Qi [true,true,true] Z Z (Qa (Qb Z) Z (Qa (Yu Z Z (Yw hc2n hxs.1)) Z (Qa (Qe Z) Z (Qd (Q4 (Yg (k + 1) (by omega) ⟨Z,Z,Z,Z,trivial⟩ ⟨E,(by omega),(by omega),Uo hp (by assumption) (by omega) (by simpa using hc3)⟩)))))))))
  ·have hc2n : ¬ k < xs.length:=by first | (have h:=of_decide_eq_false hc2;omega) | (have h:=hc2;simp at h;omega)
   refine Y5 (Yc (Q8 ?_))
   refine Qh (Qi [true] Z Z (Qa (Qe Z) Z (Qd (Qx (Qu Z Z E ?_)))))
   exact U9 hp hc1n (by omega)

set_option maxRecDepth 20000 in
theorem l_sameDones (vxs : Value) (xs : List Done) (vys : Value) (ys : List Done) (w : World) (hxs : RdS w vxs xs) (hys : RdS w vys ys) : Ct Tryz.prog 55 [vxs,vys] w (fun v _=>v = .bool (decide (xs = ys))):=by
 refine Yp Tryz.func55 Z Tryz.ntmps55 Z ?_
 refine Yb [(0,vxs),(1,vys)] ⟨Z,Z,trivial⟩ ?_
 have E : Ext w w:=Ext.refl w
 refine Qh (Qi [true] Z Z (Qa (Qe Z) Z (Qd (Qh (Qh (Qi [true,true,true,true,true] Z Z (Qa (Qb Z) Z (Qa (Ye Tryz.underlying31 Z (hxs.ext E).len) Z (Qa (Qb Z) Z (Qa (Ye Tryz.underlying31 Z (hys.ext E).len) Z (Qa (X1 Z Z) Z (Qd (Qt Z (fun hc1=>?_) (fun hc1=>?_))))))))))))))
 ·have hc1n : ¬ xs.length = ys.length:=by first | (have h:=of_decide_eq_true hc1;omega) | (have h:=hc1;simp at h;omega)
  refine Qh (Qi [true] Z Z (Qa (Qe Z) Z (Qd (Qx (Qu Z Z E ?_)))))
  simp [V6 hc1n]
 ·have hc1n : xs.length = ys.length:=by first | (have h:=of_decide_eq_false hc1;omega) | (have h:=hc1;simp at h;omega)
  refine Qy (Qh (Qh (Qi [true] Z Z (Qa (Qe Z) Z (Qd (Q2 (Y6 (fun (k : Nat)=>[(0,vxs),(1,vys),(4,.bool false),(5,.int .i64 ((k : Nat) : Int))]) (fun (k : Nat) w'=>Ext w w' ∧ w.heap.size ≤ w'.heap.size ∧ k ≤ xs.length ∧ xs.take k = ys.take k) (fun (k : Nat)=>xs.length - k) 0 ⟨Z,Z,Z,Z,trivial⟩ ⟨E,Nat.le_refl _,Nat.zero_le _,Z⟩ ?_)))))))
  clear E
  rintro k w1 ⟨E,z1,hk,hp⟩
  refine Qh (Qh (Qi [true,true,true,true] Z Z (Qa (Qb Z) Z (Qa (Qb Z) Z (Qa (Ye Tryz.underlying31 Z (hxs.ext E).len) Z (Qa (Xe Z Z) Z (Qd (Qt Z (fun hc2=>?_) (fun hc2=>?_)))))))))
  ·have hc2n : k < xs.length:=by first | (have h:=of_decide_eq_true hc2;omega) | (have h:=hc2;simp at h;omega)
   refine Qy (Qh (Q2 (Qh (Xk Xd [(0,true),(1,true),(2,true),(3,true),(4,true),(5,true),(6,true),(7,true),(8,true)] (by decide +kernel) Z (fun w2 e1=>?_)))))
   replace E:=E.trans e1
   have z2:=e1.size
   refine Qa (Qb Z) Z (Qa (Qb Z) Z ?_)
   have hi1 : k < xs.length:=(by first | assumption | omega | (simp only [List.length_set];first | assumption | omega) | (simp only [List.getElem_set_self,List.length_set];first | assumption | omega) | (simp only [Y3,Yj,List.length_set];first | assumption | omega) | (simp;done))
   refine Qa (Q5 (i:=k) H1 Z Z (hxs.ext E) hi1) Z (Qa (Ql st58 Z ((hxs.ext E).get hi1) Z) Z (Qa (Qb Z) Z (Qa (Qb Z) Z ?_)))
   have hi2 : k < ys.length:=(by first | assumption | omega | (simp only [List.length_set];first | assumption | omega) | (simp only [List.getElem_set_self,List.length_set];first | assumption | omega) | (simp only [Y3,Yj,List.length_set];first | assumption | omega) | (simp;done))
   refine Qa (Q5 (i:=k) H1 Z Z (hys.ext E) hi2) Z (Qa (Ql st58 Z ((hys.ext E).get hi2) Z) Z (Qa (G5 (ne58 (xs[k]'hi1) (ys[k]'hi2)) eqg58 Z Z) Z (Qd (Qt Z (fun hc3=>?_) (fun hc3=>?_)))))
   ·refine Qh (Qi [true] Z Z (Qa (Qe Z) Z (Qd (Qx (Q0 (Yy (Q0 (Qu Z Z E ?_))))))))
    exact V7 (by omega) (by omega) (by simpa using hc3)
   ·refine Qy (Q4 (Yn (Qi [true,true,true] Z Z (Qa (Qb Z) Z (Qa (Yu Z Z (Yw hc2n hxs.1)) Z (Qa (Qe Z) Z (Qd (Q4 (Yg (k + 1) (by omega) ⟨Z,Z,Z,Z,trivial⟩ ⟨E,(by omega),(by omega),Uo hp (by assumption) (by omega) (by simpa using hc3)⟩)))))))))
  ·have hc2n : ¬ k < xs.length:=by first | (have h:=of_decide_eq_false hc2;omega) | (have h:=hc2;simp at h;omega)
   refine Y5 (Yc (Q8 ?_))
   refine Qh (Qi [true] Z Z (Qa (Qe Z) Z (Qd (Qx (Qu Z Z E ?_)))))
   exact U9 hp hc1n (by omega)

set_option maxHeartbeats 4000000 in
set_option maxRecDepth 20000 in
theorem l_sameWorker (cx : List Value) (x : Worker) (cy : List Value) (y : Worker) (w : World) (hx : Dat.R w 0 w.heap.size cx x) (hy : Dat.R w 0 w.heap.size cy y) : Ct Tryz.prog 22 [.agg cx.toArray,.agg cy.toArray] w (fun v _=>v = .bool (decide (x = y))):=by
 refine Yp Tryz.func22 Z Tryz.ntmps22 Z ?_
 obtain ⟨o1,o2,o3,o4,o5,o6,o7,o8,rfl,hd1,hd2,hd3,hd4,hd5,hd6,hd7,hd8⟩:=Worker.op hx
 obtain ⟨o9,o10,o11,o12,o13,o14,o15,o16,rfl,hd9,hd10,hd11,hd12,hd13,hd14,hd15,hd16⟩:=Worker.op hy
 refine Yb [(0,.agg [o1,o2,o3,o4,o5,o6,o7,o8].toArray),(1,.agg [o9,o10,o11,o12,o13,o14,o15,o16].toArray)] ⟨Z,Z,trivial⟩ ?_
 have E : Ext w w:=Ext.refl w
 refine Qh (Qi [false,false,true] Z Z (Xb Z Z (fun b1 w1 e1 s1 h1=>?_)))
 have g_b1 : w.heap.size ≤ b1:=by have:=E.size;omega
 have y_b1:=h1.lt
 replace E:=E.trans e1
 have z1:=e1.size
 refine Xb Z Z (fun b2 w2 e2 s2 h2=>?_)
 have g_b2 : w.heap.size ≤ b2:=by have:=E.size;omega
 have y_b2:=h2.lt
 replace E:=E.trans e2;replace h1:=h1.ext e2
 have z2:=e2.size
 refine Qa (Qe Z) Z (Qd (Qh (Qi [true,true,true,true,false,true,true,true,true,true,false,true,true,true,true,true,true,false,true,true,true,true,true,true,false,true,true,true,true,true,true,false,true,true,true,true,true,true,false,true,true,true,true,true,true,false,true,true,true,true,true,true,false,true,true] Z Z (Qa (Qf Kf Z) Z (Qa (Qk Xv Z (h1.one 0 Z)) Z (Qa (Qf Kf Z) Z (Qa (Qk Xv Z (h2.one 0 Z)) Z (Qw Tryz.call24 Z (l_sameRecords o1 x.queue o9 y.queue _ (hd1.rd.ext E) (hd9.rd.ext E)) Z (fun _ w3 e3 hv=>?_)))))))))
 subst hv
 replace E:=E.trans e3;replace h1:=h1.ext e3;replace h2:=h2.ext e3
 have z3:=e3.size
 refine Qa (Qb Z) Z (Xr 48 [(0,.agg [o1,o2,o3,o4,o5,o6,o7,o8].toArray),(1,.agg [o9,o10,o11,o12,o13,o14,o15,o16].toArray),(2,.pointer (some ⟨b1,0,none⟩)),(3,.pointer (some ⟨b2,0,none⟩)),(4,.bool false),(58,.bool ((((((((decide (x.queue = y.queue)) && (decide (x.staged = y.staged))) && (decide (x.inputs = y.inputs))) && (decide (x.cells = y.cells))) && (decide (x.sums = y.sums))) && (decide (x.black = y.black))) && (decide (x.caps = y.caps))) && (decide (x.dones = y.dones))))] (fun w'=>Ext w w' ∧ w3.heap.size ≤ w'.heap.size ∧ Blk w' b1 ([o1,o2,o3,o4,o5,o6,o7,o8]) ∧ Blk w' b2 ([o9,o10,o11,o12,o13,o14,o15,o16])) ?_ ?_)
 ·refine Yz (gd:=10) Z Z (fun hg1=>?_) (fun hg1=>?_)
  ·refine Qm Z Z (Qf Ui Z) Z (Qm Z Z (Qk Xv Z (h1.one 1 Z)) Z (Qm Z Z (Qf Ui Z) Z (Qm Z Z (Qk Xv Z (h2.one 1 Z)) Z ?_)))
   refine Xa Z Z ?_
   refine Qw Tryz.call24 Z (l_sameRecords o2 x.staged o10 y.staged _ (hd2.rd.ext E) (hd10.rd.ext E)) Z (fun _ w5 e4 hv=>?_)
   subst hv
   replace E:=E.trans e4;replace h1:=h1.ext e4;replace h2:=h2.ext e4
   have z4:=e4.size
   refine Qa (Qr Z Z) Z (Qa (Qb Z) Z (Yz (gd:=17) Z Z (fun hg2=>?_) (fun hg2=>?_)))
   ·refine Qm Z Z (Qf X5 Z) Z (Qm Z Z (Qk Xv Z (h1.one 2 Z)) Z (Qm Z Z (Qf X5 Z) Z (Qm Z Z (Qk Xv Z (h2.one 2 Z)) Z ?_)))
    refine Xa Z Z ?_
    refine Qw Tryz.call24 Z (l_sameRecords o3 x.inputs o11 y.inputs _ (hd3.rd.ext E) (hd11.rd.ext E)) Z (fun _ w6 e5 hv=>?_)
    subst hv
    replace E:=E.trans e5;replace h1:=h1.ext e5;replace h2:=h2.ext e5
    have z5:=e5.size
    refine Qa (Qr Z Z) Z (Qa (Qb Z) Z (Yz (gd:=24) Z Z (fun hg3=>?_) (fun hg3=>?_)))
    ·refine Qm Z Z (Qf V5 Z) Z (Qm Z Z (Qk C9 Z (h1.one 3 Z)) Z (Qm Z Z (Qf V5 Z) Z (Qm Z Z (Qk C9 Z (h2.one 3 Z)) Z ?_)))
     refine Xa Z Z ?_
     refine Qw Tryz.call52 Z (l_sameCells o4 x.cells o12 y.cells _ (hd4.rd.ext E) (hd12.rd.ext E)) Z (fun _ w7 e6 hv=>?_)
     subst hv
     replace E:=E.trans e6;replace h1:=h1.ext e6;replace h2:=h2.ext e6
     have z6:=e6.size
     refine Qa (Qr Z Z) Z (Qa (Qb Z) Z (Yz (gd:=31) Z Z (fun hg4=>?_) (fun hg4=>?_)))
     ·refine Qm Z Z (Qf Un Z) Z (Qm Z Z (Qk Uc Z (h1.one 4 Z)) Z (Qm Z Z (Qf Un Z) Z (Qm Z Z (Qk Uc Z (h2.one 4 Z)) Z ?_)))
      refine Xa Z Z ?_
      refine Qw Tryz.call53 Z (l_sameInts o5 x.sums o13 y.sums _ (hd5.rd.ext E) (hd13.rd.ext E)) Z (fun _ w8 e7 hv=>?_)
      subst hv
      replace E:=E.trans e7;replace h1:=h1.ext e7;replace h2:=h2.ext e7
      have z7:=e7.size
      refine Qa (Qr Z Z) Z (Qa (Qb Z) Z (Yz (gd:=38) Z Z (fun hg5=>?_) (fun hg5=>?_)))
      ·refine Qm Z Z (Qf V4 Z) Z (Qm Z Z (Qk Gz Z (h1.one 5 Z)) Z (Qm Z Z (Qf V4 Z) Z (Qm Z Z (Qk Gz Z (h2.one 5 Z)) Z ?_)))
       refine Xa Z Z ?_
       refine Qw Tryz.call54 Z (l_sameBools o6 x.black o14 y.black _ (hd6.rd.ext E) (hd14.rd.ext E)) Z (fun _ w9 e8 hv=>?_)
       subst hv
       replace E:=E.trans e8;replace h1:=h1.ext e8;replace h2:=h2.ext e8
       have z8:=e8.size
       refine Qa (Qr Z Z) Z (Qa (Qb Z) Z (Yz (gd:=45) Z Z (fun hg6=>?_) (fun hg6=>?_)))
       ·refine Qm Z Z (Qf Hl Z) Z (Qm Z Z (Qk Gz Z (h1.one 6 Z)) Z (Qm Z Z (Qf Hl Z) Z (Qm Z Z (Qk Gz Z (h2.one 6 Z)) Z ?_)))
        refine Xa Z Z ?_
        refine Qw Tryz.call54 Z (l_sameBools o7 x.caps o15 y.caps _ (hd7.rd.ext E) (hd15.rd.ext E)) Z (fun _ w10 e9 hv=>?_)
        subst hv
        replace E:=E.trans e9;replace h1:=h1.ext e9;replace h2:=h2.ext e9
        have z9:=e9.size
        refine Qa (Qr Z Z) Z (Qa (Qb Z) Z (Yz (gd:=52) Z Z (fun hg7=>?_) (fun hg7=>?_)))
        ·refine Qm Z Z (Qf Um Z) Z (Qm Z Z (Qk Hh Z (h1.one 7 Z)) Z (Qm Z Z (Qf Um Z) Z (Qm Z Z (Qk Hh Z (h2.one 7 Z)) Z ?_)))
         refine Xa Z Z ?_
         refine Qw Tryz.call55 Z (l_sameDones o8 x.dones o16 y.dones _ (hd8.rd.ext E) (hd16.rd.ext E)) Z (fun _ w11 e10 hv=>?_)
         subst hv
         replace E:=E.trans e10;replace h1:=h1.ext e10;replace h2:=h2.ext e10
         have z10:=e10.size
         refine Qa (Qr Z Z) Z (Qn ⟨Z,Z,Z,Z,Z,congrArg (fun b=>some (Value.bool b)) (show (decide (x.dones = y.dones)) = ((((((((decide (x.queue = y.queue)) && (decide (x.staged = y.staged))) && (decide (x.inputs = y.inputs))) && (decide (x.cells = y.cells))) && (decide (x.sums = y.sums))) && (decide (x.black = y.black))) && (decide (x.caps = y.caps))) && (decide (x.dones = y.dones))) by first | (rw [hg1,hg2,hg3,hg4,hg5,hg6,hg7] <;> rfl) | (simp [hg1,hg2,hg3,hg4,hg5,hg6,hg7];done) | (simp only [Qq] <;> simp)),trivial⟩ ⟨E,(by omega),h1,h2⟩)
        ·refine Qc Z Z Z Z (Qc Z Z Z Z (Qc Z Z Z Z (Qc Z Z Z Z ?_)))
         refine Q3 Z Z Z Z ?_
         refine Qa (Qp Z Z) Z (Qn ⟨Z,Z,Z,Z,Z,congrArg (fun b=>some (Value.bool b)) (show false = ((((((((decide (x.queue = y.queue)) && (decide (x.staged = y.staged))) && (decide (x.inputs = y.inputs))) && (decide (x.cells = y.cells))) && (decide (x.sums = y.sums))) && (decide (x.black = y.black))) && (decide (x.caps = y.caps))) && (decide (x.dones = y.dones))) by first | (rw [hg1,hg2,hg3,hg4,hg5,hg6,hg7] <;> rfl) | (simp [hg1,hg2,hg3,hg4,hg5,hg6,hg7];done) | (simp only [Qq] <;> simp)),trivial⟩ ⟨E,(by omega),h1,h2⟩)
       ·refine Qc Z Z Z Z (Qc Z Z Z Z (Qc Z Z Z Z (Qc Z Z Z Z ?_)))
        refine Q3 Z Z Z Z ?_
        refine Qa (Qp Z Z) Z (Qa (Qb Z) Z (Qc Z Z Z Z (Qc Z Z Z Z (Qc Z Z Z Z (Qc Z Z Z Z (Q3 Z Z Z Z (Qa (Qp Z Z) Z (Qn ⟨Z,Z,Z,Z,Z,congrArg (fun b=>some (Value.bool b)) (show false = ((((((((decide (x.queue = y.queue)) && (decide (x.staged = y.staged))) && (decide (x.inputs = y.inputs))) && (decide (x.cells = y.cells))) && (decide (x.sums = y.sums))) && (decide (x.black = y.black))) && (decide (x.caps = y.caps))) && (decide (x.dones = y.dones))) by first | (rw [hg1,hg2,hg3,hg4,hg5,hg6] <;> rfl) | (simp [hg1,hg2,hg3,hg4,hg5,hg6];done) | (simp only [Qq] <;> simp)),trivial⟩ ⟨E,(by omega),h1,h2⟩))))))))
      ·refine Qc Z Z Z Z (Qc Z Z Z Z (Qc Z Z Z Z (Qc Z Z Z Z ?_)))
       refine Q3 Z Z Z Z ?_
       refine Qa (Qp Z Z) Z (Qa (Qb Z) Z (Qc Z Z Z Z (Qc Z Z Z Z (Qc Z Z Z Z (Qc Z Z Z Z (Q3 Z Z Z Z (Qa (Qp Z Z) Z (Qa (Qb Z) Z (Qc Z Z Z Z (Qc Z Z Z Z (Qc Z Z Z Z (Qc Z Z Z Z (Q3 Z Z Z Z (Qa (Qp Z Z) Z (Qn ⟨Z,Z,Z,Z,Z,congrArg (fun b=>some (Value.bool b)) (show false = ((((((((decide (x.queue = y.queue)) && (decide (x.staged = y.staged))) && (decide (x.inputs = y.inputs))) && (decide (x.cells = y.cells))) && (decide (x.sums = y.sums))) && (decide (x.black = y.black))) && (decide (x.caps = y.caps))) && (decide (x.dones = y.dones))) by first | (rw [hg1,hg2,hg3,hg4,hg5] <;> rfl) | (simp [hg1,hg2,hg3,hg4,hg5];done) | (simp only [Qq] <;> simp)),trivial⟩ ⟨E,(by omega),h1,h2⟩)))))))))))))))
     ·refine Qc Z Z Z Z (Qc Z Z Z Z (Qc Z Z Z Z (Qc Z Z Z Z ?_)))
      refine Q3 Z Z Z Z ?_
      refine Qa (Qp Z Z) Z (Qa (Qb Z) Z (Qc Z Z Z Z (Qc Z Z Z Z (Qc Z Z Z Z (Qc Z Z Z Z (Q3 Z Z Z Z (Qa (Qp Z Z) Z (Qa (Qb Z) Z (Qc Z Z Z Z (Qc Z Z Z Z (Qc Z Z Z Z (Qc Z Z Z Z (Q3 Z Z Z Z (Qa (Qp Z Z) Z (Qa (Qb Z) Z (Qc Z Z Z Z (Qc Z Z Z Z (Qc Z Z Z Z (Qc Z Z Z Z (Q3 Z Z Z Z (Qa (Qp Z Z) Z (Qn ⟨Z,Z,Z,Z,Z,congrArg (fun b=>some (Value.bool b)) (show false = ((((((((decide (x.queue = y.queue)) && (decide (x.staged = y.staged))) && (decide (x.inputs = y.inputs))) && (decide (x.cells = y.cells))) && (decide (x.sums = y.sums))) && (decide (x.black = y.black))) && (decide (x.caps = y.caps))) && (decide (x.dones = y.dones))) by first | (rw [hg1,hg2,hg3,hg4] <;> rfl) | (simp [hg1,hg2,hg3,hg4];done) | (simp only [Qq] <;> simp)),trivial⟩ ⟨E,(by omega),h1,h2⟩))))))))))))))))))))))
    ·refine Qc Z Z Z Z (Qc Z Z Z Z (Qc Z Z Z Z (Qc Z Z Z Z ?_)))
     refine Q3 Z Z Z Z ?_
     refine Qa (Qp Z Z) Z (Qa (Qb Z) Z (Qc Z Z Z Z (Qc Z Z Z Z (Qc Z Z Z Z (Qc Z Z Z Z (Q3 Z Z Z Z (Qa (Qp Z Z) Z (Qa (Qb Z) Z (Qc Z Z Z Z (Qc Z Z Z Z (Qc Z Z Z Z (Qc Z Z Z Z (Q3 Z Z Z Z (Qa (Qp Z Z) Z (Qa (Qb Z) Z (Qc Z Z Z Z (Qc Z Z Z Z (Qc Z Z Z Z (Qc Z Z Z Z (Q3 Z Z Z Z (Qa (Qp Z Z) Z (Qa (Qb Z) Z (Qc Z Z Z Z (Qc Z Z Z Z (Qc Z Z Z Z (Qc Z Z Z Z (Q3 Z Z Z Z (Qa (Qp Z Z) Z (Qn ⟨Z,Z,Z,Z,Z,congrArg (fun b=>some (Value.bool b)) (show false = ((((((((decide (x.queue = y.queue)) && (decide (x.staged = y.staged))) && (decide (x.inputs = y.inputs))) && (decide (x.cells = y.cells))) && (decide (x.sums = y.sums))) && (decide (x.black = y.black))) && (decide (x.caps = y.caps))) && (decide (x.dones = y.dones))) by first | (rw [hg1,hg2,hg3] <;> rfl) | (simp [hg1,hg2,hg3];done) | (simp only [Qq] <;> simp)),trivial⟩ ⟨E,(by omega),h1,h2⟩)))))))))))))))))))))))))))))
   ·refine Qc Z Z Z Z (Qc Z Z Z Z (Qc Z Z Z Z (Qc Z Z Z Z ?_)))
    refine Q3 Z Z Z Z ?_
    refine Qa (Qp Z Z) Z (Qa (Qb Z) Z (Qc Z Z Z Z (Qc Z Z Z Z (Qc Z Z Z Z (Qc Z Z Z Z (Q3 Z Z Z Z (Qa (Qp Z Z) Z (Qa (Qb Z) Z (Qc Z Z Z Z (Qc Z Z Z Z (Qc Z Z Z Z (Qc Z Z Z Z (Q3 Z Z Z Z (Qa (Qp Z Z) Z (Qa (Qb Z) Z (Qc Z Z Z Z (Qc Z Z Z Z (Qc Z Z Z Z (Qc Z Z Z Z (Q3 Z Z Z Z (Qa (Qp Z Z) Z (Qa (Qb Z) Z (Qc Z Z Z Z (Qc Z Z Z Z (Qc Z Z Z Z (Qc Z Z Z Z (Q3 Z Z Z Z (Qa (Qp Z Z) Z (Qa (Qb Z) Z (Qc Z Z Z Z (Qc Z Z Z Z (Qc Z Z Z Z (Qc Z Z Z Z (Q3 Z Z Z Z (Qa (Qp Z Z) Z (Qn ⟨Z,Z,Z,Z,Z,congrArg (fun b=>some (Value.bool b)) (show false = ((((((((decide (x.queue = y.queue)) && (decide (x.staged = y.staged))) && (decide (x.inputs = y.inputs))) && (decide (x.cells = y.cells))) && (decide (x.sums = y.sums))) && (decide (x.black = y.black))) && (decide (x.caps = y.caps))) && (decide (x.dones = y.dones))) by first | (rw [hg1,hg2] <;> rfl) | (simp [hg1,hg2];done) | (simp only [Qq] <;> simp)),trivial⟩ ⟨E,(by omega),h1,h2⟩))))))))))))))))))))))))))))))))))))
  ·refine Qc Z Z Z Z (Qc Z Z Z Z (Qc Z Z Z Z (Qc Z Z Z Z ?_)))
   refine Q3 Z Z Z Z ?_
   refine Qa (Qp Z Z) Z (Qa (Qb Z) Z (Qc Z Z Z Z (Qc Z Z Z Z (Qc Z Z Z Z (Qc Z Z Z Z (Q3 Z Z Z Z (Qa (Qp Z Z) Z (Qa (Qb Z) Z (Qc Z Z Z Z (Qc Z Z Z Z (Qc Z Z Z Z (Qc Z Z Z Z (Q3 Z Z Z Z (Qa (Qp Z Z) Z (Qa (Qb Z) Z (Qc Z Z Z Z (Qc Z Z Z Z (Qc Z Z Z Z (Qc Z Z Z Z (Q3 Z Z Z Z (Qa (Qp Z Z) Z (Qa (Qb Z) Z (Qc Z Z Z Z (Qc Z Z Z Z (Qc Z Z Z Z (Qc Z Z Z Z (Q3 Z Z Z Z (Qa (Qp Z Z) Z (Qa (Qb Z) Z (Qc Z Z Z Z (Qc Z Z Z Z (Qc Z Z Z Z (Qc Z Z Z Z (Q3 Z Z Z Z (Qa (Qp Z Z) Z (Qa (Qb Z) Z (Qc Z Z Z Z (Qc Z Z Z Z (Qc Z Z Z Z (Qc Z Z Z Z (Q3 Z Z Z Z (Qa (Qp Z Z) Z (Qn ⟨Z,Z,Z,Z,Z,congrArg (fun b=>some (Value.bool b)) (show false = ((((((((decide (x.queue = y.queue)) && (decide (x.staged = y.staged))) && (decide (x.inputs = y.inputs))) && (decide (x.cells = y.cells))) && (decide (x.sums = y.sums))) && (decide (x.black = y.black))) && (decide (x.caps = y.caps))) && (decide (x.dones = y.dones))) by first | (rw [hg1] <;> rfl) | (simp [hg1];done) | (simp only [Qq] <;> simp)),trivial⟩ ⟨E,(by omega),h1,h2⟩)))))))))))))))))))))))))))))))))))))))))))
 clear E h1 h2
 rintro w4 ⟨E,z11,h1,h2⟩
 refine Qa (Qe Z) Z (Qd (Qx (Qu Z Z E ?_)))
 refine congrArg Value.bool (Bool.eq_iff_iff.2 ?_);cases x;cases y;simp [and_assoc]

set_option maxRecDepth 20000 in
theorem s_l12At (vcode : Value) (code : List Byt) (w : World) (hcode : RdS w vcode code) : Ct Tryz.prog 36 [vcode] w (fun v w'=>∃ (dr0 : Worker) (dr1 : Int),Q6 dr0 ≤ 200 ∧ ∃ c0,v = .tuple [.agg c0.toArray,.int .i64 dr1].toArray ∧ Dat.R w' w.heap.size w'.heap.size c0 dr0):=by
 refine Yp Tryz.func36 Z Tryz.ntmps36 Z ?_
 refine Yb [(0,vcode)] ⟨Z,trivial⟩ ?_
 have E : Ext w w:=Ext.refl w
 refine Qh (Qi [false,true] Z Z (Yd Yh Z (fun b1 w1 e1 s1 h1=>?_)))
 have g_b1 : w.heap.size ≤ b1:=by have:=E.size;omega
 have y_b1:=h1.lt
 replace E:=E.trans e1
 have z1:=e1.size
 refine Qa (Qe Z) Z (Qd (Qh (Qi [true,false,true,true,true,false,false,false,false] Z Z (Qa (Qb Z) Z (Qw Tryz.call25 Z (s_l12Case vcode code _ (hcode.ext E)) Z (fun _ w2 e2 ho1=>?_))))))
 obtain ⟨dx1,dx2,q1,q2,ho1⟩:=ho1
 obtain ⟨_,_,rfl,ho2,ho3⟩:=ho1
 have g_ho1 : w.heap.size ≤ w1.heap.size:=E.size
 replace E:=E.trans e2;replace h1:=h1.ext e2
 have z2:=e2.size
 obtain ⟨o1,rfl,hd1⟩:=Graph.op ho2
 obtain ⟨o2,o3,o4,o5,o6,o7,o8,o9,rfl,hd2,hd3,hd4,hd5,hd6,hd7,hd8,hd9⟩:=Worker.op ho3
 refine Qa (Qb Z) Z (Qa (Ym Z Z) Z (Qa (Ym Z Z) Z (Yd Xz Z (fun b2 w3 e3 s2 h2=>?_))))
 have g_b2 : w.heap.size ≤ b2:=by have:=E.size;omega
 have y_b2:=h2.lt
 replace E:=E.trans e3;replace h1:=h1.ext e3;replace hd1:=hd1.ext e3;replace hd2:=hd2.ext e3;replace hd3:=hd3.ext e3;replace hd4:=hd4.ext e3;replace hd5:=hd5.ext e3;replace hd6:=hd6.ext e3;replace hd7:=hd7.ext e3;replace hd8:=hd8.ext e3;replace hd9:=hd9.ext e3
 have z3:=e3.size
 refine Yd Yh Z (fun b3 w4 e4 s3 h3=>?_)
 have g_b3 : w.heap.size ≤ b3:=by have:=E.size;omega
 have y_b3:=h3.lt
 replace E:=E.trans e4;replace h1:=h1.ext e4;replace hd1:=hd1.ext e4;replace hd2:=hd2.ext e4;replace hd3:=hd3.ext e4;replace hd4:=hd4.ext e4;replace hd5:=hd5.ext e4;replace hd6:=hd6.ext e4;replace hd7:=hd7.ext e4;replace hd8:=hd8.ext e4;replace hd9:=hd9.ext e4;replace h2:=h2.ext e4
 have z4:=e4.size
 refine Qs (cs':=[o1,.int .i64 dx1.workers,.int .i64 dx1.cap]) Xz Z Z Z (Qg (RdD.one hd1) (Qg Z (Qg Z Z))) h2 (Nat.le_of_ble_eq_true Z) Z (fun w5 m1 h2'=>?_)
 replace h2:=h2'
 replace E:=E.step m1 (fun g hg=>by cases hg;omega);replace h1:=h1.mod m1 (fun g hg=>by cases hg;omega);replace hd1:=hd1.mod m1 (fun g hg=>by cases hg;omega);replace hd2:=hd2.mod m1 (fun g hg=>by cases hg;omega);replace hd3:=hd3.mod m1 (fun g hg=>by cases hg;omega);replace hd4:=hd4.mod m1 (fun g hg=>by cases hg;omega);replace hd5:=hd5.mod m1 (fun g hg=>by cases hg;omega);replace hd6:=hd6.mod m1 (fun g hg=>by cases hg;omega);replace hd7:=hd7.mod m1 (fun g hg=>by cases hg;omega);replace hd8:=hd8.mod m1 (fun g hg=>by cases hg;omega);replace hd9:=hd9.mod m1 (fun g hg=>by cases hg;omega);replace h3:=h3.mod m1 (fun g hg=>by cases hg;omega)
 have z5:=m1.size
 refine Qs (cs':=[o2,o3,o4,o5,o6,o7,o8,o9]) Yh Z Z Z (Qg (RdD.one hd2) (Qg (RdD.one hd3) (Qg (RdD.one hd4) (Qg (RdD.one hd5) (Qg (RdD.one hd6) (Qg (RdD.one hd7) (Qg (RdD.one hd8) (Qg (RdD.one hd9) Z)))))))) h3 (Nat.le_of_ble_eq_true Z) Z (fun w6 m2 h3'=>?_)
 replace h3:=h3'
 replace E:=E.step m2 (fun g hg=>by cases hg;omega);replace h1:=h1.mod m2 (fun g hg=>by cases hg;omega);replace hd1:=hd1.mod m2 (fun g hg=>by cases hg;omega);replace hd2:=hd2.mod m2 (fun g hg=>by cases hg;omega);replace hd3:=hd3.mod m2 (fun g hg=>by cases hg;omega);replace hd4:=hd4.mod m2 (fun g hg=>by cases hg;omega);replace hd5:=hd5.mod m2 (fun g hg=>by cases hg;omega);replace hd6:=hd6.mod m2 (fun g hg=>by cases hg;omega);replace hd7:=hd7.mod m2 (fun g hg=>by cases hg;omega);replace hd8:=hd8.mod m2 (fun g hg=>by cases hg;omega);replace hd9:=hd9.mod m2 (fun g hg=>by cases hg;omega);replace h2:=h2.mod m2 (fun g hg=>by cases hg;omega)
 have z6:=m2.size
 refine Qd (Qh (Ga Xd [1,4,6] [(0,true),(1,true),(2,false),(3,false),(4,true)] [(5,false),(6,true)] (by decide +kernel) Z Z (fun w'=>Ext w w' ∧ w6.heap.size ≤ w'.heap.size ∧ Blk w' b1 [.slice none 0 0,.slice none 0 0,.slice none 0 0,.slice none 0 0,.slice none 0 0,.slice none 0 0,.slice none 0 0,.slice none 0 0] ∧ RdD w' w1.heap.size w2.heap.size o1 dx1.nodes ∧ RdD w' w1.heap.size w2.heap.size o2 dx2.queue ∧ RdD w' w1.heap.size w2.heap.size o3 dx2.staged ∧ RdD w' w1.heap.size w2.heap.size o4 dx2.inputs ∧ RdD w' w1.heap.size w2.heap.size o5 dx2.cells ∧ RdD w' w1.heap.size w2.heap.size o6 dx2.sums ∧ RdD w' w1.heap.size w2.heap.size o7 dx2.black ∧ RdD w' w1.heap.size w2.heap.size o8 dx2.caps ∧ RdD w' w1.heap.size w2.heap.size o9 dx2.dones ∧ Blk w' b2 [o1,.int .i64 dx1.workers,.int .i64 dx1.cap] ∧ Blk w' b3 [o2,o3,o4,o5,o6,o7,o8,o9]) (fun w7 e5=>?_)))
 replace E:=E.trans e5;replace h1:=h1.ext e5;replace hd1:=hd1.ext e5;replace hd2:=hd2.ext e5;replace hd3:=hd3.ext e5;replace hd4:=hd4.ext e5;replace hd5:=hd5.ext e5;replace hd6:=hd6.ext e5;replace hd7:=hd7.ext e5;replace hd8:=hd8.ext e5;replace hd9:=hd9.ext e5;replace h2:=h2.ext e5;replace h3:=h3.ext e5
 have z7:=e5.size
 refine ⟨⟨E,(by omega),h1,hd1,hd2,hd3,hd4,hd5,hd6,hd7,hd8,hd9,h2,h3⟩,?_⟩
 refine U2 rfl (fun wX hX=>by obtain ⟨E,zX,h1,hd1,hd2,hd3,hd4,hd5,hd6,hd7,hd8,hd9,h2,h3⟩:=hX;exact Ql Yh rfl h3.at rfl) rfl ?_
 refine Kw Z (fun wX=>Qb Z) Z ?_
 refine K7 Z ?_
 refine Qw Tryz.call37 Z (s_l01New vcode code _ (hcode.ext E)) Z (fun _ w8 e6 hcu1=>?_)
 obtain ⟨bc1,rfl,ybc1,hcu1⟩:=hcu1
 have g_bc1 : w.heap.size ≤ bc1:=Nat.le_trans E.size ybc1
 have y_bc1:=CurO.lt hcu1
 replace E:=E.trans e6;replace h1:=h1.ext e6;replace hd1:=hd1.ext e6;replace hd2:=hd2.ext e6;replace hd3:=hd3.ext e6;replace hd4:=hd4.ext e6;replace hd5:=hd5.ext e6;replace hd6:=hd6.ext e6;replace hd7:=hd7.ext e6;replace hd8:=hd8.ext e6;replace hd9:=hd9.ext e6;replace h2:=h2.ext e6;replace h3:=h3.ext e6
 have z8:=e6.size
 refine Xx ⟨E,(by omega),h1,hd1,hd2,hd3,hd4,hd5,hd6,hd7,hd8,hd9,h2,h3⟩ ?_
 refine K7 Z ?_
 refine Yf Tryz.call66 Z Z (s_l01Below bc1 vcode code 6 _ hcu1 (RdD.widen (RdD.ext (RdS.rdD hcode) E) (Nat.le_refl _) (by omega))) Z (fun _ w9 e7 hv=>?_)
 obtain ⟨dx3,q3,q4,hcu1',hv⟩:=hv
 replace hcu1:=hcu1'
 subst hv
 replace E:=E.stepR e7 (by omega);replace h1:=h1.modR e7 (by omega);replace hd1:=hd1.modR e7 (by omega);replace hd2:=hd2.modR e7 (by omega);replace hd3:=hd3.modR e7 (by omega);replace hd4:=hd4.modR e7 (by omega);replace hd5:=hd5.modR e7 (by omega);replace hd6:=hd6.modR e7 (by omega);replace hd7:=hd7.modR e7 (by omega);replace hd8:=hd8.modR e7 (by omega);replace hd9:=hd9.modR e7 (by omega);replace h2:=h2.modR e7 (by omega);replace h3:=h3.modR e7 (by omega)
 have z9:=e7.size
 refine Xx ⟨E,(by omega),h1,hd1,hd2,hd3,hd4,hd5,hd6,hd7,hd8,hd9,h2,h3⟩ ?_
 refine Kw Z (fun wX=>Gh Z Z Z) Z ?_
 refine Gc ?_
 refine Qs (cs':=[o2,o3,o4,o5,o6,o7,o8,o9]) Yh Z Z Z (Qg (RdD.one hd2) (Qg (RdD.one hd3) (Qg (RdD.one hd4) (Qg (RdD.one hd5) (Qg (RdD.one hd6) (Qg (RdD.one hd7) (Qg (RdD.one hd8) (Qg (RdD.one hd9) Z)))))))) h1 (Nat.le_of_ble_eq_true Z) Z (fun w10 m3 h1'=>?_)
 replace h1:=h1'
 replace E:=E.step m3 (fun g hg=>by cases hg;omega);replace hd1:=hd1.mod m3 (fun g hg=>by cases hg;omega);replace hd2:=hd2.mod m3 (fun g hg=>by cases hg;omega);replace hd3:=hd3.mod m3 (fun g hg=>by cases hg;omega);replace hd4:=hd4.mod m3 (fun g hg=>by cases hg;omega);replace hd5:=hd5.mod m3 (fun g hg=>by cases hg;omega);replace hd6:=hd6.mod m3 (fun g hg=>by cases hg;omega);replace hd7:=hd7.mod m3 (fun g hg=>by cases hg;omega);replace hd8:=hd8.mod m3 (fun g hg=>by cases hg;omega);replace hd9:=hd9.mod m3 (fun g hg=>by cases hg;omega);replace h2:=h2.mod m3 (fun g hg=>by cases hg;omega);replace h3:=h3.mod m3 (fun g hg=>by cases hg;omega);replace hcu1:=hcu1.mod m3 (fun g hg=>by cases hg;omega)
 have z10:=m3.size
 refine Qa (Qe Z) Z (Qd (Qx (Y1 (l:=[.cell 2 33,.tmp 3]) (vs:=[.agg [o2,o3,o4,o5,o6,o7,o8,o9].toArray,.int .i64 (IntKind.i64.wrap (((dx3 : Nat) : Int) - 1))]) Z ⟨.cell Z (Qv Yh h1.at Z),.tmp Z,trivial⟩ Z E ?_)))
 exact ⟨dx2,(IntKind.i64.wrap (((dx3 : Nat) : Int) - 1)),(by assumption),⟨_,Z,(Worker.mkR _ (RdD.widen hd2 (by have:=E.size;omega) (by omega)) (RdD.widen hd3 (by have:=E.size;omega) (by omega)) (RdD.widen hd4 (by have:=E.size;omega) (by omega)) (RdD.widen hd5 (by have:=E.size;omega) (by omega)) (RdD.widen hd6 (by have:=E.size;omega) (by omega)) (RdD.widen hd7 (by have:=E.size;omega) (by omega)) (RdD.widen hd8 (by have:=E.size;omega) (by omega)) (RdD.widen hd9 (by have:=E.size;omega) (by omega)))⟩⟩

set_option maxRecDepth 20000 in
theorem c_StampOrder (a : Stamp) (b : Stamp) (w : World)  : Ct Tryz.prog 95 [.agg (Enc.enc a).toArray,.agg (Enc.enc b).toArray] w (fun v _=>v = .int .i64 (Yi a b)):=by
 refine Yp Tryz.func95 Z Tryz.ntmps95 Z ?_
 refine Yb [(0,.agg (Enc.enc a).toArray),(1,.agg (Enc.enc b).toArray)] ⟨Z,Z,trivial⟩ ?_
 have E : Ext w w:=Ext.refl w
 refine Qh (Qi [false,false,true] Z Z (Xb Z Z (fun b1 w1 e1 s1 h1=>?_)))
 have g_b1 : w.heap.size ≤ b1:=by have:=E.size;omega
 have y_b1:=h1.lt
 replace E:=E.trans e1
 have z1:=e1.size
 refine Xb Z Z (fun b2 w2 e2 s2 h2=>?_)
 have g_b2 : w.heap.size ≤ b2:=by have:=E.size;omega
 have y_b2:=h2.lt
 replace E:=E.trans e2;replace h1:=h1.ext e2
 have z2:=e2.size
 refine Qa (Qe Z) Z (Qd (Qh (Qi [true,true,true,true,false,true,true,true,true,false,false,true] Z Z (Qa (Qf Uh Z) Z (Qa (Qk Xi Z (h1.one 0 Z)) Z (Qa (Qf U8 Z) Z (Qa (Qk Xi Z (h1.one 1 Z)) Z (Qz (vs:=[.int .i64 a.epoch,.int .i64 a.turn]) (css:=[[.int .i64 a.epoch],[.int .i64 a.turn]]) Kd Z Z ⟨⟨Z,Z⟩,⟨Z,Z⟩,trivial⟩ Z Z (fun b3 w3 e3 s3 h3=>?_)))))))))
 replace h3 : Blk w3 b3 [.int .i64 a.epoch,.int .i64 a.turn]:=h3
 have g_b3 : w.heap.size ≤ b3:=by have:=E.size;omega
 have y_b3:=h3.lt
 replace E:=E.trans e3;replace h1:=h1.ext e3;replace h2:=h2.ext e3
 have z3:=e3.size
 refine Qa (Qf Uh Z) Z (Qa (Qk Xi Z (h2.one 0 Z)) Z (Qa (Qf U8 Z) Z (Qa (Qk Xi Z (h2.one 1 Z)) Z (Qz (vs:=[.int .i64 b.epoch,.int .i64 b.turn]) (css:=[[.int .i64 b.epoch],[.int .i64 b.turn]]) Kd Z Z ⟨⟨Z,Z⟩,⟨Z,Z⟩,trivial⟩ Z Z (fun b4 w4 e4 s4 h4=>?_)))))
 replace h4 : Blk w4 b4 [.int .i64 b.epoch,.int .i64 b.turn]:=h4
 have g_b4 : w.heap.size ≤ b4:=by have:=E.size;omega
 have y_b4:=h4.lt
 replace E:=E.trans e4;replace h1:=h1.ext e4;replace h2:=h2.ext e4;replace h3:=h3.ext e4
 have z4:=e4.size
 refine Qw Tryz.call73 Z (c_orderOf (.slice (some ⟨b3,0,none⟩) 2 2) [a.epoch,a.turn] (.slice (some ⟨b4,0,none⟩) 2 2) [b.epoch,b.turn] _ (Blk.rd (α:=Int) (xs:=[a.epoch,a.turn]) (by decide) h3 Z (by simp [maxLen])) (Blk.rd (α:=Int) (xs:=[b.epoch,b.turn]) (by decide) h4 Z (by simp [maxLen]))) Z (fun _ w5 e5 hv=>?_)
 subst hv
 replace E:=E.trans e5;replace h1:=h1.ext e5;replace h2:=h2.ext e5;replace h3:=h3.ext e5;replace h4:=h4.ext e5
 have z5:=e5.size
 refine Qa (Qe Z) Z (Qd (Qx (Qu Z Z E ?_)))
 rfl

set_option maxRecDepth 20000 in
theorem s_StampOrder (a : Stamp) (b : Stamp) (w : World)  : Ct Tryz.prog 81 [.agg (Enc.enc a).toArray,.agg (Enc.enc b).toArray] w (fun v _=>v = .int .i64 (Yi a b)):=by
 refine Yp Tryz.func81 Z Tryz.ntmps81 Z ?_
 refine Yb [(0,.agg (Enc.enc a).toArray),(1,.agg (Enc.enc b).toArray)] ⟨Z,Z,trivial⟩ ?_
 have E : Ext w w:=Ext.refl w
 refine Qh (Qi [false,false,true] Z Z (Xb Z Z (fun b1 w1 e1 s1 h1=>?_)))
 have g_b1 : w.heap.size ≤ b1:=by have:=E.size;omega
 have y_b1:=h1.lt
 replace E:=E.trans e1
 have z1:=e1.size
 refine Xb Z Z (fun b2 w2 e2 s2 h2=>?_)
 have g_b2 : w.heap.size ≤ b2:=by have:=E.size;omega
 have y_b2:=h2.lt
 replace E:=E.trans e2;replace h1:=h1.ext e2
 have z2:=e2.size
 refine Qa (Qe Z) Z (Qd (Qh (Qh (Qi [true,true,true,true,false,true] Z Z (Qa (Qf Uh Z) Z (Qa (Qk Xi Z (h1.one 0 Z)) Z (Qa (Qf Uh Z) Z (Qa (Qk Xi Z (h2.one 0 Z)) Z (Qw Tryz.call76 Z (c_l02Order a.epoch b.epoch _ ) Z (fun _ w3 e3 hv=>?_))))))))))
 subst hv
 replace E:=E.trans e3;replace h1:=h1.ext e3;replace h2:=h2.ext e3
 have z3:=e3.size
 refine Qa (Qe Z) Z (Qd (Qh (Qi [true,true] Z Z (Qa (Qb Z) Z (Qa (X1 Z Z) Z (Qd (Qt Z (fun hc1=>?_) (fun hc1=>?_))))))))
 ·refine Qh (Qi [true,true] Z Z (Qa (Qb Z) Z (Qa (Qe Z) Z (Qd (Qx (Qu Z Z E ?_))))))
  rw [stampOrd_1 hc1]
 ·refine Qy (Qh (Qi [true,true,true,true,false,true] Z Z (Qa (Qf U8 Z) Z (Qa (Qk Xi Z (h1.one 1 Z)) Z (Qa (Qf U8 Z) Z (Qa (Qk Xi Z (h2.one 1 Z)) Z (Qw Tryz.call76 Z (c_l02Order a.turn b.turn _ ) Z (fun _ w4 e4 hv=>?_))))))))
  subst hv
  replace E:=E.trans e4;replace h1:=h1.ext e4;replace h2:=h2.ext e4
  have z4:=e4.size
  refine Qa (Qe Z) Z (Qd (Qx (Qu Z Z E ?_)))
  rw [stampOrd_2 hc1]

set_option maxRecDepth 20000 in
theorem c_RecordOrder (a : Record) (b : Record) (w : World)  : Ct Tryz.prog 78 [.agg (Enc.enc a).toArray,.agg (Enc.enc b).toArray] w (fun v _=>v = .int .i64 (Kl a b)):=by
 refine Yp Tryz.func78 Z Tryz.ntmps78 Z ?_
 refine Yb [(0,.agg (Enc.enc a).toArray),(1,.agg (Enc.enc b).toArray)] ⟨Z,Z,trivial⟩ ?_
 have E : Ext w w:=Ext.refl w
 refine Qh (Qi [false,false,true] Z Z (Xb Z Z (fun b1 w1 e1 s1 h1=>?_)))
 have g_b1 : w.heap.size ≤ b1:=by have:=E.size;omega
 have y_b1:=h1.lt
 replace E:=E.trans e1
 have z1:=e1.size
 refine Xb Z Z (fun b2 w2 e2 s2 h2=>?_)
 have g_b2 : w.heap.size ≤ b2:=by have:=E.size;omega
 have y_b2:=h2.lt
 replace E:=E.trans e2;replace h1:=h1.ext e2
 have z2:=e2.size
 refine Qa (Qe Z) Z (Qd (Qh (Qh (Qi [true,true,true,true,false,true] Z Z (Qa (Qf X4 Z) Z (Qa (Ql Xs Z (h1.part 1 [.int .i64 a.stamp.epoch,.int .i64 a.stamp.turn] Z) Z) Z (Qa (Qf X4 Z) Z (Qa (Ql Xs Z (h2.part 1 [.int .i64 b.stamp.epoch,.int .i64 b.stamp.turn] Z) Z) Z (Qw Tryz.call95 Z (c_StampOrder a.stamp b.stamp _ ) Z (fun _ w3 e3 hv=>?_))))))))))
 subst hv
 replace E:=E.trans e3;replace h1:=h1.ext e3;replace h2:=h2.ext e3
 have z3:=e3.size
 refine Qa (Qe Z) Z (Qd (Qh (Qi [true,true] Z Z (Qa (Qb Z) Z (Qa (X1 Z Z) Z (Qd (Qt Z (fun hc1=>?_) (fun hc1=>?_))))))))
 ·refine Qh (Qi [true,true] Z Z (Qa (Qb Z) Z (Qa (Qe Z) Z (Qd (Qx (Qu Z Z E ?_))))))
  rw [recOrd_1 hc1]
 ·refine Qy (Qh (Qi [true,true,true,true,true,true,false,true,true,true,true,true,true,false,false,true] Z Z (Qa (Qf Ve Z) Z (Qa (Qk Xi Z (h1.one 0 Z)) Z (Qa (Qf Th Z) Z (Qa (Qk Xi Z (h1.one 3 Z)) Z (Qa (Qf Tg Z) Z (Qa (Qk Xi Z (h1.one 4 Z)) Z (Qz (vs:=[.int .i64 a.op,.int .i64 a.key,.int .i64 a.val]) (css:=[[.int .i64 a.op],[.int .i64 a.key],[.int .i64 a.val]]) Kd Z Z ⟨⟨Z,Z⟩,⟨Z,Z⟩,⟨Z,Z⟩,trivial⟩ Z Z (fun b3 w4 e4 s3 h3=>?_))))))))))
  replace h3 : Blk w4 b3 [.int .i64 a.op,.int .i64 a.key,.int .i64 a.val]:=h3
  have g_b3 : w.heap.size ≤ b3:=by have:=E.size;omega
  have y_b3:=h3.lt
  replace E:=E.trans e4;replace h1:=h1.ext e4;replace h2:=h2.ext e4
  have z4:=e4.size
  refine Qa (Qf Ve Z) Z (Qa (Qk Xi Z (h2.one 0 Z)) Z (Qa (Qf Th Z) Z (Qa (Qk Xi Z (h2.one 3 Z)) Z (Qa (Qf Tg Z) Z (Qa (Qk Xi Z (h2.one 4 Z)) Z (Qz (vs:=[.int .i64 b.op,.int .i64 b.key,.int .i64 b.val]) (css:=[[.int .i64 b.op],[.int .i64 b.key],[.int .i64 b.val]]) Kd Z Z ⟨⟨Z,Z⟩,⟨Z,Z⟩,⟨Z,Z⟩,trivial⟩ Z Z (fun b4 w5 e5 s4 h4=>?_)))))))
  replace h4 : Blk w5 b4 [.int .i64 b.op,.int .i64 b.key,.int .i64 b.val]:=h4
  have g_b4 : w.heap.size ≤ b4:=by have:=E.size;omega
  have y_b4:=h4.lt
  replace E:=E.trans e5;replace h1:=h1.ext e5;replace h2:=h2.ext e5;replace h3:=h3.ext e5
  have z5:=e5.size
  refine Qw Tryz.call73 Z (c_orderOf (.slice (some ⟨b3,0,none⟩) 3 3) [a.op,a.key,a.val] (.slice (some ⟨b4,0,none⟩) 3 3) [b.op,b.key,b.val] _ (Blk.rd (α:=Int) (xs:=[a.op,a.key,a.val]) (by decide) h3 Z (by simp [maxLen])) (Blk.rd (α:=Int) (xs:=[b.op,b.key,b.val]) (by decide) h4 Z (by simp [maxLen]))) Z (fun _ w6 e6 hv=>?_)
  subst hv
  replace E:=E.trans e6;replace h1:=h1.ext e6;replace h2:=h2.ext e6;replace h3:=h3.ext e6;replace h4:=h4.ext e6
  have z6:=e6.size
  refine Qa (Qe Z) Z (Qd (Qx (Qu Z Z E ?_)))
  rw [recOrd_2 hc1]

set_option maxRecDepth 20000 in
theorem s_CountAt (vt : Value) (t : List Count) (s : Stamp) (w : World) (ht : RdS w vt t) : Ct Tryz.prog 80 [vt,.agg (Enc.enc s).toArray] w (fun v _=>v = .int .i64 (Ys t s)):=by
 refine Yp Tryz.func80 Z Tryz.ntmps80 Z ?_
 refine Yb [(0,vt),(1,.agg (Enc.enc s).toArray)] ⟨Z,Z,trivial⟩ ?_
 have E : Ext w w:=Ext.refl w
 refine Qh (Qi [false,true] Z Z (Xb Z Z (fun b1 w1 e1 s1 h1=>?_)))
 have g_b1 : w.heap.size ≤ b1:=by have:=E.size;omega
 have y_b1:=h1.lt
 replace E:=E.trans e1
 have z1:=e1.size
 refine Qa (Qe Z) Z (Qd (Qh (Qh (Qi [true] Z Z (Qa (Qe Z) Z (Qd (Q2 (Y6 (fun (k : Nat)=>[(0,vt),(3,.pointer (some ⟨b1,0,none⟩)),(4,.int .i64 0),(5,.int .i64 ((k : Nat) : Int))]) (fun (k : Nat) w'=>Ext w w' ∧ w1.heap.size ≤ w'.heap.size ∧ Blk w' b1 (Enc.enc s) ∧ k ≤ t.length ∧ Ys (t.drop k) s = Ys t s) (fun (k : Nat)=>t.length - k) 0 ⟨Z,Z,Z,Z,trivial⟩ ⟨E,Nat.le_refl _,h1,Nat.zero_le _,Z⟩ ?_))))))))
 clear E h1
 rintro k w2 ⟨E,z2,h1,hk,hI⟩
 refine Qh (Qh (Qi [true,true,true,true] Z Z (Qa (Qb Z) Z (Qa (Qb Z) Z (Qa (Ye Tryz.underlying38 Z (ht.ext E).len) Z (Qa (Xe Z Z) Z (Qd (Qt Z (fun hc1=>?_) (fun hc1=>?_)))))))))
 ·have hc1n : k < t.length:=by first | (have h:=of_decide_eq_true hc1;omega) | (have h:=hc1;simp at h;omega)
  refine Qy (Qh (Q2 (Qh (Xk Xd [(0,true),(1,true),(2,true),(3,true),(4,true),(5,true),(6,true)] (by decide +kernel) Z (fun w3 e2=>?_)))))
  replace E:=E.trans e2;replace h1:=h1.ext e2
  have z3:=e2.size
  refine Qa (Qb Z) Z (Qa (Qb Z) Z ?_)
  have hi1 : k < t.length:=(by first | assumption | omega | (simp only [List.length_set];first | assumption | omega) | (simp only [List.getElem_set_self,List.length_set];first | assumption | omega) | (simp only [Y3,Yj,List.length_set];first | assumption | omega) | (simp;done))
  refine Qa (Q5 (i:=k) Uz Z Z (ht.ext E) hi1) Z (Qa (Q7 Hk Z) Z (Qa (Ql Xs Z (((ht.ext E).get hi1).part 0 [.int .i64 (((t[k]'hi1).stamp).epoch),.int .i64 (((t[k]'hi1).stamp).turn)] Z) Z) Z (Qa (Ql Xs Z h1.at Z) Z (Qa (R_eqlS (eq53 ((t[k]'hi1).stamp) s) eqg53 Z Z) Z (Qd (Qt Z (fun hc2=>?_) (fun hc2=>?_)))))))
  ·refine Qh (Qi [true,true,true,true,true,true] Z Z (Qa (Qb Z) Z (Qa (Qb Z) Z (Qa (Q5 (i:=k) Uz Z Z (ht.ext E) hi1) Z (Qa (Q7 Ap Z) Z (Qa (Qk Xi Z (((ht.ext E).get hi1).one 2 Z)) Z (Qa (Qe Z) Z (Qd (Qx (Q0 (Yy (Q0 (Qu Z Z E ?_)))))))))))))
   rw [countAt_yes hI (by assumption) (by simpa using hc2)]
  ·refine Qy (Q4 (Yn (Qi [true,true,true] Z Z (Qa (Qb Z) Z (Qa (Yu Z Z (Yw hc1n ht.1)) Z (Qa (Qe Z) Z (Qd (Q4 (Yg (k + 1) (by omega) ⟨Z,Z,Z,Z,trivial⟩ ⟨E,(by omega),h1,(by omega),(countAt_step hI (by assumption) (by simpa using hc2))⟩)))))))))
 ·have hc1n : ¬ k < t.length:=by first | (have h:=of_decide_eq_false hc1;omega) | (have h:=hc1;simp at h;omega)
  refine Y5 (Yc (Q8 ?_))
  refine Qh (Qi [true] Z Z (Qa (Qe Z) Z (Qd (Qx (Qu Z Z E ?_)))))
  rw [countAt_no hI (by omega)]

set_option maxRecDepth 20000 in
theorem s_CountsOk (vt : Value) (t : List Count) (w : World) (ht : RdS w vt t) : Ct Tryz.prog 79 [vt] w (fun v _=>v = .bool (Vk t)):=by
 refine Yp Tryz.func79 Z Tryz.ntmps79 Z ?_
 refine Yb [(0,vt)] ⟨Z,trivial⟩ ?_
 have E : Ext w w:=Ext.refl w
 refine Qh (Qi [true] Z Z (Qa (Qe Z) Z (Qd (Qh (Qh (Qi [true] Z Z (Qa (Qe Z) Z (Qd (Q2 (Y6 (fun (k : Nat)=>[(0,vt),(2,.bool false),(3,.int .i64 ((k : Nat) : Int))]) (fun (k : Nat) w'=>Ext w w' ∧ w.heap.size ≤ w'.heap.size ∧ k ≤ t.length ∧ Gm k (cOkAt t) = true) (fun (k : Nat)=>t.length - k) 0 ⟨Z,Z,Z,trivial⟩ ⟨E,Nat.le_refl _,Nat.zero_le _,Z⟩ ?_))))))))))
 clear E
 rintro k w1 ⟨E,z1,hk,hI1⟩
 have hmi:=ht.1
 unfold maxLen at hmi
 refine Qh (Qh (Qi [true,true,true,true] Z Z (Qa (Qb Z) Z (Qa (Qb Z) Z (Qa (Ye Tryz.underlying38 Z (ht.ext E).len) Z (Qa (Xe Z Z) Z (Qd (Qt Z (fun hc1=>?_) (fun hc1=>?_)))))))))
 ·have hc1n : k < t.length:=by first | (have h:=of_decide_eq_true hc1;omega) | (have h:=hc1;simp at h;omega)
  refine Qy (Qh (Q2 (Qh (Xk Xd [(0,true),(1,true),(2,true),(3,true),(4,true),(5,false),(6,true),(7,true),(8,true),(9,true),(10,true),(11,true),(12,true),(13,false),(14,true),(15,true),(16,true),(17,true),(18,true),(19,true),(20,true),(21,true),(22,true),(23,true),(24,true),(25,true),(26,true),(27,true),(28,true),(29,true),(30,true),(31,true),(32,true),(33,true),(34,true),(35,true),(36,true),(37,true),(38,true),(39,false),(40,true),(41,true),(42,true)] (by decide +kernel) Z (fun w2 e1=>?_)))))
  replace E:=E.trans e1
  have z2:=e1.size
  refine Qa (Qb Z) Z (Qa (Qb Z) Z ?_)
  have hi1 : k < t.length:=(by first | assumption | omega | (simp only [List.length_set];first | assumption | omega) | (simp only [List.getElem_set_self,List.length_set];first | assumption | omega) | (simp only [Y3,Yj,List.length_set];first | assumption | omega) | (simp;done))
  refine Qa (Q5 (i:=k) Uz Z Z (ht.ext E) hi1) Z (Qa (Q7 Hk Z) Z (Qa (Ql Xs Z (((ht.ext E).get hi1).part 0 [.int .i64 (((t[k]'hi1).stamp).epoch),.int .i64 (((t[k]'hi1).stamp).turn)] Z) Z) Z (Qw Tryz.call75 Z (s_StampOk ((t[k]'hi1).stamp) _ ) Z (fun _ w3 e2 hv=>?_))))
  subst hv
  replace E:=E.trans e2
  have z3:=e2.size
  refine Qa (Xn Z) Z (Qa (Qb Z) Z (Xr 35 [(0,vt),(2,.bool false),(3,.int .i64 ((k : Nat) : Int)),(4,.int .i64 ((k : Nat) : Int)),(5,vt),(6,.int .i64 ((t.length : Nat) : Int)),(7,.bool (decide (((k : Nat) : Int) < ((t.length : Nat) : Int)))),(52,.bool ((((!(Yo ((t[k]'hi1).stamp))) || (!(Y2 ((t[k]'hi1).n) (-1000000) 1000000))) || (((t[k]'hi1).n) == 0)) || ((decide (0 < ((k : Nat) : Int))) && (decide (0 ≤ (Yi ((List.getD t (k - 1) default).stamp) ((t[k]'hi1).stamp)))))))] (fun w'=>Ext w w' ∧ w3.heap.size ≤ w'.heap.size) ?_ ?_))
  ·refine Yz (gd:=17) Z Z (fun hg1=>?_) (fun hg1=>?_)
   ·refine Qc Z Z Z Z (Qc Z Z Z Z (Qc Z Z Z Z (Qc Z Z Z Z (Qc Z Z Z Z ?_))))
    refine Q3 Z Z Z Z ?_
    refine Qc Z Z Z Z (Qa (Qr Z Z) Z (Qa (Qb Z) Z (Qc Z Z Z Z (Qc Z Z Z Z (Qc Z Z Z Z (Qc Z Z Z Z (Qc Z Z Z Z (Qc Z Z Z Z (Qa (Qr Z Z) Z (Qa (Qb Z) Z (Qc Z Z Z Z (Qc Z Z Z Z (Qc Z Z Z Z (Q9 Z Z Z (Q9 Z Z Z (Q9 Z Z Z (Q9 Z Z Z (Q9 Z Z Z (Q9 Z Z Z (Q9 Z Z Z (Q9 Z Z Z (Q9 Z Z Z (Q9 Z Z Z (Q9 Z Z Z ?_))))))))))))))))))))))))
    refine J_ungx Z Z Z ?_
    refine Q9 Z Z Z (Qc Z Z Z Z (Qa (Qr Z Z) Z (Qn ⟨Z,Z,Z,Z,Z,Z,Z,congrArg (fun b=>some (Value.bool b)) (show true = ((((!(Yo ((t[k]'hi1).stamp))) || (!(Y2 ((t[k]'hi1).n) (-1000000) 1000000))) || (((t[k]'hi1).n) == 0)) || ((decide (0 < ((k : Nat) : Int))) && (decide (0 ≤ (Yi ((List.getD t (k - 1) default).stamp) ((t[k]'hi1).stamp)))))) by first | (rw [hg1] <;> rfl) | (simp [hg1];done) | (simp only [Qq] <;> simp)),trivial⟩ ⟨E,(by omega)⟩)))
   ·refine Qm Z Z (Qb Z) Z (Qm Z Z (Qb Z) Z (Qm Z Z (Q5 (i:=k) Uz Z Z (ht.ext E) hi1) Z (Qm Z Z (Q7 Ap Z) Z (Qm Z Z (Qk Xi Z (((ht.ext E).get hi1).one 2 Z)) Z ?_))))
    refine Xa Z Z ?_
    refine Qw Tryz.call32 Z (s_l01In ((t[k]'hi1).n) (-1000000) 1000000 _ ) Z (fun _ w5 e3 hv=>?_)
    subst hv
    replace E:=E.trans e3
    have z4:=e3.size
    refine Qm Z Z (Xn Z) Z (Qa (Qp Z Z) Z (Qa (Qb Z) Z ?_))
    refine Yz (gd:=26) Z Z (fun hg2=>?_) (fun hg2=>?_)
    ·refine Qc Z Z Z Z (Qc Z Z Z Z (Qc Z Z Z Z (Qc Z Z Z Z (Qc Z Z Z Z (Qc Z Z Z Z (Qa (Qr Z Z) Z (Qa (Qb Z) Z (Qc Z Z Z Z (Qc Z Z Z Z (Qc Z Z Z Z (Q9 Z Z Z (Q9 Z Z Z (Q9 Z Z Z (Q9 Z Z Z (Q9 Z Z Z (Q9 Z Z Z (Q9 Z Z Z (Q9 Z Z Z (Q9 Z Z Z (Q9 Z Z Z (Q9 Z Z Z ?_)))))))))))))))))))))
     refine J_ungx Z Z Z ?_
     refine Q9 Z Z Z (Qc Z Z Z Z (Qa (Qr Z Z) Z (Qn ⟨Z,Z,Z,Z,Z,Z,Z,congrArg (fun b=>some (Value.bool b)) (show true = ((((!(Yo ((t[k]'hi1).stamp))) || (!(Y2 ((t[k]'hi1).n) (-1000000) 1000000))) || (((t[k]'hi1).n) == 0)) || ((decide (0 < ((k : Nat) : Int))) && (decide (0 ≤ (Yi ((List.getD t (k - 1) default).stamp) ((t[k]'hi1).stamp)))))) by first | (rw [hg1,hg2] <;> rfl) | (simp [hg1,hg2];done) | (simp only [Qq] <;> simp)),trivial⟩ ⟨E,(by omega)⟩)))
    ·refine Qm Z Z (Qb Z) Z (Qm Z Z (Qb Z) Z (Qm Z Z (Q5 (i:=k) Uz Z Z (ht.ext E) hi1) Z (Qm Z Z (Q7 Ap Z) Z (Qm Z Z (Qk Xi Z (((ht.ext E).get hi1).one 2 Z)) Z (Qm Z Z (Y9 Z Z) Z (Qa (Qp Z Z) Z (Qa (Qb Z) Z ?_)))))))
     refine Yz (gd:=34) Z Z (fun hg3=>?_) (fun hg3=>?_)
     ·refine Qc Z Z Z Z (Qc Z Z Z Z (Qc Z Z Z Z (Q9 Z Z Z (Q9 Z Z Z (Q9 Z Z Z (Q9 Z Z Z (Q9 Z Z Z (Q9 Z Z Z (Q9 Z Z Z (Q9 Z Z Z (Q9 Z Z Z (Q9 Z Z Z (Q9 Z Z Z ?_)))))))))))))
      refine J_ungx Z Z Z ?_
      refine Q9 Z Z Z (Qc Z Z Z Z (Qa (Qr Z Z) Z (Qn ⟨Z,Z,Z,Z,Z,Z,Z,congrArg (fun b=>some (Value.bool b)) (show true = ((((!(Yo ((t[k]'hi1).stamp))) || (!(Y2 ((t[k]'hi1).n) (-1000000) 1000000))) || (((t[k]'hi1).n) == 0)) || ((decide (0 < ((k : Nat) : Int))) && (decide (0 ≤ (Yi ((List.getD t (k - 1) default).stamp) ((t[k]'hi1).stamp)))))) by first | (rw [hg1,hg2,hg3] <;> rfl) | (simp [hg1,hg2,hg3];done) | (simp only [Qq] <;> simp)),trivial⟩ ⟨E,(by omega)⟩)))
     ·refine Qm Z Z (Qb Z) Z (Qm Z Z (U1 Z Z) Z (Qm Z Z (Qb Z) Z ?_))
      refine Yz (gd:=37) Z Z (fun hg4=>?_) (fun hg4=>?_)
      ·have hg4n : k > 0:=by first | (have h:=of_decide_eq_true hg4;omega) | (have h:=hg4;simp at h;omega)
       refine Qm Z Z (Qb Z) Z (Qm Z Z (Qb Z) Z (Qm Z Z (Gh Z Z (sub_nat (by omega) (by unfold maxLen;omega))) Z (Qm Z Z (Q5 (i:=(k - 1)) Uz Z Z (ht.ext E) (by first | assumption | omega | (simp only [List.length_set];first | assumption | omega) | (simp only [List.getElem_set_self,List.length_set];first | assumption | omega) | (simp only [Y3,Yj,List.length_set];first | assumption | omega) | (simp;done))) Z (Qm Z Z (Q7 Hk Z) Z (Qm Z Z (Ql Xs Z ((RdS.getD (ht.ext E) (i:=(k - 1)) (by first | assumption | omega | (simp only [List.length_set];first | assumption | omega) | (simp only [List.getElem_set_self,List.length_set];first | assumption | omega) | (simp only [Y3,Yj,List.length_set];first | assumption | omega) | (simp;done))).part 0 [.int .i64 (((List.getD t (k - 1) default).stamp).epoch),.int .i64 (((List.getD t (k - 1) default).stamp).turn)] Z) Z) Z (Qm Z Z (Qb Z) Z (Qm Z Z (Qb Z) Z (Qm Z Z (Q5 (i:=k) Uz Z Z (ht.ext E) hi1) Z (Qm Z Z (Q7 Hk Z) Z (Qm Z Z (Ql Xs Z (((ht.ext E).get hi1).part 0 [.int .i64 (((t[k]'hi1).stamp).epoch),.int .i64 (((t[k]'hi1).stamp).turn)] Z) Z) Z ?_))))))))))
       refine Xa Z Z ?_
       refine Qw Tryz.call81 Z (s_StampOrder ((List.getD t (k - 1) default).stamp) ((t[k]'hi1).stamp) _ ) Z (fun _ w6 e4 hv=>?_)
       subst hv
       replace E:=E.trans e4
       have z5:=e4.size
       refine Qm Z Z (Hs Z Z) Z (Qm Z Z (Qr Z Z) Z (Qa (Qp Z Z) Z (Qn ⟨Z,Z,Z,Z,Z,Z,Z,congrArg (fun b=>some (Value.bool b)) (show (decide (0 ≤ (Yi ((List.getD t (k - 1) default).stamp) ((t[k]'hi1).stamp)))) = ((((!(Yo ((t[k]'hi1).stamp))) || (!(Y2 ((t[k]'hi1).n) (-1000000) 1000000))) || (((t[k]'hi1).n) == 0)) || ((decide (0 < ((k : Nat) : Int))) && (decide (0 ≤ (Yi ((List.getD t (k - 1) default).stamp) ((t[k]'hi1).stamp)))))) by first | (rw [hg1,hg2,hg3,hg4] <;> rfl) | (simp [hg1,hg2,hg3,hg4];done) | (simp only [Qq] <;> simp)),trivial⟩ ⟨E,(by omega)⟩)))
      ·have hg4n : ¬ k > 0:=by first | (have h:=of_decide_eq_false hg4;omega) | (have h:=hg4;simp at h;omega)
       refine Qc Z Z Z Z (Qc Z Z Z Z (Qc Z Z Z Z (Qc Z Z Z Z (Qc Z Z Z Z (Qc Z Z Z Z (Qc Z Z Z Z (Qc Z Z Z Z (Qc Z Z Z Z (Qc Z Z Z Z (Qc Z Z Z Z ?_))))))))))
       refine Q3 Z Z Z Z ?_
       refine Qc Z Z Z Z (Qm Z Z (Qp Z Z) Z (Qa (Qp Z Z) Z (Qn ⟨Z,Z,Z,Z,Z,Z,Z,congrArg (fun b=>some (Value.bool b)) (show false = ((((!(Yo ((t[k]'hi1).stamp))) || (!(Y2 ((t[k]'hi1).n) (-1000000) 1000000))) || (((t[k]'hi1).n) == 0)) || ((decide (0 < ((k : Nat) : Int))) && (decide (0 ≤ (Yi ((List.getD t (k - 1) default).stamp) ((t[k]'hi1).stamp)))))) by first | (rw [hg1,hg2,hg3,hg4] <;> rfl) | (simp [hg1,hg2,hg3,hg4];done) | (simp only [Qq] <;> simp)),trivial⟩ ⟨E,(by omega)⟩)))
  clear E
  rintro w4 ⟨E,z6⟩
  refine Qd (Qt Z (fun hc2=>?_) (fun hc2=>?_))
  ·refine Qh (Qi [true] Z Z (Qa (Qe Z) Z (Qd (Qx (Q0 (Yy (Q0 (Qu Z Z E ?_))))))))
   exact bf fun h=>by have:=V9 (show Gm t.length (cOkAt t) = true from h) (by assumption);rw [Ar (by assumption),hc2] at this;cases this
  ·refine Qy (Q4 (Yn (Qi [true,true,true] Z Z (Qa (Qb Z) Z (Qa (Yu Z Z (Yw hc1n ht.1)) Z (Qa (Qe Z) Z (Qd (Q4 (Yg (k + 1) (by omega) ⟨Z,Z,Z,trivial⟩ ⟨E,(by omega),(by omega),Av hI1 ((Ar (by assumption)).trans (congrArg not hc2))⟩)))))))))
 ·have hc1n : ¬ k < t.length:=by first | (have h:=of_decide_eq_false hc1;omega) | (have h:=hc1;simp at h;omega)
  refine Y5 (Yc (Q8 ?_))
  refine Qh (Qi [true] Z Z (Qa (Qe Z) Z (Qd (Qx (Qu Z Z E ?_)))))
  exact bt (T1 hI1 (by omega))

end Go.Proofs.YtcpjlfikdobckaaGreat
