/- What the functions that the laws call come to: a contract each; no condition. -/
import Derived.Test.YtjpoipdddpmeiaaGreatFns4
namespace Go.Proofs.YtjpoipdddpmeiaaGreat
open Go Go.Proofs.YtjpoipdddpmeiaaGreat.X Go.Proofs
set_option maxHeartbeats 4000000 in
set_option maxRecDepth 20000 in
theorem s_l14Copy (cx : List Value) (x : Cluster) (w : World) (hx : Dat.R w 0 w.heap.size cx x) (hb : Ya x ≤ 1048576) : Ct Tryz.prog 56 [.agg cx.toArray] w (fun v w'=>∃ o1 o2 o3 o4 o5,v = .agg [o1,.int .i64 x.graph.workers,.int .i64 x.graph.cap,o2,o3,o4,o5].toArray ∧ OwC w' w.heap.size w'.heap.size o1 o2 o3 o4 o5 x):=by
 have hb2:=hb
 unfold Ya at hb2
 refine Yi Tryz.func56 Z Tryz.ntmps56 Z ?_
 obtain ⟨o1,o2,o3,o4,o5,rfl,hd1,hd2,hd3,hd4,hd5⟩:=Cluster.op hx
 refine Q7 [(0,.agg [o1,.int .i64 x.graph.workers,.int .i64 x.graph.cap,o2,o3,o4,o5].toArray)] ⟨Z,trivial⟩ ?_
 have E : Ext w w:=Ext.refl w
 refine Qe (Qg [false,false] Z Z (Yz Z Z (fun b1 w1 e1 s1 h1=>?_)))
 have g_b1 : w.heap.size ≤ b1:=by have:=E.size;omega
 have y_b1:=h1.lt
 replace E:=E.trans e1
 have z1:=e1.size
 refine Yj Xt Z (fun b2 w2 e2 s2 h2=>?_)
 have g_b2 : w.heap.size ≤ b2:=by have:=E.size;omega
 have y_b2:=h2.lt
 replace E:=E.trans e2;replace h1:=h1.ext e2
 have z2:=e2.size
 refine Qc (Qe (S_regQ Xp [(0,true),(1,true),(4,true),(5,true),(8,true),(9,true)] [⟨2,8,0,[],false,none,some (fun w0 w v f=>∃ o,v = .agg [o,.int .i64 x.graph.workers,.int .i64 x.graph.cap].toArray ∧ OwF w w0.heap.size w.heap.size o x.graph.nodes f)⟩,⟨3,9,5,[],true,none,none⟩,⟨6,12,5,List.flatMap (Enc.enc (α:=Token)) x.tokens,false,some (3,9),none⟩,⟨7,13,3,[],true,none,none⟩,⟨10,16,3,List.flatMap (Enc.enc (α:=News)) x.news,false,some (7,13),none⟩] ⟨12,3,0,[],false,none,some (fun _ w v f=>∃ b,v = .pointer (some ⟨b,0,none⟩) ∧ Blk w b [.slice none 0 0,.int .i64 0,.int .i64 0,.slice none 0 0,.slice none 0 0,.slice none 0 0,.slice none 0 0] ∧ f = [b])⟩ [(11,true),(13,false)] [(11,true),(12,false),(13,false)] (by kernel_rfl) (by kernel_rfl) Z Z Z [(0,.agg [o1,.int .i64 x.graph.workers,.int .i64 x.graph.cap,o2,o3,o4,o5].toArray),(1,.pointer (some ⟨b1,0,none⟩)),(2,.pointer (some ⟨b2,0,none⟩)),(6,.pointer (some ⟨b1,0,none⟩)),(7,.agg [o1,.int .i64 x.graph.workers,.int .i64 x.graph.cap].toArray),(10,.pointer (some ⟨b1,5,none⟩)),(11,o4),(14,.pointer (some ⟨b1,6,none⟩)),(15,o5)] (fun w'=>Ext w w' ∧ w2.heap.size ≤ w'.heap.size ∧ Blk w' b1 ([o1,.int .i64 x.graph.workers,.int .i64 x.graph.cap,o2,o3,o4,o5]) ∧ Blk w' b2 [.slice none 0 0,.int .i64 0,.int .i64 0,.slice none 0 0,.slice none 0 0,.slice none 0 0,.slice none 0 0]) (fun w3 e3=>?_) (fun w3 hphi_w3=>?_)))
 ·replace E:=E.trans e3;replace h1:=h1.ext e3;replace h2:=h2.ext e3
  have z3:=e3.size
  refine Qa (Qb Ul Z) Z (Qa (Qy Uh Z (h1.part 0 [o1,.int .i64 x.graph.workers,.int .i64 x.graph.cap] Z) Z) Z (Qa (Qb U5 Z) Z (Qa (Qk Cg Z (h1.one 5 Z)) Z (Qa (Qb Gz Z) Z (Qa (Qk Bi Z (h1.one 6 Z)) Z (Qq ⟨Z,Z,Z,Z,Z,Z,Z,Z,Z,trivial⟩ ⟨E,(by omega),h1,h2⟩))))))
 clear E h1 h2
 obtain ⟨E,z4,h1,h2⟩:=hphi_w3
 refine ⟨⟨⟨_,Z,Z,Z,Z,?_⟩,⟨_,Z,Z,Z,Z,?_⟩,⟨_,Z,Z,Z,Z,?_⟩,⟨_,Z,Z,Z,Z,?_⟩,⟨_,Z,Z,Z,Z,?_⟩,⟨_,Z,Z,Z,Z,?_⟩,trivial⟩,?_,?_⟩
 ·exact step_callX Tryz.call99 rfl (fun wX eX=>by have E:=E.trans eX;exact Ct.mono (s_l08Copy [o1,.int .i64 x.graph.workers,.int .i64 x.graph.cap] x.graph _ (Graph.mkR x.graph (RdD.any (hd1.ext E))) (by omega)) fun v w' e h=>by obtain ⟨o,rfl,h⟩:=h;obtain ⟨f,h⟩:=OwS.owf h;exact ⟨f,⟨o,rfl,h.widen eX.size (Nat.le_refl _)⟩,h.in2⟩)
 ·exact U6 Gs
 ·exact U7 Gs Z (fun _ eX=>RdS.src (RdS.ext (hd4.rd.ext E) eX)) (Xi _) (by simp only [Yx,List.length_nil];simp only [Enc.sz];omega) (by decide)
 ·exact U6 Cf
 ·exact U7 Cf Z (fun _ eX=>RdS.src (RdS.ext (hd5.rd.ext E) eX)) (Xi _) (by simp only [Yx,List.length_nil];simp only [Enc.sz];omega) (by decide)
 ·exact step_box Xt
 ·intro w4 e4
  intro v1 f1 ho1 v2 f2 ho2 v3 f3 ho3 v4 f4 ho4 v5 f5 ho5 v6 f6 ho6 sp1
  obtain ⟨_,_,eX,⟨v1,rfl,ho1⟩,_⟩:=ho1;replace ho1:=OwF.widen (OwF.ext ho1 eX) (Nat.le_refl _) eX.size
  obtain ⟨ho2,rfl⟩:=ho2
  obtain ⟨ho3,rfl⟩:=ho3
  obtain ⟨ho4,rfl⟩:=ho4
  obtain ⟨ho5,rfl⟩:=ho5
  obtain ⟨_,_,eX,⟨v6,rfl,ho6,rfl⟩,f6b⟩:=ho6;replace ho6:=Blk.ext ho6 eX;replace f6b:=And.intro (f6b v6 (by simp)).1 ho6.lt;clear eX
  replace sp1 : DjL [f1,(Kc v3),(Kc v5),[v6]]:=sp1
  have g_sp1 : w.heap.size ≤ w3.heap.size:=E.size
  replace E:=E.trans e4;replace h1:=h1.ext e4;replace h2:=h2.ext e4
  have z5:=e4.size
  clear ho2
  replace ho3 : Own w4 w3.heap.size w4.heap.size 5 v3 (List.flatMap (Enc.enc (α:=Token)) x.tokens):=ho3
  clear ho4
  replace ho5 : Own w4 w3.heap.size w4.heap.size 3 v5 (List.flatMap (Enc.enc (α:=News)) x.news):=ho5
  have g_v6 : w.heap.size ≤ v6:=by have:=E.size;omega
  have y_v6:=ho6.lt
  refine J_sub [(0,.agg [o1,.int .i64 x.graph.workers,.int .i64 x.graph.cap,o2,o3,o4,o5].toArray),(1,.pointer (some ⟨b1,0,none⟩)),(2,.pointer (some ⟨b2,0,none⟩)),(3,.pointer (some ⟨v6,0,none⟩)),(6,.pointer (some ⟨b1,0,none⟩)),(7,.agg [o1,.int .i64 x.graph.workers,.int .i64 x.graph.cap].toArray),(8,.agg [v1,.int .i64 x.graph.workers,.int .i64 x.graph.cap].toArray),(10,.pointer (some ⟨b1,5,none⟩)),(11,o4),(12,v3),(14,.pointer (some ⟨b1,6,none⟩)),(15,o5),(16,v5)] ⟨Z,Z,Z,Z,Z,Z,Z,Z,Z,Z,Z,Z,Z,trivial⟩ ?_
  have hbl1 : ∀ w,(Instr.build 40 ([(0,.agg [v1,.int .i64 x.graph.workers,.int .i64 x.graph.cap].toArray),(3,v3),(4,v5)]).toArray).run Tryz.prog w = .ok (.agg [v1,.int .i64 x.graph.workers,.int .i64 x.graph.cap,.slice none 0 0,.slice none 0 0,v3,v5].toArray) w:=by clear E;obtain ⟨_,_,_,rfl⟩:=SlLen.shape (RdD.len (OwF.rd ho1));obtain ⟨_,_,_,rfl⟩:=Own.shape ho3;obtain ⟨_,_,_,rfl⟩:=Own.shape ho5;intro w;kernel_rfl
  refine Qa (G2 [v1,.int .i64 x.graph.workers,.int .i64 x.graph.cap,.slice none 0 0,.slice none 0 0,v3,v5] Z hbl1) Z (Q6 (cs':=[v1,.int .i64 x.graph.workers,.int .i64 x.graph.cap,.slice none 0 0,.slice none 0 0,v3,v5]) Xt Z Z Z (Qj (RdD.one (OwF.rd ho1)) (Qj Z (Qj Z (Qj Z (Qj Z (Qj ho3.one (Qj ho5.one Z))))))) ho6 (Nat.le_of_ble_eq_true Z) Z (fun w5 m1 ho6'=>?_))
  replace ho6:=ho6'
  have kq1:=Mod.kq (l:=[v6]) m1 (fun g hg=>by cases hg;simp)
  replace E:=E.step m1 (fun g hg=>by cases hg;omega);replace h1:=h1.mod m1 (fun g hg=>by cases hg;omega);replace h2:=h2.mod m1 (fun g hg=>by cases hg;omega);replace ho1:=OwF.kp ho1 (Kq.kp kq1 sp1.1.2.2.1);replace ho3:=Own.kp ho3 (Kq.kp kq1 sp1.2.1.2.1);replace ho5:=Own.kp ho5 (Kq.kp kq1 sp1.2.2.1.1)
  have z6:=m1.size
  refine Qc (Qe (Qe (Qg [true] Z Z (Qa (Qf Z) Z (Qc (Qw (Yk (fun (xq : Nat × Value)=>let ⟨k3,vo3⟩:=xq;[(1,.pointer (some ⟨b1,0,none⟩)),(2,.pointer (some ⟨b2,0,none⟩)),(3,.pointer (some ⟨v6,0,none⟩)),(4,.int .i64 ((k3 : Nat) : Int))]) (fun (xq : Nat × Value) w'=>let ⟨k3,vo3⟩:=xq;Ext w w' ∧ w5.heap.size ≤ w'.heap.size ∧ Blk w' b1 ([o1,.int .i64 x.graph.workers,.int .i64 x.graph.cap,o2,o3,o4,o5]) ∧ Blk w' b2 [.slice none 0 0,.int .i64 0,.int .i64 0,.slice none 0 0,.slice none 0 0,.slice none 0 0,.slice none 0 0] ∧ OwF w' w3.heap.size w4.heap.size v1 x.graph.nodes f1 ∧ Own w' w3.heap.size w4.heap.size 5 v3 (List.flatMap (Enc.enc (α:=Token)) x.tokens) ∧ Own w' w3.heap.size w4.heap.size 3 v5 (List.flatMap (Enc.enc (α:=News)) x.news) ∧ k3 ≤ x.workers.length ∧ OwS w' w5.heap.size w'.heap.size vo3 (x.workers.take k3) ∧ Blk w' v6 [v1,.int .i64 x.graph.workers,.int .i64 x.graph.cap,vo3,.slice none 0 0,v3,v5]) (fun (xq : Nat × Value)=>let ⟨k3,vo3⟩:=xq;x.workers.length - k3) (0,.slice none 0 0) ⟨Z,Z,Z,Z,trivial⟩ ⟨E,Nat.le_refl _,h1,h2,ho1,ho3,ho5,Nat.zero_le _,(OwS.nil _ _ _),ho6⟩ ?_)))))))
  clear E h1 h2 ho1 ho3 ho5 ho6
  rintro ⟨k3,vo3⟩ w6 ⟨E,z7,h1,h2,ho1,ho3,ho5,hk3,hoC3,ho6⟩
  refine Q7 [(1,.pointer (some ⟨b1,0,none⟩)),(2,.pointer (some ⟨b2,0,none⟩)),(3,.pointer (some ⟨v6,0,none⟩)),(4,.int .i64 ((k3 : Nat) : Int))] ⟨Z,Z,Z,Z,trivial⟩ ?_
  refine Qe (Qe (Qg [true,true,true,true,true] Z Z (Qa (Qd Z) Z (Qa (Qb X3 Z) Z (Qa (Qk Vr Z (h1.one 3 Z)) Z (Qa (Yb Tryz.underlying35 Z (hd2.ext E).len) Z (Qa (Yf Z Z) Z (Qc (Qr Z (fun hc1=>?_) (fun hc1=>?_))))))))))
  ·have hc1n : k3 < x.workers.length:=by first | (have h:=of_decide_eq_true hc1;omega) | (have h:=hc1;simp at h;omega)
   refine Qm (Qe (Qw (C0 Xp [9] [(0,true),(1,true),(2,true),(3,true),(4,true),(5,true),(6,true),(7,false),(8,false)] [(9,false),(10,true),(11,false)] (by decide +kernel) Z Z (fun w7 e5=>?_))))
   replace E:=E.trans e5;replace h1:=h1.ext e5;replace h2:=h2.ext e5;replace ho1:=ho1.ext e5;replace ho3:=ho3.ext e5;replace ho5:=ho5.ext e5;replace hoC3:=hoC3.ext e5;replace ho6:=ho6.ext e5
   have z8:=e5.size
   refine Qa (Qb X3 Z) Z (Qa (Qk Vr Z (ho6.one 3 Z)) Z (Qa (Qb X3 Z) Z (Qa (Qk Vr Z (h1.one 3 Z)) Z (Qa (Qd Z) Z ?_))))
   have hi1 : k3 < x.workers.length:=(by first | assumption | omega | (simp only [List.length_set];first | assumption | omega) | (simp only [List.getElem_set_self,List.length_set];first | assumption | omega))
   obtain ⟨_,hr1,ha1⟩:=RdD.get hd2 hi1
   obtain ⟨o6,o7,o8,o9,o10,o11,o12,o13,rfl,hd6,hd7,hd8,hd9,hd10,hd11,hd12,hd13⟩:=Worker.op hr1
   replace ha1 : At w (Y2 o2) (Y9 o2 + k3 * 8) [o6,o7,o8,o9,o10,o11,o12,o13]:=ha1
   refine Qa (Qv (i:=k3) Uk Z Z (hd2.ext E).1 hi1) Z (Qa (Qy Kz Z (ha1.ext E) Z) Z (Qu Tryz.call100 Z (s_l12Copy [o6,o7,o8,o9,o10,o11,o12,o13] (x.workers[k3]'hi1) _ (Worker.mkR (x.workers[k3]'hi1) (RdD.any (hd6.ext E)) (RdD.any (hd7.ext E)) (RdD.any (hd8.ext E)) (RdD.any (hd9.ext E)) (RdD.any (hd10.ext E)) (RdD.any (hd11.ext E)) (RdD.any (hd12.ext E)) (RdD.any (hd13.ext E))) (by have:=Vu (f:=Q8) (show k3 < x.workers.length by omega);unfold Xr at hb2;omega)) Z (fun _ w8 e6 ho7=>?_)))
   obtain ⟨_,rfl,ho7⟩:=ho7
   have g_ho7 : w.heap.size ≤ w7.heap.size:=E.size
   replace E:=E.trans e6;replace h1:=h1.ext e6;replace h2:=h2.ext e6;replace ho1:=ho1.ext e6;replace ho3:=ho3.ext e6;replace ho5:=ho5.ext e6;replace hoC3:=hoC3.ext e6;replace ho6:=ho6.ext e6
   have z9:=e6.size
   obtain ⟨o14,o15,o16,o17,o18,o19,o20,o21,rfl,sp2,hw1,hw2,hw3,hw4,hw5,hw6,hw7,hw8⟩:=Worker.opO ho7
   refine Y8 (vs:=[.agg [o14,o15,o16,o17,o18,o19,o20,o21].toArray]) (css:=[[o14,o15,o16,o17,o18,o19,o20,o21]]) Uk Z Z ⟨⟨Z,Z⟩,trivial⟩ Z Z (fun b3 w9 e7 s3 h3=>?_)
   replace h3 : Blk w9 b3 [o14,o15,o16,o17,o18,o19,o20,o21]:=h3
   have g_b3 : w.heap.size ≤ b3:=by have:=E.size;omega
   have y_b3:=h3.lt
   replace E:=E.trans e7;replace h1:=h1.ext e7;replace h2:=h2.ext e7;replace ho1:=ho1.ext e7;replace ho3:=ho3.ext e7;replace ho5:=ho5.ext e7;replace hoC3:=hoC3.ext e7;replace ho6:=ho6.ext e7;replace hw1:=hw1.ext e7;replace hw2:=hw2.ext e7;replace hw3:=hw3.ext e7;replace hw4:=hw4.ext e7;replace hw5:=hw5.ext e7;replace hw6:=hw6.ext e7;replace hw7:=hw7.ext e7;replace hw8:=hw8.ext e7
   have z10:=e7.size
   refine Tl ?_
   refine J2_X Z ?_
   refine Vi (lo:=w5.heap.size) (hi:=w6.heap.size) (lo2:=w7.heap.size) (hi2:=w9.heap.size) Uk Z Z hoC3 (Src.ofBlk h3 Z) (Worker.mkO (x.workers[k3]'hi1) sp2 (Own.widen hw1 (by omega) (by omega)) (Own.widen hw2 (by omega) (by omega)) (Own.widen hw3 (by omega) (by omega)) (Own.widen hw4 (by omega) (by omega)) (Own.widen hw5 (by omega) (by omega)) (Own.widen hw6 (by omega) (by omega)) (Own.widen hw7 (by omega) (by omega)) (Own.widen hw8 (by omega) (by omega))) (by omega) (by simp only [List.length_take,show Dat.sz Worker = 8 from Z,show Dat.sz Link = 6 from Z];unfold Xr at hb2;omega) (by decide) (by omega) (by omega) (by omega) (by omega) (by omega) Z Z (fun v7 w10 m2 ho8=>?_)
   have hqb:=OwS.inn hoC3
   replace E:=E.step m2 (fun g hg=>by have:=hqb g hg;omega);replace h1:=h1.mod m2 (fun g hg=>by have:=hqb g hg;omega);replace h2:=h2.mod m2 (fun g hg=>by have:=hqb g hg;omega);replace ho1:=ho1.mod m2 (fun g hg=>by have:=hqb g hg;omega);replace ho3:=ho3.mod m2 (fun g hg=>by have:=hqb g hg;omega);replace ho5:=ho5.mod m2 (fun g hg=>by have:=hqb g hg;omega);replace ho6:=ho6.mod m2 (fun g hg=>by have:=hqb g hg;omega)
   have z11:=m2.size
   clear hqb
   refine B1 ?_
   refine Qa (Qb X3 Z) Z (Yh (cs':=[v1,.int .i64 x.graph.workers,.int .i64 x.graph.cap,v7,.slice none 0 0,v3,v5]) Vr Z Z (RdD.one (OwS.rd ho8)) ho6 (Nat.le_of_ble_eq_true Z) Z (fun w11 m3 ho6'=>?_))
   replace ho6:=ho6'
   have kq2:=Mod.kq (l:=[v6]) m3 (fun g hg=>by cases hg;simp)
   replace E:=E.step m3 (fun g hg=>by cases hg;omega);replace h1:=h1.mod m3 (fun g hg=>by cases hg;omega);replace h2:=h2.mod m3 (fun g hg=>by cases hg;omega);replace ho1:=OwF.kp ho1 (Kq.kp kq2 sp1.1.2.2.1);replace ho3:=Own.kp ho3 (Kq.kp kq2 sp1.2.1.2.1);replace ho5:=Own.kp ho5 (Kq.kp kq2 sp1.2.2.1.1);replace ho8:=ho8.mod m3 (fun g hg=>by cases hg;omega)
   have z12:=m3.size
   refine Qc (Q5 (Yv (Qg [true,true,true] Z Z (Qa (Qd Z) Z (Qa (Yd Z Z (Yy hc1n (hd2.ext E).1.1)) Z (Qa (Qf Z) Z (Qc (Q5 (Yg (k3 + 1,v7) (by simp;omega) ⟨Z,Z,Z,Z,trivial⟩ ⟨E,(by omega),h1,h2,ho1,ho3,ho5,(by omega),(by rw [List.take_succ_eq_append_getElem (by assumption)];exact OwS.widen ho8 (by omega) (by omega)),ho6⟩)))))))))
  ·have hc1n : ¬ k3 < x.workers.length:=by first | (have h:=of_decide_eq_false hc1;omega) | (have h:=hc1;simp at h;omega)
   refine Ym (Q4 (Q2 ?_))
   refine Qe (Qe (Qg [true] Z Z (Qa (Qf Z) Z (Qc (Qw (Yk (fun (xq : Nat × Value)=>let ⟨k4,vo4⟩:=xq;[(1,.pointer (some ⟨b1,0,none⟩)),(2,.pointer (some ⟨b2,0,none⟩)),(3,.pointer (some ⟨v6,0,none⟩)),(5,.int .i64 ((k4 : Nat) : Int))]) (fun (xq : Nat × Value) w'=>let ⟨k4,vo4⟩:=xq;Ext w w' ∧ w6.heap.size ≤ w'.heap.size ∧ Blk w' b1 ([o1,.int .i64 x.graph.workers,.int .i64 x.graph.cap,o2,o3,o4,o5]) ∧ Blk w' b2 [.slice none 0 0,.int .i64 0,.int .i64 0,.slice none 0 0,.slice none 0 0,.slice none 0 0,.slice none 0 0] ∧ OwF w' w3.heap.size w4.heap.size v1 x.graph.nodes f1 ∧ Own w' w3.heap.size w4.heap.size 5 v3 (List.flatMap (Enc.enc (α:=Token)) x.tokens) ∧ Own w' w3.heap.size w4.heap.size 3 v5 (List.flatMap (Enc.enc (α:=News)) x.news) ∧ OwS w' w5.heap.size w6.heap.size vo3 (x.workers.take k3) ∧ k4 ≤ x.links.length ∧ OwS w' w6.heap.size w'.heap.size vo4 (x.links.take k4) ∧ Blk w' v6 [v1,.int .i64 x.graph.workers,.int .i64 x.graph.cap,vo3,vo4,v3,v5]) (fun (xq : Nat × Value)=>let ⟨k4,vo4⟩:=xq;x.links.length - k4) (0,.slice none 0 0) ⟨Z,Z,Z,Z,trivial⟩ ⟨E,Nat.le_refl _,h1,h2,ho1,ho3,ho5,hoC3,Nat.zero_le _,(OwS.nil _ _ _),ho6⟩ ?_))))))
   clear E h1 h2 ho1 ho3 ho5 hoC3 ho6
   rintro ⟨k4,vo4⟩ w12 ⟨E,z13,h1,h2,ho1,ho3,ho5,hoC3,hk4,hoC4,ho6⟩
   refine Q7 [(1,.pointer (some ⟨b1,0,none⟩)),(2,.pointer (some ⟨b2,0,none⟩)),(3,.pointer (some ⟨v6,0,none⟩)),(5,.int .i64 ((k4 : Nat) : Int))] ⟨Z,Z,Z,Z,trivial⟩ ?_
   refine Qe (Qe (Qg [true,true,true,true,true] Z Z (Qa (Qd Z) Z (Qa (Qb Ki Z) Z (Qa (Qk V7 Z (h1.one 4 Z)) Z (Qa (Yb Tryz.underlying36 Z (hd3.ext E).len) Z (Qa (Yf Z Z) Z (Qc (Qr Z (fun hc2=>?_) (fun hc2=>?_))))))))))
   ·have hc2n : k4 < x.links.length:=by first | (have h:=of_decide_eq_true hc2;omega) | (have h:=hc2;simp at h;omega)
    refine Qm (Qe (Qw (C0 Xp [9] [(0,true),(1,true),(2,true),(3,true),(4,true),(5,true),(6,true),(7,false),(8,false)] [(9,false),(10,true),(11,false)] (by decide +kernel) Z Z (fun w13 e8=>?_))))
    replace E:=E.trans e8;replace h1:=h1.ext e8;replace h2:=h2.ext e8;replace ho1:=ho1.ext e8;replace ho3:=ho3.ext e8;replace ho5:=ho5.ext e8;replace hoC3:=hoC3.ext e8;replace hoC4:=hoC4.ext e8;replace ho6:=ho6.ext e8
    have z14:=e8.size
    refine Qa (Qb Ki Z) Z (Qa (Qk V7 Z (ho6.one 4 Z)) Z (Qa (Qb Ki Z) Z (Qa (Qk V7 Z (h1.one 4 Z)) Z (Qa (Qd Z) Z ?_))))
    have hi2 : k4 < x.links.length:=(by first | assumption | omega | (simp only [List.length_set];first | assumption | omega) | (simp only [List.getElem_set_self,List.length_set];first | assumption | omega))
    obtain ⟨_,hr2,ha2⟩:=RdD.get hd3 hi2
    obtain ⟨o22,rfl,hd14⟩:=Link.op hr2
    replace ha2 : At w (Y2 o3) (Y9 o3 + k4 * 6) [.int .i64 ((x.links[k4]'hi2).cap),o22,.int .i64 ((x.links[k4]'hi2).credits),.int .i64 ((x.links[k4]'hi2).back),.int .i64 ((x.links[k4]'hi2).sent),.int .i64 ((x.links[k4]'hi2).got)]:=ha2
    refine Qa (Qv (i:=k4) Vb Z Z (hd3.ext E).1 hi2) Z (Qa (Qy Xv Z (ha2.ext E) Z) Z (Qu Tryz.call101 Z (s_l06Copy [.int .i64 ((x.links[k4]'hi2).cap),o22,.int .i64 ((x.links[k4]'hi2).credits),.int .i64 ((x.links[k4]'hi2).back),.int .i64 ((x.links[k4]'hi2).sent),.int .i64 ((x.links[k4]'hi2).got)] (x.links[k4]'hi2) _ (Link.mkR (x.links[k4]'hi2) (RdD.any (hd14.ext E))) (by have:=Vu (f:=Y0) (show k4 < x.links.length by omega);unfold Xr at hb2;omega)) Z (fun _ w14 e9 ho9=>?_)))
    obtain ⟨_,rfl,ho9⟩:=ho9
    have g_ho9 : w.heap.size ≤ w13.heap.size:=E.size
    replace E:=E.trans e9;replace h1:=h1.ext e9;replace h2:=h2.ext e9;replace ho1:=ho1.ext e9;replace ho3:=ho3.ext e9;replace ho5:=ho5.ext e9;replace hoC3:=hoC3.ext e9;replace hoC4:=hoC4.ext e9;replace ho6:=ho6.ext e9
    have z15:=e9.size
    obtain ⟨o23,rfl,sp3,hw9⟩:=Link.opO ho9
    refine Y8 (vs:=[.agg [.int .i64 ((x.links[k4]'hi2).cap),o23,.int .i64 ((x.links[k4]'hi2).credits),.int .i64 ((x.links[k4]'hi2).back),.int .i64 ((x.links[k4]'hi2).sent),.int .i64 ((x.links[k4]'hi2).got)].toArray]) (css:=[[.int .i64 ((x.links[k4]'hi2).cap),o23,.int .i64 ((x.links[k4]'hi2).credits),.int .i64 ((x.links[k4]'hi2).back),.int .i64 ((x.links[k4]'hi2).sent),.int .i64 ((x.links[k4]'hi2).got)]]) Vb Z Z ⟨⟨Z,Z⟩,trivial⟩ Z Z (fun b4 w15 e10 s4 h4=>?_)
    replace h4 : Blk w15 b4 [.int .i64 ((x.links[k4]'hi2).cap),o23,.int .i64 ((x.links[k4]'hi2).credits),.int .i64 ((x.links[k4]'hi2).back),.int .i64 ((x.links[k4]'hi2).sent),.int .i64 ((x.links[k4]'hi2).got)]:=h4
    have g_b4 : w.heap.size ≤ b4:=by have:=E.size;omega
    have y_b4:=h4.lt
    replace E:=E.trans e10;replace h1:=h1.ext e10;replace h2:=h2.ext e10;replace ho1:=ho1.ext e10;replace ho3:=ho3.ext e10;replace ho5:=ho5.ext e10;replace hoC3:=hoC3.ext e10;replace hoC4:=hoC4.ext e10;replace ho6:=ho6.ext e10;replace hw9:=hw9.ext e10
    have z16:=e10.size
    refine Tl ?_
    refine J2_X Z ?_
    refine Vi (lo:=w6.heap.size) (hi:=w12.heap.size) (lo2:=w13.heap.size) (hi2:=w15.heap.size) Vb Z Z hoC4 (Src.ofBlk h4 Z) (Link.mkO (x.links[k4]'hi2) sp3 (Own.widen hw9 (by omega) (by omega))) (by omega) (by simp only [List.length_take,show Dat.sz Worker = 8 from Z,show Dat.sz Link = 6 from Z];unfold Xr at hb2;omega) (by decide) (by omega) (by omega) (by omega) (by omega) (by omega) Z Z (fun v8 w16 m4 ho10=>?_)
    have hqb:=OwS.inn hoC4
    replace E:=E.step m4 (fun g hg=>by have:=hqb g hg;omega);replace h1:=h1.mod m4 (fun g hg=>by have:=hqb g hg;omega);replace h2:=h2.mod m4 (fun g hg=>by have:=hqb g hg;omega);replace ho1:=ho1.mod m4 (fun g hg=>by have:=hqb g hg;omega);replace ho3:=ho3.mod m4 (fun g hg=>by have:=hqb g hg;omega);replace ho5:=ho5.mod m4 (fun g hg=>by have:=hqb g hg;omega);replace hoC3:=hoC3.mod m4 (fun g hg=>by have:=hqb g hg;omega);replace ho6:=ho6.mod m4 (fun g hg=>by have:=hqb g hg;omega)
    have z17:=m4.size
    clear hqb
    refine B1 ?_
    refine Qa (Qb Ki Z) Z (Yh (cs':=[v1,.int .i64 x.graph.workers,.int .i64 x.graph.cap,vo3,v8,v3,v5]) V7 Z Z (RdD.one (OwS.rd ho10)) ho6 (Nat.le_of_ble_eq_true Z) Z (fun w17 m5 ho6'=>?_))
    replace ho6:=ho6'
    have kq3:=Mod.kq (l:=[v6]) m5 (fun g hg=>by cases hg;simp)
    replace E:=E.step m5 (fun g hg=>by cases hg;omega);replace h1:=h1.mod m5 (fun g hg=>by cases hg;omega);replace h2:=h2.mod m5 (fun g hg=>by cases hg;omega);replace ho1:=OwF.kp ho1 (Kq.kp kq3 sp1.1.2.2.1);replace ho3:=Own.kp ho3 (Kq.kp kq3 sp1.2.1.2.1);replace ho5:=Own.kp ho5 (Kq.kp kq3 sp1.2.2.1.1);replace hoC3:=hoC3.mod m5 (fun g hg=>by cases hg;omega);replace ho10:=ho10.mod m5 (fun g hg=>by cases hg;omega)
    have z18:=m5.size
    refine Qc (Q5 (Yv (Qg [true,true,true] Z Z (Qa (Qd Z) Z (Qa (Yd Z Z (Yy hc2n (hd3.ext E).1.1)) Z (Qa (Qf Z) Z (Qc (Q5 (Yg (k4 + 1,v8) (by simp;omega) ⟨Z,Z,Z,Z,trivial⟩ ⟨E,(by omega),h1,h2,ho1,ho3,ho5,hoC3,(by omega),(by rw [List.take_succ_eq_append_getElem (by assumption)];exact OwS.widen ho10 (by omega) (by omega)),ho6⟩)))))))))
   ·have hc2n : ¬ k4 < x.links.length:=by first | (have h:=of_decide_eq_false hc2;omega) | (have h:=hc2;simp at h;omega)
    refine Ym (Q4 (Q2 ?_))
    refine Qe (Qg [true,false] Z Z (Qa (Qy Xt Z ho6.at Z) Z (Q6 (cs':=[v1,.int .i64 x.graph.workers,.int .i64 x.graph.cap,vo3,vo4,v3,v5]) Xt Z Z Z (Qj (RdD.one (OwF.rd ho1)) (Qj Z (Qj Z (Qj (RdD.one (OwS.rd hoC3)) (Qj (RdD.one (OwS.rd hoC4)) (Qj ho3.one (Qj ho5.one Z))))))) h2 (Nat.le_of_ble_eq_true Z) Z (fun w18 m6 h2'=>?_))))
    replace h2:=h2'
    replace E:=E.step m6 (fun g hg=>by cases hg;omega);replace h1:=h1.mod m6 (fun g hg=>by cases hg;omega);replace ho1:=ho1.mod m6 (fun g hg=>by cases hg;omega);replace ho3:=ho3.mod m6 (fun g hg=>by cases hg;omega);replace ho5:=ho5.mod m6 (fun g hg=>by cases hg;omega);replace hoC3:=hoC3.mod m6 (fun g hg=>by cases hg;omega);replace hoC4:=hoC4.mod m6 (fun g hg=>by cases hg;omega);replace ho6:=ho6.mod m6 (fun g hg=>by cases hg;omega)
    have z19:=m6.size
    refine Qc (Qt (Xu Z Z (Yc Xt h2.at Z) E ?_))
    rw [List.take_of_length_le (by omega)] at hoC3 hoC4
    exact ⟨_,_,_,_,_,Z,OwC.of2 x ho1 hoC3 hoC4 ho3 ho5 ⟨⟨sp1.1.1,sp1.1.2.1,trivial⟩,⟨sp1.2.1.1,trivial⟩,trivial,trivial⟩ (by have:=E.size;omega) (by omega)⟩
 ·intro w19 e11
  intro v9 f7 ho11 v10 f8 ho12 v11 f9 ho13 v12 f10 ho14 v13 f11 ho15 sp4
  obtain ⟨_,_,eX,⟨v9,rfl,ho11⟩,_⟩:=ho11;replace ho11:=OwF.widen (OwF.ext ho11 eX) (Nat.le_refl _) eX.size
  obtain ⟨ho12,rfl⟩:=ho12
  obtain ⟨ho13,rfl⟩:=ho13
  obtain ⟨ho14,rfl⟩:=ho14
  obtain ⟨ho15,rfl⟩:=ho15
  replace sp4 : DjL [f7,(Kc v11),(Kc v13)]:=sp4
  have g_sp4 : w.heap.size ≤ w3.heap.size:=E.size
  replace E:=E.trans e11;replace h1:=h1.ext e11;replace h2:=h2.ext e11
  have z20:=e11.size
  clear ho12
  replace ho13 : Own w19 w3.heap.size w19.heap.size 5 v11 (List.flatMap (Enc.enc (α:=Token)) x.tokens):=ho13
  clear ho14
  replace ho15 : Own w19 w3.heap.size w19.heap.size 3 v13 (List.flatMap (Enc.enc (α:=News)) x.news):=ho15
  refine J_sub [(0,.agg [o1,.int .i64 x.graph.workers,.int .i64 x.graph.cap,o2,o3,o4,o5].toArray),(1,.pointer (some ⟨b1,0,none⟩)),(2,.pointer (some ⟨b2,0,none⟩)),(6,.pointer (some ⟨b1,0,none⟩)),(7,.agg [o1,.int .i64 x.graph.workers,.int .i64 x.graph.cap].toArray),(8,.agg [v9,.int .i64 x.graph.workers,.int .i64 x.graph.cap].toArray),(10,.pointer (some ⟨b1,5,none⟩)),(11,o4),(12,v11),(14,.pointer (some ⟨b1,6,none⟩)),(15,o5),(16,v13)] ⟨Z,Z,Z,Z,Z,Z,Z,Z,Z,Z,Z,Z,trivial⟩ ?_
  have hbl2 : ∀ w,(Instr.build 40 ([(0,.agg [v9,.int .i64 x.graph.workers,.int .i64 x.graph.cap].toArray),(3,v11),(4,v13)]).toArray).run Tryz.prog w = .ok (.agg [v9,.int .i64 x.graph.workers,.int .i64 x.graph.cap,.slice none 0 0,.slice none 0 0,v11,v13].toArray) w:=by clear E;obtain ⟨_,_,_,rfl⟩:=SlLen.shape (RdD.len (OwF.rd ho11));obtain ⟨_,_,_,rfl⟩:=Own.shape ho13;obtain ⟨_,_,_,rfl⟩:=Own.shape ho15;intro w;kernel_rfl
  refine Qa (G2 [v9,.int .i64 x.graph.workers,.int .i64 x.graph.cap,.slice none 0 0,.slice none 0 0,v11,v13] Z hbl2) Z (Yj Xt Z (fun b5 w20 e12 s5 h5=>?_))
  have g_b5 : w.heap.size ≤ b5:=by have:=E.size;omega
  have y_b5:=h5.lt
  replace E:=E.trans e12;replace h1:=h1.ext e12;replace h2:=h2.ext e12;replace ho11:=ho11.ext e12;replace ho13:=ho13.ext e12;replace ho15:=ho15.ext e12
  have z21:=e12.size
  refine Q6 (cs':=[v9,.int .i64 x.graph.workers,.int .i64 x.graph.cap,.slice none 0 0,.slice none 0 0,v11,v13]) Xt Z Z Z (Qj (RdD.one (OwF.rd ho11)) (Qj Z (Qj Z (Qj Z (Qj Z (Qj ho13.one (Qj ho15.one Z))))))) h5 (Nat.le_of_ble_eq_true Z) Z (fun w21 m7 h5'=>?_)
  replace h5:=h5'
  replace E:=E.step m7 (fun g hg=>by cases hg;omega);replace h1:=h1.mod m7 (fun g hg=>by cases hg;omega);replace h2:=h2.mod m7 (fun g hg=>by cases hg;omega);replace ho11:=ho11.mod m7 (fun g hg=>by cases hg;omega);replace ho13:=ho13.mod m7 (fun g hg=>by cases hg;omega);replace ho15:=ho15.mod m7 (fun g hg=>by cases hg;omega)
  have z22:=m7.size
  refine Qc (Qe (Qe (Qg [true] Z Z (Qa (Qf Z) Z (Qc (Qw (Yk (fun (xq : Nat × Value)=>let ⟨k3,vo3⟩:=xq;[(1,.pointer (some ⟨b1,0,none⟩)),(2,.pointer (some ⟨b2,0,none⟩)),(3,.pointer (some ⟨b5,0,none⟩)),(4,.int .i64 ((k3 : Nat) : Int))]) (fun (xq : Nat × Value) w'=>let ⟨k3,vo3⟩:=xq;Ext w w' ∧ w21.heap.size ≤ w'.heap.size ∧ Blk w' b1 ([o1,.int .i64 x.graph.workers,.int .i64 x.graph.cap,o2,o3,o4,o5]) ∧ Blk w' b2 [.slice none 0 0,.int .i64 0,.int .i64 0,.slice none 0 0,.slice none 0 0,.slice none 0 0,.slice none 0 0] ∧ OwF w' w3.heap.size w19.heap.size v9 x.graph.nodes f7 ∧ Own w' w3.heap.size w19.heap.size 5 v11 (List.flatMap (Enc.enc (α:=Token)) x.tokens) ∧ Own w' w3.heap.size w19.heap.size 3 v13 (List.flatMap (Enc.enc (α:=News)) x.news) ∧ k3 ≤ x.workers.length ∧ OwS w' w21.heap.size w'.heap.size vo3 (x.workers.take k3) ∧ Blk w' b5 [v9,.int .i64 x.graph.workers,.int .i64 x.graph.cap,vo3,.slice none 0 0,v11,v13]) (fun (xq : Nat × Value)=>let ⟨k3,vo3⟩:=xq;x.workers.length - k3) (0,.slice none 0 0) ⟨Z,Z,Z,Z,trivial⟩ ⟨E,Nat.le_refl _,h1,h2,ho11,ho13,ho15,Nat.zero_le _,(OwS.nil _ _ _),h5⟩ ?_)))))))
  clear E h1 h2 ho11 ho13 ho15 h5
  rintro ⟨k3,vo3⟩ w22 ⟨E,z23,h1,h2,ho11,ho13,ho15,hk3,hoC3,h5⟩
  refine Q7 [(1,.pointer (some ⟨b1,0,none⟩)),(2,.pointer (some ⟨b2,0,none⟩)),(3,.pointer (some ⟨b5,0,none⟩)),(4,.int .i64 ((k3 : Nat) : Int))] ⟨Z,Z,Z,Z,trivial⟩ ?_
  refine Qe (Qe (Qg [true,true,true,true,true] Z Z (Qa (Qd Z) Z (Qa (Qb X3 Z) Z (Qa (Qk Vr Z (h1.one 3 Z)) Z (Qa (Yb Tryz.underlying35 Z (hd2.ext E).len) Z (Qa (Yf Z Z) Z (Qc (Qr Z (fun hc3=>?_) (fun hc3=>?_))))))))))
  ·have hc3n : k3 < x.workers.length:=by first | (have h:=of_decide_eq_true hc3;omega) | (have h:=hc3;simp at h;omega)
   refine Qm (Qe (Qw (C0 Xp [9] [(0,true),(1,true),(2,true),(3,true),(4,true),(5,true),(6,true),(7,false),(8,false)] [(9,false),(10,true),(11,false)] (by decide +kernel) Z Z (fun w23 e13=>?_))))
   replace E:=E.trans e13;replace h1:=h1.ext e13;replace h2:=h2.ext e13;replace ho11:=ho11.ext e13;replace ho13:=ho13.ext e13;replace ho15:=ho15.ext e13;replace hoC3:=hoC3.ext e13;replace h5:=h5.ext e13
   have z24:=e13.size
   refine Qa (Qb X3 Z) Z (Qa (Qk Vr Z (h5.one 3 Z)) Z (Qa (Qb X3 Z) Z (Qa (Qk Vr Z (h1.one 3 Z)) Z (Qa (Qd Z) Z ?_))))
   have hi3 : k3 < x.workers.length:=(by first | assumption | omega | (simp only [List.length_set];first | assumption | omega) | (simp only [List.getElem_set_self,List.length_set];first | assumption | omega))
   obtain ⟨_,hr3,ha3⟩:=RdD.get hd2 hi3
   obtain ⟨o24,o25,o26,o27,o28,o29,o30,o31,rfl,hd15,hd16,hd17,hd18,hd19,hd20,hd21,hd22⟩:=Worker.op hr3
   replace ha3 : At w (Y2 o2) (Y9 o2 + k3 * 8) [o24,o25,o26,o27,o28,o29,o30,o31]:=ha3
   refine Qa (Qv (i:=k3) Uk Z Z (hd2.ext E).1 hi3) Z (Qa (Qy Kz Z (ha3.ext E) Z) Z (Qu Tryz.call100 Z (s_l12Copy [o24,o25,o26,o27,o28,o29,o30,o31] (x.workers[k3]'hi3) _ (Worker.mkR (x.workers[k3]'hi3) (RdD.any (hd15.ext E)) (RdD.any (hd16.ext E)) (RdD.any (hd17.ext E)) (RdD.any (hd18.ext E)) (RdD.any (hd19.ext E)) (RdD.any (hd20.ext E)) (RdD.any (hd21.ext E)) (RdD.any (hd22.ext E))) (by have:=Vu (f:=Q8) (show k3 < x.workers.length by omega);unfold Xr at hb2;omega)) Z (fun _ w24 e14 ho16=>?_)))
   obtain ⟨_,rfl,ho16⟩:=ho16
   have g_ho16 : w.heap.size ≤ w23.heap.size:=E.size
   replace E:=E.trans e14;replace h1:=h1.ext e14;replace h2:=h2.ext e14;replace ho11:=ho11.ext e14;replace ho13:=ho13.ext e14;replace ho15:=ho15.ext e14;replace hoC3:=hoC3.ext e14;replace h5:=h5.ext e14
   have z25:=e14.size
   obtain ⟨o32,o33,o34,o35,o36,o37,o38,o39,rfl,sp5,hw10,hw11,hw12,hw13,hw14,hw15,hw16,hw17⟩:=Worker.opO ho16
   refine Y8 (vs:=[.agg [o32,o33,o34,o35,o36,o37,o38,o39].toArray]) (css:=[[o32,o33,o34,o35,o36,o37,o38,o39]]) Uk Z Z ⟨⟨Z,Z⟩,trivial⟩ Z Z (fun b6 w25 e15 s6 h6=>?_)
   replace h6 : Blk w25 b6 [o32,o33,o34,o35,o36,o37,o38,o39]:=h6
   have g_b6 : w.heap.size ≤ b6:=by have:=E.size;omega
   have y_b6:=h6.lt
   replace E:=E.trans e15;replace h1:=h1.ext e15;replace h2:=h2.ext e15;replace ho11:=ho11.ext e15;replace ho13:=ho13.ext e15;replace ho15:=ho15.ext e15;replace hoC3:=hoC3.ext e15;replace h5:=h5.ext e15;replace hw10:=hw10.ext e15;replace hw11:=hw11.ext e15;replace hw12:=hw12.ext e15;replace hw13:=hw13.ext e15;replace hw14:=hw14.ext e15;replace hw15:=hw15.ext e15;replace hw16:=hw16.ext e15;replace hw17:=hw17.ext e15
   have z26:=e15.size
   refine Tl ?_
   refine J2_X Z ?_
   refine Vi (lo:=w21.heap.size) (hi:=w22.heap.size) (lo2:=w23.heap.size) (hi2:=w25.heap.size) Uk Z Z hoC3 (Src.ofBlk h6 Z) (Worker.mkO (x.workers[k3]'hi3) sp5 (Own.widen hw10 (by omega) (by omega)) (Own.widen hw11 (by omega) (by omega)) (Own.widen hw12 (by omega) (by omega)) (Own.widen hw13 (by omega) (by omega)) (Own.widen hw14 (by omega) (by omega)) (Own.widen hw15 (by omega) (by omega)) (Own.widen hw16 (by omega) (by omega)) (Own.widen hw17 (by omega) (by omega))) (by omega) (by simp only [List.length_take,show Dat.sz Worker = 8 from Z,show Dat.sz Link = 6 from Z];unfold Xr at hb2;omega) (by decide) (by omega) (by omega) (by omega) (by omega) (by omega) Z Z (fun v14 w26 m8 ho17=>?_)
   have hqb:=OwS.inn hoC3
   replace E:=E.step m8 (fun g hg=>by have:=hqb g hg;omega);replace h1:=h1.mod m8 (fun g hg=>by have:=hqb g hg;omega);replace h2:=h2.mod m8 (fun g hg=>by have:=hqb g hg;omega);replace ho11:=ho11.mod m8 (fun g hg=>by have:=hqb g hg;omega);replace ho13:=ho13.mod m8 (fun g hg=>by have:=hqb g hg;omega);replace ho15:=ho15.mod m8 (fun g hg=>by have:=hqb g hg;omega);replace h5:=h5.mod m8 (fun g hg=>by have:=hqb g hg;omega)
   have z27:=m8.size
   clear hqb
   refine B1 ?_
   refine Qa (Qb X3 Z) Z (Yh (cs':=[v9,.int .i64 x.graph.workers,.int .i64 x.graph.cap,v14,.slice none 0 0,v11,v13]) Vr Z Z (RdD.one (OwS.rd ho17)) h5 (Nat.le_of_ble_eq_true Z) Z (fun w27 m9 h5'=>?_))
   replace h5:=h5'
   replace E:=E.step m9 (fun g hg=>by cases hg;omega);replace h1:=h1.mod m9 (fun g hg=>by cases hg;omega);replace h2:=h2.mod m9 (fun g hg=>by cases hg;omega);replace ho11:=ho11.mod m9 (fun g hg=>by cases hg;omega);replace ho13:=ho13.mod m9 (fun g hg=>by cases hg;omega);replace ho15:=ho15.mod m9 (fun g hg=>by cases hg;omega);replace ho17:=ho17.mod m9 (fun g hg=>by cases hg;omega)
   have z28:=m9.size
   refine Qc (Q5 (Yv (Qg [true,true,true] Z Z (Qa (Qd Z) Z (Qa (Yd Z Z (Yy hc3n (hd2.ext E).1.1)) Z (Qa (Qf Z) Z (Qc (Q5 (Yg (k3 + 1,v14) (by simp;omega) ⟨Z,Z,Z,Z,trivial⟩ ⟨E,(by omega),h1,h2,ho11,ho13,ho15,(by omega),(by rw [List.take_succ_eq_append_getElem (by assumption)];exact OwS.widen ho17 (by omega) (by omega)),h5⟩)))))))))
  ·have hc3n : ¬ k3 < x.workers.length:=by first | (have h:=of_decide_eq_false hc3;omega) | (have h:=hc3;simp at h;omega)
   refine Ym (Q4 (Q2 ?_))
   refine Qe (Qe (Qg [true] Z Z (Qa (Qf Z) Z (Qc (Qw (Yk (fun (xq : Nat × Value)=>let ⟨k4,vo4⟩:=xq;[(1,.pointer (some ⟨b1,0,none⟩)),(2,.pointer (some ⟨b2,0,none⟩)),(3,.pointer (some ⟨b5,0,none⟩)),(5,.int .i64 ((k4 : Nat) : Int))]) (fun (xq : Nat × Value) w'=>let ⟨k4,vo4⟩:=xq;Ext w w' ∧ w22.heap.size ≤ w'.heap.size ∧ Blk w' b1 ([o1,.int .i64 x.graph.workers,.int .i64 x.graph.cap,o2,o3,o4,o5]) ∧ Blk w' b2 [.slice none 0 0,.int .i64 0,.int .i64 0,.slice none 0 0,.slice none 0 0,.slice none 0 0,.slice none 0 0] ∧ OwF w' w3.heap.size w19.heap.size v9 x.graph.nodes f7 ∧ Own w' w3.heap.size w19.heap.size 5 v11 (List.flatMap (Enc.enc (α:=Token)) x.tokens) ∧ Own w' w3.heap.size w19.heap.size 3 v13 (List.flatMap (Enc.enc (α:=News)) x.news) ∧ OwS w' w21.heap.size w22.heap.size vo3 (x.workers.take k3) ∧ k4 ≤ x.links.length ∧ OwS w' w22.heap.size w'.heap.size vo4 (x.links.take k4) ∧ Blk w' b5 [v9,.int .i64 x.graph.workers,.int .i64 x.graph.cap,vo3,vo4,v11,v13]) (fun (xq : Nat × Value)=>let ⟨k4,vo4⟩:=xq;x.links.length - k4) (0,.slice none 0 0) ⟨Z,Z,Z,Z,trivial⟩ ⟨E,Nat.le_refl _,h1,h2,ho11,ho13,ho15,hoC3,Nat.zero_le _,(OwS.nil _ _ _),h5⟩ ?_))))))
   clear E h1 h2 ho11 ho13 ho15 hoC3 h5
   rintro ⟨k4,vo4⟩ w28 ⟨E,z29,h1,h2,ho11,ho13,ho15,hoC3,hk4,hoC4,h5⟩
   refine Q7 [(1,.pointer (some ⟨b1,0,none⟩)),(2,.pointer (some ⟨b2,0,none⟩)),(3,.pointer (some ⟨b5,0,none⟩)),(5,.int .i64 ((k4 : Nat) : Int))] ⟨Z,Z,Z,Z,trivial⟩ ?_
   refine Qe (Qe (Qg [true,true,true,true,true] Z Z (Qa (Qd Z) Z (Qa (Qb Ki Z) Z (Qa (Qk V7 Z (h1.one 4 Z)) Z (Qa (Yb Tryz.underlying36 Z (hd3.ext E).len) Z (Qa (Yf Z Z) Z (Qc (Qr Z (fun hc4=>?_) (fun hc4=>?_))))))))))
   ·have hc4n : k4 < x.links.length:=by first | (have h:=of_decide_eq_true hc4;omega) | (have h:=hc4;simp at h;omega)
    refine Qm (Qe (Qw (C0 Xp [9] [(0,true),(1,true),(2,true),(3,true),(4,true),(5,true),(6,true),(7,false),(8,false)] [(9,false),(10,true),(11,false)] (by decide +kernel) Z Z (fun w29 e16=>?_))))
    replace E:=E.trans e16;replace h1:=h1.ext e16;replace h2:=h2.ext e16;replace ho11:=ho11.ext e16;replace ho13:=ho13.ext e16;replace ho15:=ho15.ext e16;replace hoC3:=hoC3.ext e16;replace hoC4:=hoC4.ext e16;replace h5:=h5.ext e16
    have z30:=e16.size
    refine Qa (Qb Ki Z) Z (Qa (Qk V7 Z (h5.one 4 Z)) Z (Qa (Qb Ki Z) Z (Qa (Qk V7 Z (h1.one 4 Z)) Z (Qa (Qd Z) Z ?_))))
    have hi4 : k4 < x.links.length:=(by first | assumption | omega | (simp only [List.length_set];first | assumption | omega) | (simp only [List.getElem_set_self,List.length_set];first | assumption | omega))
    obtain ⟨_,hr4,ha4⟩:=RdD.get hd3 hi4
    obtain ⟨o40,rfl,hd23⟩:=Link.op hr4
    replace ha4 : At w (Y2 o3) (Y9 o3 + k4 * 6) [.int .i64 ((x.links[k4]'hi4).cap),o40,.int .i64 ((x.links[k4]'hi4).credits),.int .i64 ((x.links[k4]'hi4).back),.int .i64 ((x.links[k4]'hi4).sent),.int .i64 ((x.links[k4]'hi4).got)]:=ha4
    refine Qa (Qv (i:=k4) Vb Z Z (hd3.ext E).1 hi4) Z (Qa (Qy Xv Z (ha4.ext E) Z) Z (Qu Tryz.call101 Z (s_l06Copy [.int .i64 ((x.links[k4]'hi4).cap),o40,.int .i64 ((x.links[k4]'hi4).credits),.int .i64 ((x.links[k4]'hi4).back),.int .i64 ((x.links[k4]'hi4).sent),.int .i64 ((x.links[k4]'hi4).got)] (x.links[k4]'hi4) _ (Link.mkR (x.links[k4]'hi4) (RdD.any (hd23.ext E))) (by have:=Vu (f:=Y0) (show k4 < x.links.length by omega);unfold Xr at hb2;omega)) Z (fun _ w30 e17 ho18=>?_)))
    obtain ⟨_,rfl,ho18⟩:=ho18
    have g_ho18 : w.heap.size ≤ w29.heap.size:=E.size
    replace E:=E.trans e17;replace h1:=h1.ext e17;replace h2:=h2.ext e17;replace ho11:=ho11.ext e17;replace ho13:=ho13.ext e17;replace ho15:=ho15.ext e17;replace hoC3:=hoC3.ext e17;replace hoC4:=hoC4.ext e17;replace h5:=h5.ext e17
    have z31:=e17.size
    obtain ⟨o41,rfl,sp6,hw18⟩:=Link.opO ho18
    refine Y8 (vs:=[.agg [.int .i64 ((x.links[k4]'hi4).cap),o41,.int .i64 ((x.links[k4]'hi4).credits),.int .i64 ((x.links[k4]'hi4).back),.int .i64 ((x.links[k4]'hi4).sent),.int .i64 ((x.links[k4]'hi4).got)].toArray]) (css:=[[.int .i64 ((x.links[k4]'hi4).cap),o41,.int .i64 ((x.links[k4]'hi4).credits),.int .i64 ((x.links[k4]'hi4).back),.int .i64 ((x.links[k4]'hi4).sent),.int .i64 ((x.links[k4]'hi4).got)]]) Vb Z Z ⟨⟨Z,Z⟩,trivial⟩ Z Z (fun b7 w31 e18 s7 h7=>?_)
    replace h7 : Blk w31 b7 [.int .i64 ((x.links[k4]'hi4).cap),o41,.int .i64 ((x.links[k4]'hi4).credits),.int .i64 ((x.links[k4]'hi4).back),.int .i64 ((x.links[k4]'hi4).sent),.int .i64 ((x.links[k4]'hi4).got)]:=h7
    have g_b7 : w.heap.size ≤ b7:=by have:=E.size;omega
    have y_b7:=h7.lt
    replace E:=E.trans e18;replace h1:=h1.ext e18;replace h2:=h2.ext e18;replace ho11:=ho11.ext e18;replace ho13:=ho13.ext e18;replace ho15:=ho15.ext e18;replace hoC3:=hoC3.ext e18;replace hoC4:=hoC4.ext e18;replace h5:=h5.ext e18;replace hw18:=hw18.ext e18
    have z32:=e18.size
    refine Tl ?_
    refine J2_X Z ?_
    refine Vi (lo:=w22.heap.size) (hi:=w28.heap.size) (lo2:=w29.heap.size) (hi2:=w31.heap.size) Vb Z Z hoC4 (Src.ofBlk h7 Z) (Link.mkO (x.links[k4]'hi4) sp6 (Own.widen hw18 (by omega) (by omega))) (by omega) (by simp only [List.length_take,show Dat.sz Worker = 8 from Z,show Dat.sz Link = 6 from Z];unfold Xr at hb2;omega) (by decide) (by omega) (by omega) (by omega) (by omega) (by omega) Z Z (fun v15 w32 m10 ho19=>?_)
    have hqb:=OwS.inn hoC4
    replace E:=E.step m10 (fun g hg=>by have:=hqb g hg;omega);replace h1:=h1.mod m10 (fun g hg=>by have:=hqb g hg;omega);replace h2:=h2.mod m10 (fun g hg=>by have:=hqb g hg;omega);replace ho11:=ho11.mod m10 (fun g hg=>by have:=hqb g hg;omega);replace ho13:=ho13.mod m10 (fun g hg=>by have:=hqb g hg;omega);replace ho15:=ho15.mod m10 (fun g hg=>by have:=hqb g hg;omega);replace hoC3:=hoC3.mod m10 (fun g hg=>by have:=hqb g hg;omega);replace h5:=h5.mod m10 (fun g hg=>by have:=hqb g hg;omega)
    have z33:=m10.size
    clear hqb
    refine B1 ?_
    refine Qa (Qb Ki Z) Z (Yh (cs':=[v9,.int .i64 x.graph.workers,.int .i64 x.graph.cap,vo3,v15,v11,v13]) V7 Z Z (RdD.one (OwS.rd ho19)) h5 (Nat.le_of_ble_eq_true Z) Z (fun w33 m11 h5'=>?_))
    replace h5:=h5'
    replace E:=E.step m11 (fun g hg=>by cases hg;omega);replace h1:=h1.mod m11 (fun g hg=>by cases hg;omega);replace h2:=h2.mod m11 (fun g hg=>by cases hg;omega);replace ho11:=ho11.mod m11 (fun g hg=>by cases hg;omega);replace ho13:=ho13.mod m11 (fun g hg=>by cases hg;omega);replace ho15:=ho15.mod m11 (fun g hg=>by cases hg;omega);replace hoC3:=hoC3.mod m11 (fun g hg=>by cases hg;omega);replace ho19:=ho19.mod m11 (fun g hg=>by cases hg;omega)
    have z34:=m11.size
    refine Qc (Q5 (Yv (Qg [true,true,true] Z Z (Qa (Qd Z) Z (Qa (Yd Z Z (Yy hc4n (hd3.ext E).1.1)) Z (Qa (Qf Z) Z (Qc (Q5 (Yg (k4 + 1,v15) (by simp;omega) ⟨Z,Z,Z,Z,trivial⟩ ⟨E,(by omega),h1,h2,ho11,ho13,ho15,hoC3,(by omega),(by rw [List.take_succ_eq_append_getElem (by assumption)];exact OwS.widen ho19 (by omega) (by omega)),h5⟩)))))))))
   ·have hc4n : ¬ k4 < x.links.length:=by first | (have h:=of_decide_eq_false hc4;omega) | (have h:=hc4;simp at h;omega)
    refine Ym (Q4 (Q2 ?_))
    refine Qe (Qg [true,false] Z Z (Qa (Qy Xt Z h5.at Z) Z (Q6 (cs':=[v9,.int .i64 x.graph.workers,.int .i64 x.graph.cap,vo3,vo4,v11,v13]) Xt Z Z Z (Qj (RdD.one (OwF.rd ho11)) (Qj Z (Qj Z (Qj (RdD.one (OwS.rd hoC3)) (Qj (RdD.one (OwS.rd hoC4)) (Qj ho13.one (Qj ho15.one Z))))))) h2 (Nat.le_of_ble_eq_true Z) Z (fun w34 m12 h2'=>?_))))
    replace h2:=h2'
    replace E:=E.step m12 (fun g hg=>by cases hg;omega);replace h1:=h1.mod m12 (fun g hg=>by cases hg;omega);replace ho11:=ho11.mod m12 (fun g hg=>by cases hg;omega);replace ho13:=ho13.mod m12 (fun g hg=>by cases hg;omega);replace ho15:=ho15.mod m12 (fun g hg=>by cases hg;omega);replace hoC3:=hoC3.mod m12 (fun g hg=>by cases hg;omega);replace hoC4:=hoC4.mod m12 (fun g hg=>by cases hg;omega);replace h5:=h5.mod m12 (fun g hg=>by cases hg;omega)
    have z35:=m12.size
    refine Qc (Qt (Xu Z Z (Yc Xt h2.at Z) E ?_))
    rw [List.take_of_length_le (by omega)] at hoC3 hoC4
    exact ⟨_,_,_,_,_,Z,OwC.of2 x ho11 hoC3 hoC4 ho13 ho15 ⟨⟨sp4.1.1,sp4.1.2.1,trivial⟩,⟨sp4.2.1.1,trivial⟩,trivial,trivial⟩ (by have:=E.size;omega) (by omega)⟩

set_option maxRecDepth 20000 in
theorem c_linkOf (cx : List Value) (x : Cluster) (a : Int) (b : Int) (w : World) (hx : Dat.R w 0 w.heap.size cx x) (hok : ∀ l ∈ x.links,rg l.got) : Ct Tryz.prog 27 [.agg cx.toArray,.int .i64 a,.int .i64 b] w (fun v _=>v = .int .i64 (Yu x a b)):=by
 refine Yi Tryz.func27 Z Tryz.ntmps27 Z ?_
 obtain ⟨o1,o2,o3,o4,o5,rfl,hd1,hd2,hd3,hd4,hd5⟩:=Cluster.op hx
 refine Q7 [(0,.agg [o1,.int .i64 x.graph.workers,.int .i64 x.graph.cap,o2,o3,o4,o5].toArray),(1,.int .i64 a),(2,.int .i64 b)] ⟨Z,Z,Z,trivial⟩ ?_
 have E : Ext w w:=Ext.refl w
 refine Qe (Qg [false,true] Z Z (Yz Z Z (fun b1 w1 e1 s1 h1=>?_)))
 have g_b1 : w.heap.size ≤ b1:=by have:=E.size;omega
 have y_b1:=h1.lt
 replace E:=E.trans e1
 have z1:=e1.size
 refine Qa (Qf Z) Z (Qc (Qe (Qe (Qg [true,false,true,true,true,true,true,true] Z Z (Qa (Qy Xt Z h1.at Z) Z (Qu Tryz.call69 Z (c_ClusterOk [o1,.int .i64 x.graph.workers,.int .i64 x.graph.cap,o2,o3,o4,o5] x _ (Cluster.mkR x (RdD.any (hd1.ext E)) (RdD.any (hd2.ext E)) (RdD.any (hd3.ext E)) (RdD.any (hd4.ext E)) (RdD.any (hd5.ext E))) (by first | omega | (simp only [Qi];omega) | (rw [Qi];done) | (simp only [Qi];done))) Z (fun _ w2 e2 hv=>?_)))))))
 subst hv
 replace E:=E.trans e2;replace h1:=h1.ext e2
 have z2:=e2.size
 refine Qa (Yt Z) Z (Qa (Qd Z) Z (Xd 4 [(0,.agg [o1,.int .i64 x.graph.workers,.int .i64 x.graph.cap,o2,o3,o4,o5].toArray),(1,.int .i64 a),(2,.int .i64 b),(3,.pointer (some ⟨b1,0,none⟩)),(6,.int .i64 0),(14,.bool ((!(Ka x)) || (a == b)))] (fun w'=>w2 = w') ?_ ?_))
 ·refine Y1 (gd:=10) Z Z (fun hg1=>?_) (fun hg1=>?_)
  ·refine Qh Z Z Z Z (Qh Z Z Z Z (Qh Z Z Z Z (Qa (Qx Z Z) Z (Qq ⟨Z,Z,Z,Z,Z,congrArg (fun b=>some (Value.bool b)) (show true = ((!(Ka x)) || (a == b)) by first | (rw [hg1] <;> rfl) | (simp [hg1];done) | (simp only [Qp] <;> simp)),trivial⟩ Z))))
  ·refine Qn Z Z (Qd Z) Z (Qn Z Z (Qd Z) Z (Qn Z Z (Xg Z Z) Z (Qa (Q1 Z Z) Z (Qq ⟨Z,Z,Z,Z,Z,congrArg (fun b=>some (Value.bool b)) (show (a == b) = ((!(Ka x)) || (a == b)) by first | (rw [hg1] <;> rfl) | (simp [hg1];done) | (simp only [Qp] <;> simp)),trivial⟩ Z))))
 rintro _ rfl
 refine Qc (Qr Z (fun hc1=>?_) (fun hc1=>?_))
 ·refine Qe (Qg [true] Z Z (Qa (Qf Z) Z (Qc (Qt (Ql Z Z E ?_)))))
  rw [Yu,if_pos hc1]
 ·refine Qm (Qe (Qg [true,true,true,true,false,true] Z Z (Qa (Qb Ul Z) Z (Qa (Qy Uh Z (h1.part 0 [o1,.int .i64 x.graph.workers,.int .i64 x.graph.cap] Z) Z) Z (Qa (Qd Z) Z (Qa (Qd Z) Z (Qu Tryz.call50 Z (c_LinkPlace [o1,.int .i64 x.graph.workers,.int .i64 x.graph.cap] x.graph a b _ (Graph.mkR x.graph (RdD.any (hd1.ext E)))) Z (fun _ w4 e3 hv=>?_))))))))
  subst hv
  replace E:=E.trans e3;replace h1:=h1.ext e3
  have z3:=e3.size
  refine Qa (Qf Z) Z (Qc (Qt (Ql Z Z E ?_)))
  rw [Yu,if_neg (nof hc1)]

set_option maxRecDepth 20000 in
theorem s_l15Start (cx : List Value) (x : Cluster) (w : World) (hx : Dat.R w 0 w.heap.size cx x) (hb : Ya x ≤ 1048576) : Ct Tryz.prog 19 [.agg cx.toArray] w (fun v w'=>∃ b o1 o2 o3 o4 o5,v = .pointer (some ⟨b,0,none⟩) ∧ OwR w' w.heap.size w'.heap.size b o1 o2 o3 o4 o5 x (Ka x)):=by
 refine Yi Tryz.func19 Z Tryz.ntmps19 Z ?_
 obtain ⟨o1,o2,o3,o4,o5,rfl,hd1,hd2,hd3,hd4,hd5⟩:=Cluster.op hx
 refine Q7 [(0,.agg [o1,.int .i64 x.graph.workers,.int .i64 x.graph.cap,o2,o3,o4,o5].toArray)] ⟨Z,trivial⟩ ?_
 have E : Ext w w:=Ext.refl w
 refine Qe (Qg [false,true] Z Z (Yz Z Z (fun b1 w1 e1 s1 h1=>?_)))
 have g_b1 : w.heap.size ≤ b1:=by have:=E.size;omega
 have y_b1:=h1.lt
 replace E:=E.trans e1
 have z1:=e1.size
 refine Qa (Qf Z) Z (Qc (Qe (Xw Xp [(0,true),(2,true),(1,false),(3,false),(4,true),(5,false),(6,true)] (by decide +kernel) Z (fun w2 e2=>?_))))
 replace E:=E.trans e2;replace h1:=h1.ext e2
 have z2:=e2.size
 refine Qa (Qy Xt Z h1.at Z) Z (Qa (Qy Xt Z h1.at Z) Z (Qu Tryz.call56 Z (s_l14Copy [o1,.int .i64 x.graph.workers,.int .i64 x.graph.cap,o2,o3,o4,o5] x _ (Cluster.mkR x (RdD.any (hd1.ext E)) (RdD.any (hd2.ext E)) (RdD.any (hd3.ext E)) (RdD.any (hd4.ext E)) (RdD.any (hd5.ext E))) (by first | omega | (simp only [Qi];omega) | (rw [Qi];done) | (simp only [Qi];done))) Z (fun _ w3 e3 ho1=>?_)))
 obtain ⟨o6,o7,o8,o9,o10,rfl,ho1⟩:=ho1
 have g_ho1 : w.heap.size ≤ w2.heap.size:=E.size
 replace E:=E.trans e3;replace h1:=h1.ext e3
 have z3:=e3.size
 refine Qu Tryz.call57 Z (s_ClusterOk [o1,.int .i64 x.graph.workers,.int .i64 x.graph.cap,o2,o3,o4,o5] x _ (Cluster.mkR x (RdD.any (hd1.ext E)) (RdD.any (hd2.ext E)) (RdD.any (hd3.ext E)) (RdD.any (hd4.ext E)) (RdD.any (hd5.ext E)))) Z (fun _ w4 e4 hv=>?_)
 subst hv
 replace E:=E.trans e4;replace h1:=h1.ext e4;replace ho1:=ho1.ext e4
 have z4:=e4.size
 have hbl1 : ∀ w,(Instr.build 58 ([(0,.agg [o6,.int .i64 x.graph.workers,.int .i64 x.graph.cap,o7,o8,o9,o10].toArray),(1,.bool (Ka x))]).toArray).run Tryz.prog w = .ok (.agg [o6,.int .i64 x.graph.workers,.int .i64 x.graph.cap,o7,o8,o9,o10,.bool (Ka x)].toArray) w:=by clear E;obtain ⟨_,_,_,rfl⟩:=SlLen.shape (RdD.len (OwC.rd1 ho1));obtain ⟨_,_,_,rfl⟩:=SlLen.shape (RdD.len (OwC.rd2 ho1));obtain ⟨_,_,_,rfl⟩:=SlLen.shape (RdD.len (OwC.rd3 ho1));obtain ⟨_,_,_,rfl⟩:=SlLen.shape (RdD.len (OwC.rd4 ho1));obtain ⟨_,_,_,rfl⟩:=SlLen.shape (RdD.len (OwC.rd5 ho1));intro w;kernel_rfl
 refine Qa (G2 [o6,.int .i64 x.graph.workers,.int .i64 x.graph.cap,o7,o8,o9,o10,.bool (Ka x)] Z hbl1) Z (Yz Z Z (fun b2 w5 e5 s2 h2=>?_))
 have g_b2 : w.heap.size ≤ b2:=by have:=E.size;omega
 have y_b2:=h2.lt
 replace E:=E.trans e5;replace h1:=h1.ext e5;replace ho1:=ho1.ext e5
 have z5:=e5.size
 refine Qa (Qf Z) Z (Qc (Qt (Ql Z Z E ?_)))
 exact ⟨_,_,_,_,_,_,Z,OwR.of ho1 h2 (by omega) (by have:=E.size;omega) (by have:=E.size;omega) (by omega)⟩

set_option maxRecDepth 20000 in
theorem s_l15Sum (bx : Nat) (o1x o2x o3x o4x o5x : Value) (lo : Nat) (x : Cluster) (okx : Bool) (p : Int) (e : Int) (n : Int) (w : World) (hx : OwR w lo w.heap.size bx o1x o2x o3x o4x o5x x okx) (hwp : 0 ≤ p ∧ p < ((x.workers.length : Nat) : Int) ∧ Int.toNat p < x.workers.length) (hep : 0 ≤ e ∧ Int.toNat e < (Hs x p).sums.length) : CtR Tryz.prog 60 [.pointer (some ⟨bx,0,none⟩),.int .i64 p,.int .i64 e,.int .i64 n] w lo w.heap.size (fun v w'=>v = .tuple #[] ∧ OwR w' lo w'.heap.size bx o1x o2x o3x o4x o5x (Hy x p (sumY (Hs x p) e n)) (okx && sumOk (Hs x p) e n)):=by
 have hwa:=Bc hwp.2.2
 have hes : Int.toNat e < (x.workers[Int.toNat p]'hwp.2.2).sums.length:=hwa ▸ hep.2
 refine Vq Tryz.func60 Z Tryz.ntmps60 Z ?_
 obtain ⟨f1,f2,f3,h1,hl1,hw1,hw2,hw3,hw4,hw5,sp1⟩:=hx
 have y_q1:=h1.lt
 refine Q7 [(0,.pointer (some ⟨bx,0,none⟩)),(1,.int .i64 p),(2,.int .i64 e),(3,.int .i64 n)] ⟨Z,Z,Z,Z,trivial⟩ ?_
 have E : ModR w w lo w.heap.size:=ModR.refl w lo w.heap.size
 refine Qe ?_
 have hi1 : (Int.toNat p) < x.workers.length:=(by first | assumption | omega | (simp only [List.length_set];first | assumption | omega) | (simp only [List.getElem_set_self,List.length_set];first | assumption | omega))
 have hK1 : OwK w f2 w lo w.heap.size o2x (x.workers.take (Int.toNat p) ++ x.workers[(Int.toNat p)] :: x.workers.drop ((Int.toNat p) + 1)):=⟨by rw [← Vc hi1];exact hw2,Kq.refl _ _⟩
 have hfl1:=OwF.in2 hw2
 obtain ⟨_,ho1,hrow1⟩:=OwK.focus hK1
 obtain ⟨o1,o2,o3,o4,o5,o6,o7,o8,rfl,sp2,hw6,hw7,hw8,hw9,hw10,hw11,hw12,hw13⟩:=Worker.opO ho1
 clear hK1 hw2
 have hl2 : (x.workers.take (Int.toNat p)).length = (Int.toNat p):=by simp;omega
 have hn1 : (Int.toNat p) + 1 + (x.workers.drop ((Int.toNat p) + 1)).length = x.workers.length:=by simp;omega
 replace hrow1 : RowR f2 w lo w.heap.size o2x (x.workers.take (Int.toNat p)) [o1,o2,o3,o4,o5,o6,o7,o8] (x.workers.drop ((Int.toNat p) + 1)):=hrow1
 refine Xw Xp [(0,true),(1,true),(2,true),(3,true),(4,true),(5,true),(6,true),(7,true),(8,true),(9,true),(10,true),(11,true),(12,true),(13,true),(14,true),(15,true),(16,true),(17,true),(18,true),(19,true),(20,true),(21,true),(22,true),(23,true),(24,true),(25,false)] (by decide +kernel) Z (fun w1 e1=>?_)
 replace E:=E.ext e1;replace hw1:=hw1.ext e1;replace hw3:=hw3.ext e1;replace hw4:=hw4.ext e1;replace hw5:=hw5.ext e1;replace h1:=h1.ext e1;replace hw6:=hw6.ext e1;replace hw7:=hw7.ext e1;replace hw8:=hw8.ext e1;replace hw9:=hw9.ext e1;replace hw10:=hw10.ext e1;replace hw11:=hw11.ext e1;replace hw12:=hw12.ext e1;replace hw13:=hw13.ext e1;replace hrow1:=hrow1.ext e1
 have z1:=e1.size
 refine Qa (Qd Z) Z (Qa (X7 Z) Z (Qa (Qb Hf Z) Z (Qa (Qb X3 Z) Z (Qa (Qk Vr Z (h1.one 3 Z)) Z (Qa (Qd Z) Z (Qa (Xs (i:=(Int.toNat p)) Uk Z Z (RowK.same1 hrow1 hl2 hn1) (by omega) (by simp;omega)) Z (Qa (Qs U3 Z) Z (Qa (Qk Ks Z ((RowK.at hrow1 hl2).one 4 Z)) Z (Qa (Qd Z) Z (Qa (Qd Z) Z (Qa (X7 Z) Z (Qa (Qb Hf Z) Z (Qa (Qb X3 Z) Z (Qa (Qk Vr Z (h1.one 3 Z)) Z (Qa (Qd Z) Z (Qa (Xs (i:=(Int.toNat p)) Uk Z Z (RowK.same1 hrow1 hl2 hn1) (by omega) (by simp;omega)) Z (Qa (Qs U3 Z) Z (Qa (Qk Ks Z ((RowK.at hrow1 hl2).one 4 Z)) Z (Qa (Qd Z) Z ?_)))))))))))))))))))
 have hi2 : (Int.toNat e) < ((x.workers[(Int.toNat p)]'hi1).sums).length:=(by first | assumption | omega | (simp only [List.length_set];first | assumption | omega) | (simp only [List.getElem_set_self,List.length_set];first | assumption | omega))
 refine Qa (Xs (i:=(Int.toNat e)) Uq Z Z (Own.rd (by decide) hw10) (by omega) hi2) Z (Qa (Qk Yp Z (((Own.rd (by decide) hw10).get hi2).one 0 Z)) Z (Qa (Qd Z) Z (Qa (Yd Z Z Z) Z ?_)))
 have hi3 : (Int.toNat e) < ((x.workers[(Int.toNat p)]'hi1).sums).length:=(by first | assumption | omega | (simp only [List.length_set];first | assumption | omega) | (simp only [List.getElem_set_self,List.length_set];first | assumption | omega))
 refine Qa (Xs (i:=(Int.toNat e)) Uq Z Z (Own.rd (by decide) hw10) (by omega) hi3) Z (Tk (α:=Int) (i:=(Int.toNat e)) (f:=0) (IntKind.i64.wrap ((((x.workers[(Int.toNat p)]'hi1).sums)[(Int.toNat e)]'hi2) + n)) Yp Z Z Z Z hw10 hi3 (by decide) Z (fun w2 m1 hw10'=>?_))
 have hq:=Own.blk hw10
 replace hw10:=hw10'
 have kq1:=Mod.kq (l:=f2) m1 (RowK.fpr_mem hrow1 (by simp))
 replace E:=E.mod m1 (fun g hg=>by have:=hq g hg;omega);replace hw1:=OwF.kp hw1 (Kq.kp kq1 sp1.1.1);replace hw3:=OwF.kp hw3 (Kq.kp kq1 (sp1.2.1.1).symm);replace hw4:=Own.kp hw4 (Kq.kp kq1 (sp1.2.1.2.1).symm);replace hw5:=Own.kp hw5 (Kq.kp kq1 (sp1.2.1.2.2.1).symm);replace h1:=Blk.kp h1 (Kq.kp kq1 (sp1.2.1.2.2.2.1).symm);replace hw6:=Own.modS hw6 m1 (sp2.1.2.2.2.1).symm;replace hw7:=Own.modS hw7 m1 (sp2.2.1.2.2.1).symm;replace hw8:=Own.modS hw8 m1 (sp2.2.2.1.2.1).symm;replace hw9:=Own.modS hw9 m1 (sp2.2.2.2.1.1).symm;replace hw11:=Own.modS hw11 m1 sp2.2.2.2.2.1.1;replace hw12:=Own.modS hw12 m1 sp2.2.2.2.2.1.2.1;replace hw13:=Own.modS hw13 m1 sp2.2.2.2.2.1.2.2.1;replace hrow1:=RowR.modS hrow1 m1 (by simp)
 have z2:=m1.size
 clear hq
 refine Qc (Qg [true,true,true,true,true,true,true,true,true,true,true,true,true,true,true,true,true,true,false,true,true,true,false] Z Z (Qa (Qd Z) Z (Qa (Qd Z) Z (Qa (X7 Z) Z (Qa (Qb fl58_1 Z) Z (Qa (Qk Hb Z (h1.one 7 Z)) Z (Qa (Qd Z) Z (Xd 14 [(0,.pointer (some ⟨bx,0,none⟩)),(1,.int .i64 p),(2,.int .i64 e),(3,.int .i64 n),(8,.pointer (some ⟨bx,0,none⟩)),(9,.pointer (some ⟨bx,0,none⟩)),(10,.pointer (some ⟨bx,0,none⟩)),(11,.pointer (some ⟨bx,3,none⟩)),(12,o2x),(13,.int .i64 p),(14,.pointer (some ⟨Y2 o2x,Y9 o2x + (Int.toNat p) * 8,none⟩)),(15,.pointer (some ⟨(Y2 o2x),Y9 o2x + (Int.toNat p) * 8 + 4,none⟩)),(16,o5),(17,.int .i64 e),(18,.pointer (some ⟨bx,0,none⟩)),(19,.pointer (some ⟨bx,0,none⟩)),(20,.pointer (some ⟨bx,0,none⟩)),(21,.pointer (some ⟨bx,3,none⟩)),(22,o2x),(23,.int .i64 p),(24,.pointer (some ⟨Y2 o2x,Y9 o2x + (Int.toNat p) * 8,none⟩)),(25,.pointer (some ⟨(Y2 o2x),Y9 o2x + (Int.toNat p) * 8 + 4,none⟩)),(26,o5),(27,.int .i64 e),(28,.pointer (some ⟨Y2 o5,Y9 o5 + (Int.toNat e) * 1,none⟩)),(29,.int .i64 (((x.workers[(Int.toNat p)]'hi1).sums)[(Int.toNat e)]'hi2)),(30,.int .i64 n),(31,.int .i64 (IntKind.i64.wrap ((((x.workers[(Int.toNat p)]'hi1).sums)[(Int.toNat e)]'hi2) + n))),(32,.pointer (some ⟨Y2 o5,Y9 o5 + (Int.toNat e) * 1,none⟩)),(33,.pointer (some ⟨bx,0,none⟩)),(52,.bool (okx && (Yr (List.getD (List.set ((x.workers[(Int.toNat p)]'hi1).sums) (Int.toNat e) (IntKind.i64.wrap ((((x.workers[(Int.toNat p)]'hi1).sums)[(Int.toNat e)]'hi2) + n))) (Int.toNat e) default) (-1000000) 1000000)))] (fun w'=>ModR w w' lo w.heap.size ∧ w2.heap.size ≤ w'.heap.size ∧ OwF w' lo w.heap.size o1x x.graph.nodes f1 ∧ OwF w' lo w.heap.size o3x x.links f3 ∧ Own w' lo w.heap.size 5 o4x (List.flatMap (Enc.enc (α:=Token)) x.tokens) ∧ Own w' lo w.heap.size 3 o5x (List.flatMap (Enc.enc (α:=News)) x.news) ∧ Blk w' bx [o1x,.int .i64 x.graph.workers,.int .i64 x.graph.cap,o2x,o3x,o4x,o5x,.bool okx] ∧ Own w' lo w.heap.size 5 o1 (List.flatMap (Enc.enc (α:=Record)) ((x.workers[(Int.toNat p)]'hi1).queue)) ∧ Own w' lo w.heap.size 5 o2 (List.flatMap (Enc.enc (α:=Record)) ((x.workers[(Int.toNat p)]'hi1).staged)) ∧ Own w' lo w.heap.size 5 o3 (List.flatMap (Enc.enc (α:=Record)) ((x.workers[(Int.toNat p)]'hi1).inputs)) ∧ Own w' lo w.heap.size 4 o4 (List.flatMap (Enc.enc (α:=Cell)) ((x.workers[(Int.toNat p)]'hi1).cells)) ∧ Own w' lo w.heap.size 1 o6 (List.flatMap (Enc.enc (α:=Bool)) ((x.workers[(Int.toNat p)]'hi1).black)) ∧ Own w' lo w.heap.size 1 o7 (List.flatMap (Enc.enc (α:=Bool)) ((x.workers[(Int.toNat p)]'hi1).caps)) ∧ Own w' lo w.heap.size 2 o8 (List.flatMap (Enc.enc (α:=Done)) ((x.workers[(Int.toNat p)]'hi1).dones)) ∧ RowR f2 w' lo w.heap.size o2x (x.workers.take (Int.toNat p)) [o1,o2,o3,o4,o5,o6,o7,o8] (x.workers.drop ((Int.toNat p) + 1)) ∧ Own w' lo w.heap.size 1 o5 (List.flatMap (Enc.enc (α:=Int)) (List.set ((x.workers[(Int.toNat p)]'hi1).sums) (Int.toNat e) (IntKind.i64.wrap ((((x.workers[(Int.toNat p)]'hi1).sums)[(Int.toNat e)]'hi2) + n))))) ?_ ?_))))))))
 ·refine Y1 (gd:=38) Z Z (fun hg1=>?_) (fun hg1=>?_)
  ·refine Qn Z Z (Qd Z) Z (Qn Z Z (X7 Z) Z (Qn Z Z (Qb Hf Z) Z (Qn Z Z (Qb X3 Z) Z (Qn Z Z (Qk Vr Z (h1.one 3 Z)) Z (Qn Z Z (Qd Z) Z (Qn Z Z (Xs (i:=(Int.toNat p)) Uk Z Z (RowK.same1 hrow1 hl2 hn1) (by omega) (by simp;omega)) Z (Qn Z Z (Qs U3 Z) Z (Qn Z Z (Qk Ks Z ((RowK.at hrow1 hl2).one 4 Z)) Z (Qn Z Z (Qd Z) Z ?_)))))))))
   have hi4 : (Int.toNat e) < (List.set ((x.workers[(Int.toNat p)]'hi1).sums) (Int.toNat e) (IntKind.i64.wrap ((((x.workers[(Int.toNat p)]'hi1).sums)[(Int.toNat e)]'hi2) + n))).length:=(by first | assumption | omega | (simp only [List.length_set];first | assumption | omega) | (simp only [List.getElem_set_self,List.length_set];first | assumption | omega))
   refine Qn Z Z (Xs (i:=(Int.toNat e)) Uq Z Z (Own.rd (by decide) hw10) (by omega) hi4) Z (Qn Z Z (Qk Yp Z ((RdS.getD (Own.rd (by decide) hw10) (i:=(Int.toNat e)) hi4).one 0 Z)) Z ?_)
   refine X4 Z Z ?_
   refine Qu Tryz.call106 Z (s_l01In (List.getD (List.set ((x.workers[(Int.toNat p)]'hi1).sums) (Int.toNat e) (IntKind.i64.wrap ((((x.workers[(Int.toNat p)]'hi1).sums)[(Int.toNat e)]'hi2) + n))) (Int.toNat e) default) (-1000000) 1000000 _ ) Z (fun _ w4 e2 hv=>?_)
   subst hv
   replace E:=E.ext e2;replace hw1:=hw1.ext e2;replace hw3:=hw3.ext e2;replace hw4:=hw4.ext e2;replace hw5:=hw5.ext e2;replace h1:=h1.ext e2;replace hw6:=hw6.ext e2;replace hw7:=hw7.ext e2;replace hw8:=hw8.ext e2;replace hw9:=hw9.ext e2;replace hw11:=hw11.ext e2;replace hw12:=hw12.ext e2;replace hw13:=hw13.ext e2;replace hrow1:=hrow1.ext e2;replace hw10:=hw10.ext e2
   have z3:=e2.size
   refine Qa (Qx Z Z) Z (Qq ⟨Z,Z,Z,Z,Z,Z,Z,Z,Z,Z,Z,Z,Z,Z,Z,Z,Z,Z,Z,Z,Z,Z,Z,Z,Z,Z,Z,Z,Z,Z,congrArg (fun b=>some (Value.bool b)) (show (Yr (List.getD (List.set ((x.workers[(Int.toNat p)]'hi1).sums) (Int.toNat e) (IntKind.i64.wrap ((((x.workers[(Int.toNat p)]'hi1).sums)[(Int.toNat e)]'hi2) + n))) (Int.toNat e) default) (-1000000) 1000000) = (okx && (Yr (List.getD (List.set ((x.workers[(Int.toNat p)]'hi1).sums) (Int.toNat e) (IntKind.i64.wrap ((((x.workers[(Int.toNat p)]'hi1).sums)[(Int.toNat e)]'hi2) + n))) (Int.toNat e) default) (-1000000) 1000000)) by first | (rw [hg1] <;> rfl) | (simp [hg1];done) | (simp only [Qp] <;> simp)),trivial⟩ ⟨E,(by omega),hw1,hw3,hw4,hw5,h1,hw6,hw7,hw8,hw9,hw11,hw12,hw13,hrow1,hw10⟩)
  ·refine Qh Z Z Z Z (Qh Z Z Z Z (Qh Z Z Z Z (Qh Z Z Z Z (Qh Z Z Z Z (Qh Z Z Z Z (Qh Z Z Z Z (Qh Z Z Z Z (Qh Z Z Z Z (Qh Z Z Z Z (Qh Z Z Z Z (Qh Z Z Z Z ?_)))))))))))
   refine Yw Z Z Z Z ?_
   refine Qa (Q1 Z Z) Z (Qq ⟨Z,Z,Z,Z,Z,Z,Z,Z,Z,Z,Z,Z,Z,Z,Z,Z,Z,Z,Z,Z,Z,Z,Z,Z,Z,Z,Z,Z,Z,Z,congrArg (fun b=>some (Value.bool b)) (show false = (okx && (Yr (List.getD (List.set ((x.workers[(Int.toNat p)]'hi1).sums) (Int.toNat e) (IntKind.i64.wrap ((((x.workers[(Int.toNat p)]'hi1).sums)[(Int.toNat e)]'hi2) + n))) (Int.toNat e) default) (-1000000) 1000000)) by first | (rw [hg1] <;> rfl) | (simp [hg1];done) | (simp only [Qp] <;> simp)),trivial⟩ ⟨E,(by omega),hw1,hw3,hw4,hw5,h1,hw6,hw7,hw8,hw9,hw11,hw12,hw13,hrow1,hw10⟩)
 clear E hw1 hw3 hw4 hw5 h1 hw6 hw7 hw8 hw9 hw11 hw12 hw13 hrow1 hw10
 rintro w3 ⟨E,z4,hw1,hw3,hw4,hw5,h1,hw6,hw7,hw8,hw9,hw11,hw12,hw13,hrow1,hw10⟩
 refine Qa (X7 Z) Z (Qa (Qb fl58_1 Z) Z (Yh (cs':=[o1x,.int .i64 x.graph.workers,.int .i64 x.graph.cap,o2x,o3x,o4x,o5x,.bool (okx && (Yr (List.getD (List.set ((x.workers[(Int.toNat p)]'hi1).sums) (Int.toNat e) (IntKind.i64.wrap ((((x.workers[(Int.toNat p)]'hi1).sums)[(Int.toNat e)]'hi2) + n))) (Int.toNat e) default) (-1000000) 1000000))]) Hb Z Z Z h1 (Nat.le_of_ble_eq_true Z) Z (fun w5 m2 h1'=>?_)))
 replace h1:=h1'
 have kq2:=Mod.kq (l:=[bx]) m2 (fun g hg=>by cases hg;simp)
 replace E:=E.mod m2 (fun g hg=>by cases hg;omega);replace hw1:=OwF.kp hw1 (Kq.kp kq2 sp1.1.2.2.2.2.1);replace hw3:=OwF.kp hw3 (Kq.kp kq2 sp1.2.2.1.2.2.1);replace hw4:=Own.kp hw4 (Kq.kp kq2 sp1.2.2.2.1.2.1);replace hw5:=Own.kp hw5 (Kq.kp kq2 sp1.2.2.2.2.1.1);replace hw6:=Own.kp hw6 (Kq.kp kq2 (fun b hb=>sp1.2.1.2.2.2.1 b (RowK.fpr_mem hrow1 (by simp) b (mem_blks.1 hb))));replace hw7:=Own.kp hw7 (Kq.kp kq2 (fun b hb=>sp1.2.1.2.2.2.1 b (RowK.fpr_mem hrow1 (by simp) b (mem_blks.1 hb))));replace hw8:=Own.kp hw8 (Kq.kp kq2 (fun b hb=>sp1.2.1.2.2.2.1 b (RowK.fpr_mem hrow1 (by simp) b (mem_blks.1 hb))));replace hw9:=Own.kp hw9 (Kq.kp kq2 (fun b hb=>sp1.2.1.2.2.2.1 b (RowK.fpr_mem hrow1 (by simp) b (mem_blks.1 hb))));replace hw11:=Own.kp hw11 (Kq.kp kq2 (fun b hb=>sp1.2.1.2.2.2.1 b (RowK.fpr_mem hrow1 (by simp) b (mem_blks.1 hb))));replace hw12:=Own.kp hw12 (Kq.kp kq2 (fun b hb=>sp1.2.1.2.2.2.1 b (RowK.fpr_mem hrow1 (by simp) b (mem_blks.1 hb))));replace hw13:=Own.kp hw13 (Kq.kp kq2 (fun b hb=>sp1.2.1.2.2.2.1 b (RowK.fpr_mem hrow1 (by simp) b (mem_blks.1 hb))));replace hrow1:=RowR.kp hrow1 (Kq.kp kq2 sp1.2.1.2.2.2.1);replace hw10:=Own.kp hw10 (Kq.kp kq2 (fun b hb=>sp1.2.1.2.2.2.1 b (RowK.fpr_mem hrow1 (by simp) b (mem_blks.1 hb))))
 have z5:=m2.size
 refine Qc (Q5 (E_fall (Gp (l:=[]) (vs:=[]) Z trivial Z E ?_)))
 have hw2:=(RowK.close hrow1 (Worker.mkO (⟨(x.workers[(Int.toNat p)]'hi1).queue,(x.workers[(Int.toNat p)]'hi1).staged,(x.workers[(Int.toNat p)]'hi1).inputs,(x.workers[(Int.toNat p)]'hi1).cells,List.set ((x.workers[(Int.toNat p)]'hi1).sums) (Int.toNat e) (IntKind.i64.wrap ((((x.workers[(Int.toNat p)]'hi1).sums)[(Int.toNat e)]'hi2) + n)),(x.workers[(Int.toNat p)]'hi1).black,(x.workers[(Int.toNat p)]'hi1).caps,(x.workers[(Int.toNat p)]'hi1).dones⟩ : Worker) sp2 (Own.widen hw6 (by omega) (by omega)) (Own.widen hw7 (by omega) (by omega)) (Own.widen hw8 (by omega) (by omega)) (Own.widen hw9 (by omega) (by omega)) (Own.widen hw10 (by omega) (by omega)) (Own.widen hw11 (by omega) (by omega)) (Own.widen hw12 (by omega) (by omega)) (Own.widen hw13 (by omega) (by omega)))).1
 clear hrow1
 rw [← Gq hi1] at hw2
 clear hfl1
 rw [sum_x hwp.2.2 hes,sum_k hwp.2.2 hes]
 exact ⟨Z,⟨f1,f2,f3,h1,(by omega),(OwF.widen hw1 (Nat.le_refl _) (by omega)),(OwF.widen hw2 (Nat.le_refl _) (by omega)),(OwF.widen hw3 (Nat.le_refl _) (by omega)),(Own.widen hw4 (by omega) (by omega)),(Own.widen hw5 (by omega) (by omega)),sp1⟩⟩

set_option maxHeartbeats 4000000 in
set_option maxRecDepth 20000 in
theorem s_l15Take (bx : Nat) (o1x o2x o3x o4x o5x : Value) (lo : Nat) (x : Cluster) (okx : Bool) (a : Int) (b : Int) (w : World) (hx : OwR w lo w.heap.size bx o1x o2x o3x o4x o5x x okx) (hcl : okx = true → Ka x = true) (hb : Ya x ≤ 1048576) (hgw : rg x.graph.workers) : CtR Tryz.prog 20 [.pointer (some ⟨bx,0,none⟩),.int .i64 a,.int .i64 b] w lo w.heap.size (fun v w'=>v = .bool ((Kd x okx a b).2.1) ∧ OwR w' lo w'.heap.size bx o1x o2x o3x o4x o5x ((Kd x okx a b).1) ((Kd x okx a b).2.2)):=by
 refine Vq Tryz.func20 Z Tryz.ntmps20 Z ?_
 obtain ⟨f1,f2,f3,h1,hl1,hw1,hw2,hw3,hw4,hw5,sp1⟩:=hx
 have y_q1:=h1.lt
 refine Q7 [(0,.pointer (some ⟨bx,0,none⟩)),(1,.int .i64 a),(2,.int .i64 b)] ⟨Z,Z,Z,trivial⟩ ?_
 have E : ModR w w lo w.heap.size:=ModR.refl w lo w.heap.size
 refine Qe (Qg [true] Z Z (Qa (Qf Z) Z (Qc (Qe (Qg [true,true,true,true,true,true,true,false,true] Z Z (Qa (Qd Z) Z (Qa (X7 Z) Z (Qa (Qb Hf Z) Z (Qa (Qb Ul Z) Z (Qa (Qy Uh Z (h1.part 0 [o1x,.int .i64 x.graph.workers,.int .i64 x.graph.cap] Z) Z) Z (Qa (Qd Z) Z (Qa (Qd Z) Z (Qu Tryz.call58 Z (s_LinkPlace [o1x,.int .i64 x.graph.workers,.int .i64 x.graph.cap] x.graph a b _ (Graph.mkR x.graph (RdD.any (OwF.rd hw1))) hgw) Z (fun _ w1 e1 hv=>?_))))))))))))))
 subst hv
 replace E:=E.ext e1;replace hw1:=hw1.ext e1;replace hw2:=hw2.ext e1;replace hw3:=hw3.ext e1;replace hw4:=hw4.ext e1;replace hw5:=hw5.ext e1;replace h1:=h1.ext e1
 have z1:=e1.size
 refine Qa (Qf Z) Z (Qc (Qe (Qe (Qg [true,true,true,true,true,true,true,true,true,true,true,true,true,true] Z Z (Qa (Qd Z) Z (Qa (X7 Z) Z (Qa (Qb fl58_1 Z) Z (Qa (Qk Hb Z (h1.one 7 Z)) Z (Qa (Yt Z) Z (Qa (Qd Z) Z (Xd 8 [(0,.pointer (some ⟨bx,0,none⟩)),(1,.int .i64 a),(2,.int .i64 b),(6,.bool false),(7,.int .i64 (Qz x.graph a b)),(11,.pointer (some ⟨bx,0,none⟩)),(12,.pointer (some ⟨bx,0,none⟩)),(13,.pointer (some ⟨bx,0,none⟩)),(14,.pointer (some ⟨bx,0,none⟩)),(15,.agg [o1x,.int .i64 x.graph.workers,.int .i64 x.graph.cap].toArray),(16,.int .i64 a),(17,.int .i64 b),(18,.int .i64 (Qz x.graph a b)),(32,.bool (((!okx) || (decide ((Qz x.graph a b) < 0))) || (a == b)))] (fun w'=>w1 = w') ?_ ?_)))))))))))
 ·refine Y1 (gd:=24) Z Z (fun hg1=>?_) (fun hg1=>?_)
  ·refine Qh Z Z Z Z (Qh Z Z Z Z (Qa (Qx Z Z) Z (Qa (Qd Z) Z (Qh Z Z Z Z (Qh Z Z Z Z (Qh Z Z Z Z (Qa (Qx Z Z) Z (Qq ⟨Z,Z,Z,Z,Z,Z,Z,Z,Z,Z,Z,Z,Z,congrArg (fun b=>some (Value.bool b)) (show true = (((!okx) || (decide ((Qz x.graph a b) < 0))) || (a == b)) by first | (rw [hg1] <;> rfl) | (simp [hg1];done) | (simp only [Qp] <;> simp)),trivial⟩ Z))))))))
  ·refine Qn Z Z (Qd Z) Z (Qn Z Z (Yf Z Z) Z (Qa (Q1 Z Z) Z (Qa (Qd Z) Z ?_)))
   refine Y1 (gd:=28) Z Z (fun hg2=>?_) (fun hg2=>?_)
   ·refine Qh Z Z Z Z (Qh Z Z Z Z (Qh Z Z Z Z (Qa (Qx Z Z) Z (Qq ⟨Z,Z,Z,Z,Z,Z,Z,Z,Z,Z,Z,Z,Z,congrArg (fun b=>some (Value.bool b)) (show true = (((!okx) || (decide ((Qz x.graph a b) < 0))) || (a == b)) by first | (rw [hg1,hg2] <;> rfl) | (simp [hg1,hg2];done) | (simp only [Qp] <;> simp)),trivial⟩ Z))))
   ·refine Qn Z Z (Qd Z) Z (Qn Z Z (Qd Z) Z (Qn Z Z (Xg Z Z) Z (Qa (Q1 Z Z) Z (Qq ⟨Z,Z,Z,Z,Z,Z,Z,Z,Z,Z,Z,Z,Z,congrArg (fun b=>some (Value.bool b)) (show (a == b) = (((!okx) || (decide ((Qz x.graph a b) < 0))) || (a == b)) by first | (rw [hg1,hg2] <;> rfl) | (simp [hg1,hg2];done) | (simp only [Qp] <;> simp)),trivial⟩ Z))))
 rintro _ rfl
 refine Qc (Qr Z (fun hc1=>?_) (fun hc1=>?_))
 ·refine Qe (Qg [true] Z Z (Qa (Qf Z) Z (Qc (Qt (Ql Z Z E ?_)))))
  rw [take2_no1 hc1]
  exact ⟨Z,⟨f1,f2,f3,h1,(by omega),(OwF.widen hw1 (Nat.le_refl _) (by omega)),(OwF.widen hw2 (Nat.le_refl _) (by omega)),(OwF.widen hw3 (Nat.le_refl _) (by omega)),(Own.widen hw4 (by omega) (by omega)),(Own.widen hw5 (by omega) (by omega)),sp1⟩⟩
 ·have hlr:=run_link hcl hc1
  refine Qm (Qe (Qg [true,true,true,true,true,true,true,true,false,true,true,true,true,false,false,false,false,true] Z Z (Qa (Qd Z) Z (Qa (X7 Z) Z (Qa (Qb Hf Z) Z (Qa (Qb Ki Z) Z (Qa (Qk V7 Z (h1.one 4 Z)) Z (Qa (Qd Z) Z ?_))))))))
  have hi1 : (Int.toNat (Qz x.graph a b)) < x.links.length:=(by first | assumption | omega | (simp only [List.length_set];first | assumption | omega) | (simp only [List.getElem_set_self,List.length_set];first | assumption | omega))
  have hK1 : OwK w1 f3 w1 lo w.heap.size o3x (x.links.take (Int.toNat (Qz x.graph a b)) ++ x.links[(Int.toNat (Qz x.graph a b))] :: x.links.drop ((Int.toNat (Qz x.graph a b)) + 1)):=⟨by rw [← Vc hi1];exact hw3,Kq.refl _ _⟩
  have hfl1:=OwF.in2 hw3
  obtain ⟨_,ho1,hrow1⟩:=OwK.focus hK1
  obtain ⟨o1,rfl,sp2,hw6⟩:=Link.opO ho1
  clear hK1 hw3
  have hl2 : (x.links.take (Int.toNat (Qz x.graph a b))).length = (Int.toNat (Qz x.graph a b)):=by simp;omega
  have hn1 : (Int.toNat (Qz x.graph a b)) + 1 + (x.links.drop ((Int.toNat (Qz x.graph a b)) + 1)).length = x.links.length:=by simp;omega
  replace hrow1 : RowR f3 w1 lo w.heap.size o3x (x.links.take (Int.toNat (Qz x.graph a b))) [.int .i64 ((x.links[(Int.toNat (Qz x.graph a b))]'hi1).cap),o1,.int .i64 ((x.links[(Int.toNat (Qz x.graph a b))]'hi1).credits),.int .i64 ((x.links[(Int.toNat (Qz x.graph a b))]'hi1).back),.int .i64 ((x.links[(Int.toNat (Qz x.graph a b))]'hi1).sent),.int .i64 ((x.links[(Int.toNat (Qz x.graph a b))]'hi1).got)] (x.links.drop ((Int.toNat (Qz x.graph a b)) + 1)):=hrow1
  refine Qa (Xs (i:=(Int.toNat (Qz x.graph a b))) Vb Z Z (RowK.same1 hrow1 hl2 hn1) (by omega) (by simp;omega)) Z (Qa (Qy Xv Z (RowK.at hrow1 hl2) Z) Z (Qu Tryz.call59 Z (s_TakeFrom [.int .i64 ((x.links[(Int.toNat (Qz x.graph a b))]'hi1).cap),o1,.int .i64 ((x.links[(Int.toNat (Qz x.graph a b))]'hi1).credits),.int .i64 ((x.links[(Int.toNat (Qz x.graph a b))]'hi1).back),.int .i64 ((x.links[(Int.toNat (Qz x.graph a b))]'hi1).sent),.int .i64 ((x.links[(Int.toNat (Qz x.graph a b))]'hi1).got)] (x.links[(Int.toNat (Qz x.graph a b))]'hi1) _ (Link.mkR (x.links[(Int.toNat (Qz x.graph a b))]'hi1) (RdD.any (Own.rdD hw6))) (by have:=Ae (cnt:=Y0) hlr.2;unfold Ya at hb;omega)) Z (fun _ w3 e2 ho2=>?_)))
  obtain ⟨_,rfl,ho3⟩:=ho2
  have g_ho2 : w.heap.size ≤ w1.heap.size:=E.size
  replace E:=E.ext e2;replace hw1:=hw1.ext e2;replace hw2:=hw2.ext e2;replace hw4:=hw4.ext e2;replace hw5:=hw5.ext e2;replace h1:=h1.ext e2;replace hw6:=hw6.ext e2;replace hrow1:=hrow1.ext e2
  have z2:=e2.size
  obtain ⟨o2,rfl,sp3,hw7⟩:=Link.opO ho3
  refine Qa (Qd Z) Z (Qa (Kx Z Z) Z (Qa (Kx Z Z) Z (Qa (Kx Z Z) Z (Yj Xv Z (fun b1 w4 e3 s1 h2=>?_)))))
  have g_b1 : w.heap.size ≤ b1:=by have:=E.size;omega
  have y_b1:=h2.lt
  replace E:=E.ext e3;replace hw1:=hw1.ext e3;replace hw2:=hw2.ext e3;replace hw4:=hw4.ext e3;replace hw5:=hw5.ext e3;replace h1:=h1.ext e3;replace hw6:=hw6.ext e3;replace hrow1:=hrow1.ext e3;replace hw7:=hw7.ext e3
  have z3:=e3.size
  refine Yj K0 Z (fun b2 w5 e4 s2 h3=>?_)
  have g_b2 : w.heap.size ≤ b2:=by have:=E.size;omega
  have y_b2:=h3.lt
  replace E:=E.ext e4;replace hw1:=hw1.ext e4;replace hw2:=hw2.ext e4;replace hw4:=hw4.ext e4;replace hw5:=hw5.ext e4;replace h1:=h1.ext e4;replace hw6:=hw6.ext e4;replace hrow1:=hrow1.ext e4;replace hw7:=hw7.ext e4;replace h2:=h2.ext e4
  have z4:=e4.size
  refine Q6 (cs':=[.int .i64 (((Q3 (x.links[(Int.toNat (Qz x.graph a b))]'hi1)).1).cap),o2,.int .i64 (((Q3 (x.links[(Int.toNat (Qz x.graph a b))]'hi1)).1).credits),.int .i64 (((Q3 (x.links[(Int.toNat (Qz x.graph a b))]'hi1)).1).back),.int .i64 (((Q3 (x.links[(Int.toNat (Qz x.graph a b))]'hi1)).1).sent),.int .i64 (((Q3 (x.links[(Int.toNat (Qz x.graph a b))]'hi1)).1).got)]) Xv Z Z Z (Qj Z (Qj hw7.one (Qj Z (Qj Z (Qj Z (Qj Z Z)))))) h2 (Nat.le_of_ble_eq_true Z) Z (fun w6 m1 h2'=>?_)
  replace h2:=h2'
  replace E:=E.mod m1 (fun g hg=>by cases hg;omega);replace hw1:=hw1.mod m1 (fun g hg=>by cases hg;omega);replace hw2:=hw2.mod m1 (fun g hg=>by cases hg;omega);replace hw4:=hw4.mod m1 (fun g hg=>by cases hg;omega);replace hw5:=hw5.mod m1 (fun g hg=>by cases hg;omega);replace h1:=h1.mod m1 (fun g hg=>by cases hg;omega);replace hw6:=hw6.mod m1 (fun g hg=>by cases hg;omega);replace hrow1:=hrow1.mod m1 (fun g hg=>by cases hg;omega);replace hw7:=hw7.mod m1 (fun g hg=>by cases hg;omega);replace h3:=h3.mod m1 (fun g hg=>by cases hg;omega)
  have z5:=m1.size
  refine Q6 (cs':=[.int .i64 (((Q3 (x.links[(Int.toNat (Qz x.graph a b))]'hi1)).2.1).op),.int .i64 ((((Q3 (x.links[(Int.toNat (Qz x.graph a b))]'hi1)).2.1).stamp).epoch),.int .i64 ((((Q3 (x.links[(Int.toNat (Qz x.graph a b))]'hi1)).2.1).stamp).turn),.int .i64 (((Q3 (x.links[(Int.toNat (Qz x.graph a b))]'hi1)).2.1).key),.int .i64 (((Q3 (x.links[(Int.toNat (Qz x.graph a b))]'hi1)).2.1).val)]) K0 Z Z Z Z h3 (Nat.le_of_ble_eq_true Z) Z (fun w7 m2 h3'=>?_)
  replace h3:=h3'
  replace E:=E.mod m2 (fun g hg=>by cases hg;omega);replace hw1:=hw1.mod m2 (fun g hg=>by cases hg;omega);replace hw2:=hw2.mod m2 (fun g hg=>by cases hg;omega);replace hw4:=hw4.mod m2 (fun g hg=>by cases hg;omega);replace hw5:=hw5.mod m2 (fun g hg=>by cases hg;omega);replace h1:=h1.mod m2 (fun g hg=>by cases hg;omega);replace hw6:=hw6.mod m2 (fun g hg=>by cases hg;omega);replace hrow1:=hrow1.mod m2 (fun g hg=>by cases hg;omega);replace hw7:=hw7.mod m2 (fun g hg=>by cases hg;omega);replace h2:=h2.mod m2 (fun g hg=>by cases hg;omega)
  have z6:=m2.size
  refine Qa (Qf Z) Z (Qc (Qe (Qe (Qg [true,true] Z Z (Qa (Qd Z) Z (Qa (Yt Z) Z (Qc (Qr Z (fun hc2=>?_) (fun hc2=>?_)))))))))
  ·refine Qe (Qg [true] Z Z (Qa (Qf Z) Z (Qc (Qt (Ql Z Z E ?_)))))
   have hw3:=(RowK.close (y:=x.links[(Int.toNat (Qz x.graph a b))]) hrow1 (Link.mkO (x.links[(Int.toNat (Qz x.graph a b))]'hi1) sp2 (Own.widen hw6 (by omega) (by omega)))).1
   rw [← Vc hi1] at hw3
   clear hrow1 hfl1
   rw [take2_no2 hlr.2 hc1 (by simpa using hc2)]
   exact ⟨Z,⟨f1,f2,f3,h1,(by omega),(OwF.widen hw1 (Nat.le_refl _) (by omega)),(OwF.widen hw2 (Nat.le_refl _) (by omega)),(OwF.widen hw3 (Nat.le_refl _) (by omega)),(Own.widen hw4 (by omega) (by omega)),(Own.widen hw5 (by omega) (by omega)),sp1⟩⟩
  ·obtain ⟨htb0,htb1,htb,hte0,hte1,hte2⟩:=take_facts hcl hc1 hlr.2 (by simpa using hc2)
   refine Qm (Qe (Xw Xp [(0,true),(1,true),(2,true),(3,true),(4,true),(5,true),(6,true),(7,true),(8,false)] (by decide +kernel) Z (fun w8 e5=>?_)))
   replace E:=E.ext e5;replace hw1:=hw1.ext e5;replace hw2:=hw2.ext e5;replace hw4:=hw4.ext e5;replace hw5:=hw5.ext e5;replace h1:=h1.ext e5;replace hw6:=hw6.ext e5;replace hrow1:=hrow1.ext e5;replace hw7:=hw7.ext e5;replace h2:=h2.ext e5;replace h3:=h3.ext e5
   have z7:=e5.size
   refine Qa (Qd Z) Z (Qa (X7 Z) Z (Qa (Qb Hf Z) Z (Qa (Qb Ki Z) Z (Qa (Qk V7 Z (h1.one 4 Z)) Z (Qa (Qd Z) Z (Qa (Qy Xv Z h2.at Z) Z (Qa (Xs (i:=(Int.toNat (Qz x.graph a b))) Vb Z Z (RowK.same1 hrow1 hl2 hn1) (by omega) (by simp;omega)) Z (Ce Z Z (RowK.setN (N:=w1.heap.size) (lo2:=lo) (hi2:=w8.heap.size) (cs':=[.int .i64 (((Q3 (x.links[(Int.toNat (Qz x.graph a b))]'hi1)).1).cap),o2,.int .i64 (((Q3 (x.links[(Int.toNat (Qz x.graph a b))]'hi1)).1).credits),.int .i64 (((Q3 (x.links[(Int.toNat (Qz x.graph a b))]'hi1)).1).back),.int .i64 (((Q3 (x.links[(Int.toNat (Qz x.graph a b))]'hi1)).1).sent),.int .i64 (((Q3 (x.links[(Int.toNat (Qz x.graph a b))]'hi1)).1).got)]) Xv hrow1 hl2 (Link.mkO ((Q3 (x.links[(Int.toNat (Qz x.graph a b))]'hi1)).1) sp3 (Own.widen hw7 (by omega) (by omega))) ⟨(fun _ h=>absurd h List.not_mem_nil),(fun b hb=>.inr (by have:=Own.in2 hw7 b hb;omega)),(fun _ h=>absurd h List.not_mem_nil),(fun _ h=>absurd h List.not_mem_nil),(fun _ h=>absurd h List.not_mem_nil),(fun _ h=>absurd h List.not_mem_nil),trivial⟩ (fun b hb=>by have:=hfl1 b hb;omega) (by omega) (by omega)) (fun w9 m3 hR=>?_)))))))))
   obtain ⟨f4,hw3,hin1⟩:=hR
   have kq1:=Mod.kq (l:=f3) m3 (RowK.v_mem hrow1)
   have hqb:=RowK.blk hrow1
   replace E:=E.mod m3 (fun g hg=>by have:=hqb g hg;omega);replace hw1:=OwF.kp hw1 (Kq.kp kq1 sp1.1.2.1);replace hw2:=OwF.kp hw2 (Kq.kp kq1 sp1.2.1.1);replace hw4:=Own.kp hw4 (Kq.kp kq1 (sp1.2.2.1.1).symm);replace hw5:=Own.kp hw5 (Kq.kp kq1 (sp1.2.2.1.2.1).symm);replace h1:=Blk.kp h1 (Kq.kp kq1 (sp1.2.2.1.2.2.1).symm);replace h2:=h2.mod m3 (fun g hg=>by have:=hqb g hg;omega);replace h3:=h3.mod m3 (fun g hg=>by have:=hqb g hg;omega)
   have z8:=m3.size
   clear hqb hrow1
   replace sp1:=DjL.set (N:=w1.heap.size) hin1 2 rfl sp1 ⟨(fun b hb=>by have:=OwF.in2 hw1 b hb;omega),(fun b hb=>by have:=OwF.in2 hw2 b hb;omega),(fun b hb=>by have:=hfl1 b hb;omega),(fun b hb=>by have:=Own.in2 hw4 b hb;omega),(fun b hb=>by have:=Own.in2 hw5 b hb;omega),(fun b hb=>by simp at hb;omega),trivial⟩
   replace sp1 : DjL [f1,f2,f4,(Kc o4x),(Kc o5x),[bx]]:=sp1
   rw [← Gq hi1] at hw3
   clear hfl1
   refine Qc (Qe ?_)
   have hi2 : (Int.toNat b) < x.workers.length:=(by first | assumption | omega | (simp only [List.length_set];first | assumption | omega) | (simp only [List.getElem_set_self,List.length_set];first | assumption | omega))
   have hK2 : OwK w9 f2 w9 lo w.heap.size o2x (x.workers.take (Int.toNat b) ++ x.workers[(Int.toNat b)] :: x.workers.drop ((Int.toNat b) + 1)):=⟨by rw [← Vc hi2];exact hw2,Kq.refl _ _⟩
   have hfl2:=OwF.in2 hw2
   obtain ⟨_,ho4,hrow2⟩:=OwK.focus hK2
   obtain ⟨o3,o4,o5,o6,o7,o8,o9,o10,rfl,sp4,hw8,hw9,hw10,hw11,hw12,hw13,hw14,hw15⟩:=Worker.opO ho4
   clear hK2 hw2
   have hl3 : (x.workers.take (Int.toNat b)).length = (Int.toNat b):=by simp;omega
   have hn2 : (Int.toNat b) + 1 + (x.workers.drop ((Int.toNat b) + 1)).length = x.workers.length:=by simp;omega
   replace hrow2 : RowR f2 w9 lo w.heap.size o2x (x.workers.take (Int.toNat b)) [o3,o4,o5,o6,o7,o8,o9,o10] (x.workers.drop ((Int.toNat b) + 1)):=hrow2
   refine S_regV Xp [0,1,2,6,7,8,9,10,11,12,13,14,15,16,17,18,32,33,34,35,36,37,38,39,40,41,42,43,44,45,46,47,48,49,50,51,52,53,54,55,56,61,62,63,64,65,66,67,68,69,70,71] 16 17 72 73 [(0,true),(5,true),(6,true),(7,true),(8,true),(9,true),(10,true),(11,true),(12,true),(13,true),(14,true),(15,true)] [(1,true),(2,true),(3,true),(4,true)] [(18,true),(19,true),(20,false)] (by decide +kernel) Z Z Z Z Z [(0,.pointer (some ⟨bx,0,none⟩)),(1,.int .i64 a),(2,.int .i64 b),(6,.bool false),(7,.int .i64 (Qz x.graph a b)),(8,.pointer (some ⟨b1,0,none⟩)),(9,.pointer (some ⟨b2,0,none⟩)),(10,.bool ((Q3 (x.links[(Int.toNat (Qz x.graph a b))]'hi1)).2.2)),(11,.pointer (some ⟨bx,0,none⟩)),(12,.pointer (some ⟨bx,0,none⟩)),(13,.pointer (some ⟨bx,0,none⟩)),(14,.pointer (some ⟨bx,0,none⟩)),(15,.agg [o1x,.int .i64 x.graph.workers,.int .i64 x.graph.cap].toArray),(16,.int .i64 a),(17,.int .i64 b),(18,.int .i64 (Qz x.graph a b)),(32,.bool (((!okx) || (decide ((Qz x.graph a b) < 0))) || (a == b))),(33,.tuple [.agg [.int .i64 (((Q3 (x.links[(Int.toNat (Qz x.graph a b))]'hi1)).1).cap),o2,.int .i64 (((Q3 (x.links[(Int.toNat (Qz x.graph a b))]'hi1)).1).credits),.int .i64 (((Q3 (x.links[(Int.toNat (Qz x.graph a b))]'hi1)).1).back),.int .i64 (((Q3 (x.links[(Int.toNat (Qz x.graph a b))]'hi1)).1).sent),.int .i64 (((Q3 (x.links[(Int.toNat (Qz x.graph a b))]'hi1)).1).got)].toArray,.agg (Enc.enc ((Q3 (x.links[(Int.toNat (Qz x.graph a b))]'hi1)).2.1)).toArray,.bool ((Q3 (x.links[(Int.toNat (Qz x.graph a b))]'hi1)).2.2)].toArray),(34,.pointer (some ⟨bx,0,none⟩)),(35,.pointer (some ⟨bx,0,none⟩)),(36,.pointer (some ⟨bx,0,none⟩)),(37,.pointer (some ⟨bx,4,none⟩)),(38,o3x),(39,.int .i64 (Qz x.graph a b)),(40,.pointer (some ⟨Y2 o3x,Y9 o3x + (Int.toNat (Qz x.graph a b)) * 6,none⟩)),(41,.agg [.int .i64 ((x.links[(Int.toNat (Qz x.graph a b))]'hi1).cap),o1,.int .i64 ((x.links[(Int.toNat (Qz x.graph a b))]'hi1).credits),.int .i64 ((x.links[(Int.toNat (Qz x.graph a b))]'hi1).back),.int .i64 ((x.links[(Int.toNat (Qz x.graph a b))]'hi1).sent),.int .i64 ((x.links[(Int.toNat (Qz x.graph a b))]'hi1).got)].toArray),(42,.tuple [.agg [.int .i64 (((Q3 (x.links[(Int.toNat (Qz x.graph a b))]'hi1)).1).cap),o2,.int .i64 (((Q3 (x.links[(Int.toNat (Qz x.graph a b))]'hi1)).1).credits),.int .i64 (((Q3 (x.links[(Int.toNat (Qz x.graph a b))]'hi1)).1).back),.int .i64 (((Q3 (x.links[(Int.toNat (Qz x.graph a b))]'hi1)).1).sent),.int .i64 (((Q3 (x.links[(Int.toNat (Qz x.graph a b))]'hi1)).1).got)].toArray,.agg (Enc.enc ((Q3 (x.links[(Int.toNat (Qz x.graph a b))]'hi1)).2.1)).toArray,.bool ((Q3 (x.links[(Int.toNat (Qz x.graph a b))]'hi1)).2.2)].toArray),(43,.agg [.int .i64 (((Q3 (x.links[(Int.toNat (Qz x.graph a b))]'hi1)).1).cap),o2,.int .i64 (((Q3 (x.links[(Int.toNat (Qz x.graph a b))]'hi1)).1).credits),.int .i64 (((Q3 (x.links[(Int.toNat (Qz x.graph a b))]'hi1)).1).back),.int .i64 (((Q3 (x.links[(Int.toNat (Qz x.graph a b))]'hi1)).1).sent),.int .i64 (((Q3 (x.links[(Int.toNat (Qz x.graph a b))]'hi1)).1).got)].toArray),(44,.agg (Enc.enc ((Q3 (x.links[(Int.toNat (Qz x.graph a b))]'hi1)).2.1)).toArray),(45,.bool ((Q3 (x.links[(Int.toNat (Qz x.graph a b))]'hi1)).2.2)),(46,.bool ((Q3 (x.links[(Int.toNat (Qz x.graph a b))]'hi1)).2.2)),(47,.bool (!((Q3 (x.links[(Int.toNat (Qz x.graph a b))]'hi1)).2.2))),(48,.pointer (some ⟨bx,0,none⟩)),(49,.pointer (some ⟨bx,0,none⟩)),(50,.pointer (some ⟨bx,0,none⟩)),(51,.pointer (some ⟨bx,4,none⟩)),(52,o3x),(53,.int .i64 (Qz x.graph a b)),(54,.agg [.int .i64 (((Q3 (x.links[(Int.toNat (Qz x.graph a b))]'hi1)).1).cap),o2,.int .i64 (((Q3 (x.links[(Int.toNat (Qz x.graph a b))]'hi1)).1).credits),.int .i64 (((Q3 (x.links[(Int.toNat (Qz x.graph a b))]'hi1)).1).back),.int .i64 (((Q3 (x.links[(Int.toNat (Qz x.graph a b))]'hi1)).1).sent),.int .i64 (((Q3 (x.links[(Int.toNat (Qz x.graph a b))]'hi1)).1).got)].toArray),(55,.pointer (some ⟨Y2 o3x,Y9 o3x + (Int.toNat (Qz x.graph a b)) * 6,none⟩)),(56,.pointer (some ⟨bx,0,none⟩)),(61,.int .i64 b),(62,.pointer (some ⟨bx,0,none⟩)),(63,.pointer (some ⟨bx,0,none⟩)),(64,.pointer (some ⟨bx,0,none⟩)),(65,.pointer (some ⟨bx,3,none⟩)),(66,o2x),(67,.int .i64 b),(68,.pointer (some ⟨Y2 o2x,Y9 o2x + (Int.toNat b) * 8,none⟩)),(69,.pointer (some ⟨(Y2 o2x),Y9 o2x + (Int.toNat b) * 8 + 0,none⟩)),(70,o3),(71,.agg (Enc.enc ((Q3 (x.links[(Int.toNat (Qz x.graph a b))]'hi1)).2.1)).toArray)] Z (fun (b3 : Nat)=>.slice (some ⟨b3,0,none⟩) 1 1) (fun (_ : Nat) (v1 : Value)=>v1) (fun w'=>ModR w w' lo w.heap.size ∧ w9.heap.size ≤ w'.heap.size ∧ OwF w' lo w.heap.size o1x x.graph.nodes f1 ∧ Own w' lo w.heap.size 5 o4x (List.flatMap (Enc.enc (α:=Token)) x.tokens) ∧ Own w' lo w.heap.size 3 o5x (List.flatMap (Enc.enc (α:=News)) x.news) ∧ Blk w' bx [o1x,.int .i64 x.graph.workers,.int .i64 x.graph.cap,o2x,o3x,o4x,o5x,.bool okx] ∧ Blk w' b1 [.int .i64 (((Q3 (x.links[(Int.toNat (Qz x.graph a b))]'hi1)).1).cap),o2,.int .i64 (((Q3 (x.links[(Int.toNat (Qz x.graph a b))]'hi1)).1).credits),.int .i64 (((Q3 (x.links[(Int.toNat (Qz x.graph a b))]'hi1)).1).back),.int .i64 (((Q3 (x.links[(Int.toNat (Qz x.graph a b))]'hi1)).1).sent),.int .i64 (((Q3 (x.links[(Int.toNat (Qz x.graph a b))]'hi1)).1).got)] ∧ Blk w' b2 [.int .i64 (((Q3 (x.links[(Int.toNat (Qz x.graph a b))]'hi1)).2.1).op),.int .i64 ((((Q3 (x.links[(Int.toNat (Qz x.graph a b))]'hi1)).2.1).stamp).epoch),.int .i64 ((((Q3 (x.links[(Int.toNat (Qz x.graph a b))]'hi1)).2.1).stamp).turn),.int .i64 (((Q3 (x.links[(Int.toNat (Qz x.graph a b))]'hi1)).2.1).key),.int .i64 (((Q3 (x.links[(Int.toNat (Qz x.graph a b))]'hi1)).2.1).val)] ∧ OwF w' lo w8.heap.size o3x (List.set x.links (Int.toNat (Qz x.graph a b)) ((Q3 (x.links[(Int.toNat (Qz x.graph a b))]'hi1)).1)) f4 ∧ Own w' lo w.heap.size 5 o3 (List.flatMap (Enc.enc (α:=Record)) ((x.workers[(Int.toNat b)]'hi2).queue)) ∧ Own w' lo w.heap.size 5 o4 (List.flatMap (Enc.enc (α:=Record)) ((x.workers[(Int.toNat b)]'hi2).staged)) ∧ Own w' lo w.heap.size 5 o5 (List.flatMap (Enc.enc (α:=Record)) ((x.workers[(Int.toNat b)]'hi2).inputs)) ∧ Own w' lo w.heap.size 4 o6 (List.flatMap (Enc.enc (α:=Cell)) ((x.workers[(Int.toNat b)]'hi2).cells)) ∧ Own w' lo w.heap.size 1 o7 (List.flatMap (Enc.enc (α:=Int)) ((x.workers[(Int.toNat b)]'hi2).sums)) ∧ Own w' lo w.heap.size 1 o8 (List.flatMap (Enc.enc (α:=Bool)) ((x.workers[(Int.toNat b)]'hi2).black)) ∧ Own w' lo w.heap.size 1 o9 (List.flatMap (Enc.enc (α:=Bool)) ((x.workers[(Int.toNat b)]'hi2).caps)) ∧ Own w' lo w.heap.size 2 o10 (List.flatMap (Enc.enc (α:=Done)) ((x.workers[(Int.toNat b)]'hi2).dones)) ∧ RowR f2 w' lo w.heap.size o2x (x.workers.take (Int.toNat b)) [o3,o4,o5,o6,o7,o8,o9,o10] (x.workers.drop ((Int.toNat b) + 1))) (fun w'=>Blk w' bx [o1x,.int .i64 x.graph.workers,.int .i64 x.graph.cap,o2x,o3x,o4x,o5x,.bool okx]) (fun (b3 : Nat) w'=>ModR w w' lo w.heap.size ∧ w9.heap.size ≤ w'.heap.size ∧ OwF w' lo w.heap.size o1x x.graph.nodes f1 ∧ Own w' lo w.heap.size 5 o4x (List.flatMap (Enc.enc (α:=Token)) x.tokens) ∧ Own w' lo w.heap.size 3 o5x (List.flatMap (Enc.enc (α:=News)) x.news) ∧ Blk w' bx [o1x,.int .i64 x.graph.workers,.int .i64 x.graph.cap,o2x,o3x,o4x,o5x,.bool okx] ∧ Blk w' b1 [.int .i64 (((Q3 (x.links[(Int.toNat (Qz x.graph a b))]'hi1)).1).cap),o2,.int .i64 (((Q3 (x.links[(Int.toNat (Qz x.graph a b))]'hi1)).1).credits),.int .i64 (((Q3 (x.links[(Int.toNat (Qz x.graph a b))]'hi1)).1).back),.int .i64 (((Q3 (x.links[(Int.toNat (Qz x.graph a b))]'hi1)).1).sent),.int .i64 (((Q3 (x.links[(Int.toNat (Qz x.graph a b))]'hi1)).1).got)] ∧ Blk w' b2 [.int .i64 (((Q3 (x.links[(Int.toNat (Qz x.graph a b))]'hi1)).2.1).op),.int .i64 ((((Q3 (x.links[(Int.toNat (Qz x.graph a b))]'hi1)).2.1).stamp).epoch),.int .i64 ((((Q3 (x.links[(Int.toNat (Qz x.graph a b))]'hi1)).2.1).stamp).turn),.int .i64 (((Q3 (x.links[(Int.toNat (Qz x.graph a b))]'hi1)).2.1).key),.int .i64 (((Q3 (x.links[(Int.toNat (Qz x.graph a b))]'hi1)).2.1).val)] ∧ OwF w' lo w8.heap.size o3x (List.set x.links (Int.toNat (Qz x.graph a b)) ((Q3 (x.links[(Int.toNat (Qz x.graph a b))]'hi1)).1)) f4 ∧ Own w' lo w.heap.size 5 o3 (List.flatMap (Enc.enc (α:=Record)) ((x.workers[(Int.toNat b)]'hi2).queue)) ∧ Own w' lo w.heap.size 5 o4 (List.flatMap (Enc.enc (α:=Record)) ((x.workers[(Int.toNat b)]'hi2).staged)) ∧ Own w' lo w.heap.size 5 o5 (List.flatMap (Enc.enc (α:=Record)) ((x.workers[(Int.toNat b)]'hi2).inputs)) ∧ Own w' lo w.heap.size 4 o6 (List.flatMap (Enc.enc (α:=Cell)) ((x.workers[(Int.toNat b)]'hi2).cells)) ∧ Own w' lo w.heap.size 1 o7 (List.flatMap (Enc.enc (α:=Int)) ((x.workers[(Int.toNat b)]'hi2).sums)) ∧ Own w' lo w.heap.size 1 o8 (List.flatMap (Enc.enc (α:=Bool)) ((x.workers[(Int.toNat b)]'hi2).black)) ∧ Own w' lo w.heap.size 1 o9 (List.flatMap (Enc.enc (α:=Bool)) ((x.workers[(Int.toNat b)]'hi2).caps)) ∧ Own w' lo w.heap.size 2 o10 (List.flatMap (Enc.enc (α:=Done)) ((x.workers[(Int.toNat b)]'hi2).dones)) ∧ RowR f2 w' lo w.heap.size o2x (x.workers.take (Int.toNat b)) [o3,o4,o5,o6,o7,o8,o9,o10] (x.workers.drop ((Int.toNat b) + 1)) ∧ Blk w' b3 [.int .i64 (((Q3 (x.links[(Int.toNat (Qz x.graph a b))]'hi1)).2.1).op),.int .i64 ((((Q3 (x.links[(Int.toNat (Qz x.graph a b))]'hi1)).2.1).stamp).epoch),.int .i64 ((((Q3 (x.links[(Int.toNat (Qz x.graph a b))]'hi1)).2.1).stamp).turn),.int .i64 (((Q3 (x.links[(Int.toNat (Qz x.graph a b))]'hi1)).2.1).key),.int .i64 (((Q3 (x.links[(Int.toNat (Qz x.graph a b))]'hi1)).2.1).val)] ∧ w9.heap.size ≤ b3 ∧ b3 < w'.heap.size) (fun (b3 : Nat) (v1 : Value) w'=>ModR w w' lo w.heap.size ∧ w9.heap.size ≤ w'.heap.size ∧ OwF w' lo w.heap.size o1x x.graph.nodes f1 ∧ Own w' lo w.heap.size 5 o4x (List.flatMap (Enc.enc (α:=Token)) x.tokens) ∧ Own w' lo w.heap.size 3 o5x (List.flatMap (Enc.enc (α:=News)) x.news) ∧ Blk w' bx [o1x,.int .i64 x.graph.workers,.int .i64 x.graph.cap,o2x,o3x,o4x,o5x,.bool okx] ∧ Blk w' b1 [.int .i64 (((Q3 (x.links[(Int.toNat (Qz x.graph a b))]'hi1)).1).cap),o2,.int .i64 (((Q3 (x.links[(Int.toNat (Qz x.graph a b))]'hi1)).1).credits),.int .i64 (((Q3 (x.links[(Int.toNat (Qz x.graph a b))]'hi1)).1).back),.int .i64 (((Q3 (x.links[(Int.toNat (Qz x.graph a b))]'hi1)).1).sent),.int .i64 (((Q3 (x.links[(Int.toNat (Qz x.graph a b))]'hi1)).1).got)] ∧ Blk w' b2 [.int .i64 (((Q3 (x.links[(Int.toNat (Qz x.graph a b))]'hi1)).2.1).op),.int .i64 ((((Q3 (x.links[(Int.toNat (Qz x.graph a b))]'hi1)).2.1).stamp).epoch),.int .i64 ((((Q3 (x.links[(Int.toNat (Qz x.graph a b))]'hi1)).2.1).stamp).turn),.int .i64 (((Q3 (x.links[(Int.toNat (Qz x.graph a b))]'hi1)).2.1).key),.int .i64 (((Q3 (x.links[(Int.toNat (Qz x.graph a b))]'hi1)).2.1).val)] ∧ OwF w' lo w8.heap.size o3x (List.set x.links (Int.toNat (Qz x.graph a b)) ((Q3 (x.links[(Int.toNat (Qz x.graph a b))]'hi1)).1)) f4 ∧ Own w' lo w.heap.size 5 o4 (List.flatMap (Enc.enc (α:=Record)) ((x.workers[(Int.toNat b)]'hi2).staged)) ∧ Own w' lo w.heap.size 5 o5 (List.flatMap (Enc.enc (α:=Record)) ((x.workers[(Int.toNat b)]'hi2).inputs)) ∧ Own w' lo w.heap.size 4 o6 (List.flatMap (Enc.enc (α:=Cell)) ((x.workers[(Int.toNat b)]'hi2).cells)) ∧ Own w' lo w.heap.size 1 o7 (List.flatMap (Enc.enc (α:=Int)) ((x.workers[(Int.toNat b)]'hi2).sums)) ∧ Own w' lo w.heap.size 1 o8 (List.flatMap (Enc.enc (α:=Bool)) ((x.workers[(Int.toNat b)]'hi2).black)) ∧ Own w' lo w.heap.size 1 o9 (List.flatMap (Enc.enc (α:=Bool)) ((x.workers[(Int.toNat b)]'hi2).caps)) ∧ Own w' lo w.heap.size 2 o10 (List.flatMap (Enc.enc (α:=Done)) ((x.workers[(Int.toNat b)]'hi2).dones)) ∧ RowR f2 w' lo w.heap.size o2x (x.workers.take (Int.toNat b)) [o3,o4,o5,o6,o7,o8,o9,o10] (x.workers.drop ((Int.toNat b) + 1)) ∧ Own w' lo w'.heap.size 5 v1 (List.flatMap (Enc.enc (α:=Record)) (((x.workers[(Int.toNat b)]'hi2).queue) ++ [((Q3 (x.links[(Int.toNat (Qz x.graph a b))]'hi1)).2.1)])) ∧ SepL [v1,o4,o5,o6,o7,o8,o9,o10] ∧ Become w9 o3 v1 ∧ ∀ g,Value.ownBlock v1 = some g → g < w.heap.size ∨ w9.heap.size ≤ g) (fun w10 e6=>?_) ?_ ?_ ?_ ?_ ?_ ?_
   ·replace E:=E.ext e6;replace hw1:=hw1.ext e6;replace hw4:=hw4.ext e6;replace hw5:=hw5.ext e6;replace h1:=h1.ext e6;replace h2:=h2.ext e6;replace h3:=h3.ext e6;replace hw3:=hw3.ext e6;replace hw8:=hw8.ext e6;replace hw9:=hw9.ext e6;replace hw10:=hw10.ext e6;replace hw11:=hw11.ext e6;replace hw12:=hw12.ext e6;replace hw13:=hw13.ext e6;replace hw14:=hw14.ext e6;replace hw15:=hw15.ext e6;replace hrow2:=hrow2.ext e6
    have z9:=e6.size
    refine Qa (Qd Z) Z (Qa (Qd Z) Z (Qa (Qd Z) Z (Qa (X7 Z) Z (Qa (Qb Hf Z) Z (Qa (Qb X3 Z) Z (Qa (Qk Vr Z (h1.one 3 Z)) Z (Qa (Qd Z) Z (Qa (Xs (i:=(Int.toNat b)) Uk Z Z (RowK.same1 hrow2 hl3 hn2) (by omega) (by simp;omega)) Z (Qa (Qs Vy Z) Z (Qa (Qk Xo Z ((RowK.at hrow2 hl3).one 0 Z)) Z (Qa (Qy K0 Z h3.at Z) Z (Qq ⟨Z,Z,Z,Z,Z,Z,Z,Z,Z,Z,Z,Z,Z,Z,Z,Z,Z,Z,Z,Z,Z,Z,Z,Z,Z,Z,Z,Z,Z,Z,Z,Z,Z,Z,Z,Z,Z,Z,Z,Z,Z,Z,Z,Z,Z,Z,Z,Z,Z,Z,Z,Z,trivial⟩ ⟨E,(by omega),hw1,hw4,hw5,h1,h2,h3,hw3,hw8,hw9,hw10,hw11,hw12,hw13,hw14,hw15,hrow2⟩))))))))))))
   ·rintro w11 ⟨E,z10,hw1,hw4,hw5,h1,h2,h3,hw3,hw8,hw9,hw10,hw11,hw12,hw13,hw14,hw15,hrow2⟩;exact h1
   ·rintro b3 w13 ⟨E,z10,hw1,hw4,hw5,h1,h2,h3,hw3,hw8,hw9,hw10,hw11,hw12,hw13,hw14,hw15,hrow2,h4,g1,y1⟩;exact h1
   ·rintro b3 v1 w13 ⟨E,z13,hw1,hw4,hw5,h1,h2,h3,hw3,hw9,hw10,hw11,hw12,hw13,hw14,hw15,hrow2,ho5,sp4,hb1,hn3⟩;exact h1
   ·rintro w11 ⟨E,z10,hw1,hw4,hw5,h1,h2,h3,hw3,hw8,hw9,hw10,hw11,hw12,hw13,hw14,hw15,hrow2⟩
    refine Y8 (vs:=[.agg (Enc.enc ((Q3 (x.links[(Int.toNat (Qz x.graph a b))]'hi1)).2.1)).toArray]) (css:=[[.int .i64 (((Q3 (x.links[(Int.toNat (Qz x.graph a b))]'hi1)).2.1).op),.int .i64 ((((Q3 (x.links[(Int.toNat (Qz x.graph a b))]'hi1)).2.1).stamp).epoch),.int .i64 ((((Q3 (x.links[(Int.toNat (Qz x.graph a b))]'hi1)).2.1).stamp).turn),.int .i64 (((Q3 (x.links[(Int.toNat (Qz x.graph a b))]'hi1)).2.1).key),.int .i64 (((Q3 (x.links[(Int.toNat (Qz x.graph a b))]'hi1)).2.1).val)]]) K2 Z Z ⟨⟨Z,Z⟩,trivial⟩ Z Z (fun b3 w12 e7 s3 h4=>?_)
    replace h4 : Blk w12 b3 [.int .i64 (((Q3 (x.links[(Int.toNat (Qz x.graph a b))]'hi1)).2.1).op),.int .i64 ((((Q3 (x.links[(Int.toNat (Qz x.graph a b))]'hi1)).2.1).stamp).epoch),.int .i64 ((((Q3 (x.links[(Int.toNat (Qz x.graph a b))]'hi1)).2.1).stamp).turn),.int .i64 (((Q3 (x.links[(Int.toNat (Qz x.graph a b))]'hi1)).2.1).key),.int .i64 (((Q3 (x.links[(Int.toNat (Qz x.graph a b))]'hi1)).2.1).val)]:=h4
    have g_b3 : w.heap.size ≤ b3:=by have:=E.size;omega
    have y_b3:=h4.lt
    replace E:=E.ext e7;replace hw1:=hw1.ext e7;replace hw4:=hw4.ext e7;replace hw5:=hw5.ext e7;replace h1:=h1.ext e7;replace h2:=h2.ext e7;replace h3:=h3.ext e7;replace hw3:=hw3.ext e7;replace hw8:=hw8.ext e7;replace hw9:=hw9.ext e7;replace hw10:=hw10.ext e7;replace hw11:=hw11.ext e7;replace hw12:=hw12.ext e7;replace hw13:=hw13.ext e7;replace hw14:=hw14.ext e7;replace hw15:=hw15.ext e7;replace hrow2:=hrow2.ext e7
    have z11:=e7.size
    exact fun a ha=>⟨b3,ha.sub ⟨Z,trivial⟩,E,(by omega),hw1,hw4,hw5,h1,h2,h3,hw3,hw8,hw9,hw10,hw11,hw12,hw13,hw14,hw15,hrow2,h4,(by omega),(by omega)⟩
   ·rintro b3 w13 ⟨E,z10,hw1,hw4,hw5,h1,h2,h3,hw3,hw8,hw9,hw10,hw11,hw12,hw13,hw14,hw15,hrow2,h4,g1,y1⟩
    refine Ao K2 Z Z hw8 (Src.ofBlk h4 Z) Z (by have h1:=Ae (cnt:=Q8) htb;have h2:=wk_le (x.workers[Int.toNat b]'htb);unfold Ya at hb;simp only [Yx,List.length_nil,List.length_cons,List.length_drop];simp only [Enc.sz];omega) (by decide) (by omega) (by omega) Z Z (fun v1 w14 m4 ho5 hb1=>?_)
    have hn3 : ∀ g,Value.ownBlock v1 = some g → g < w.heap.size ∨ w13.heap.size ≤ g:=fun g hg=>(hb1 g hg).elim (fun h=>.inl (by have:=Own.blk hw8 g h;omega)) (fun h=>.inr h)
    have sq1:=sp4
    replace sp4:=SepL.set hb1 0 rfl sp4 ⟨(Own.lt hw8),(Own.lt hw9),(Own.lt hw10),(Own.lt hw11),(Own.lt hw12),(Own.lt hw13),(Own.lt hw14),(Own.lt hw15),trivial⟩
    replace sp4 : SepL [v1,o4,o5,o6,o7,o8,o9,o10]:=sp4
    have kq2:=Mod.kq (l:=f2) m4 (RowK.fpr_mem hrow2 (by simp))
    replace E:=E.mod m4 (fun g hg=>by have:=Own.blk hw8 g hg;omega);replace hw1:=OwF.kp hw1 (Kq.kp kq2 sp1.1.1);replace hw4:=Own.kp hw4 (Kq.kp kq2 (sp1.2.1.2.1).symm);replace hw5:=Own.kp hw5 (Kq.kp kq2 (sp1.2.1.2.2.1).symm);replace h1:=Blk.kp h1 (Kq.kp kq2 (sp1.2.1.2.2.2.1).symm);replace h2:=h2.mod m4 (fun g hg=>by have:=Own.blk hw8 g hg;omega);replace h3:=h3.mod m4 (fun g hg=>by have:=Own.blk hw8 g hg;omega);replace hw3:=OwF.kp hw3 (Kq.kp kq2 (sp1.2.1.1).symm);replace hw9:=Own.modS hw9 m4 sq1.1.1;replace hw10:=Own.modS hw10 m4 sq1.1.2.1;replace hw11:=Own.modS hw11 m4 sq1.1.2.2.1;replace hw12:=Own.modS hw12 m4 sq1.1.2.2.2.1;replace hw13:=Own.modS hw13 m4 sq1.1.2.2.2.2.1;replace hw14:=Own.modS hw14 m4 sq1.1.2.2.2.2.2.1;replace hw15:=Own.modS hw15 m4 sq1.1.2.2.2.2.2.2.1;replace hrow2:=RowR.modS hrow2 m4 (by simp)
    have z12:=m4.size
    replace ho5 : Own w14 lo w14.heap.size 5 v1 (List.flatMap (Enc.enc (α:=Record)) (((x.workers[(Int.toNat b)]'hi2).queue) ++ [((Q3 (x.links[(Int.toNat (Qz x.graph a b))]'hi1)).2.1)])):=by rw [List.flatMap_append];exact ho5
    exact fun a ha=>⟨v1,ha.sub ⟨Z,trivial⟩,E,(by omega),hw1,hw4,hw5,h1,h2,h3,hw3,hw9,hw10,hw11,hw12,hw13,hw14,hw15,hrow2,ho5,sp4,(fun g hg=>(hb1 g hg).imp id (fun h=>by omega)),(fun g hg=>(hn3 g hg).imp id (fun h=>by omega))⟩
   refine ⟨_,fun a ha=>⟨Z,fun wX h1=>(X7 Z) a ha wX (Ext.refl wX)⟩,Z,?_⟩
   refine ⟨_,fun a ha=>⟨Z,fun wX h1=>(Qb Hf Z) a ha wX (Ext.refl wX)⟩,Z,?_⟩
   refine ⟨_,fun a ha=>⟨Z,fun wX h1=>(Qb X3 Z) a ha wX (Ext.refl wX)⟩,Z,?_⟩
   refine ⟨_,fun a ha=>⟨Z,fun wX h1=>(Qk Vr Z (h1.one 3 Z)) a ha wX (Ext.refl wX)⟩,Z,?_⟩
   simp only [AV]
   clear E hw1 hw4 hw5 h1 h2 h3 hw3 hw8 hw9 hw10 hw11 hw12 hw13 hw14 hw15 hrow2
   rintro b3 v1 w15 ⟨E,z13,hw1,hw4,hw5,h1,h2,h3,hw3,hw9,hw10,hw11,hw12,hw13,hw14,hw15,hrow2,ho5,sp4,hb1,hn3⟩
   refine Qa (Xs (i:=(Int.toNat b)) Uk Z Z (RowK.same1 hrow2 hl3 hn2) (by omega) (by simp;omega)) Z (Qa (Qs Vy Z) Z (Ce Z Z (RowK.setFN (N:=w9.heap.size) (lo2:=lo) (hi2:=w15.heap.size) (cs':=[v1,o4,o5,o6,o7,o8,o9,o10]) (k:=0) Xo hrow2 hl3 (by decide) ho5.one Z (Worker.mkO (⟨((x.workers[(Int.toNat b)]'hi2).queue) ++ [((Q3 (x.links[(Int.toNat (Qz x.graph a b))]'hi1)).2.1)],(x.workers[(Int.toNat b)]'hi2).staged,(x.workers[(Int.toNat b)]'hi2).inputs,(x.workers[(Int.toNat b)]'hi2).cells,(x.workers[(Int.toNat b)]'hi2).sums,(x.workers[(Int.toNat b)]'hi2).black,(x.workers[(Int.toNat b)]'hi2).caps,(x.workers[(Int.toNat b)]'hi2).dones⟩ : Worker) sp4 (Own.widen ho5 (by omega) (by omega)) (Own.widen hw9 (by omega) (by omega)) (Own.widen hw10 (by omega) (by omega)) (Own.widen hw11 (by omega) (by omega)) (Own.widen hw12 (by omega) (by omega)) (Own.widen hw13 (by omega) (by omega)) (Own.widen hw14 (by omega) (by omega)) (Own.widen hw15 (by omega) (by omega))) ⟨(fun b hb=>(hb1 b (mem_blks.1 hb)).elim (fun h=>.inl (Ku (by simp) b (mem_blks.2 h))) (fun h=>.inr (by omega))),(fun b hb=>.inl (Ku (by simp) b hb)),(fun b hb=>.inl (Ku (by simp) b hb)),(fun b hb=>.inl (Ku (by simp) b hb)),(fun b hb=>.inl (Ku (by simp) b hb)),(fun b hb=>.inl (Ku (by simp) b hb)),(fun b hb=>.inl (Ku (by simp) b hb)),(fun b hb=>.inl (Ku (by simp) b hb)),trivial⟩ (fun b hb=>by have:=hfl2 b hb;omega) (by omega) (by omega)) (fun w16 m5 hR=>?_)))
   obtain ⟨f5,hw2,hin2⟩:=hR
   have kq3:=Mod.kq (l:=f2) m5 (RowK.v_mem hrow2)
   have hqb:=RowK.blk hrow2
   replace E:=E.mod m5 (fun g hg=>by have:=hqb g hg;omega);replace hw1:=OwF.kp hw1 (Kq.kp kq3 sp1.1.1);replace hw4:=Own.kp hw4 (Kq.kp kq3 (sp1.2.1.2.1).symm);replace hw5:=Own.kp hw5 (Kq.kp kq3 (sp1.2.1.2.2.1).symm);replace h1:=Blk.kp h1 (Kq.kp kq3 (sp1.2.1.2.2.2.1).symm);replace h2:=h2.mod m5 (fun g hg=>by have:=hqb g hg;omega);replace h3:=h3.mod m5 (fun g hg=>by have:=hqb g hg;omega);replace hw3:=OwF.kp hw3 (Kq.kp kq3 (sp1.2.1.1).symm)
   have z14:=m5.size
   clear hqb hrow2
   have nh3 : b1 ∉ f5:=fun hx=>(hin2 b1 hx).elim (fun h=>by have:=hfl2 b1 h;omega) (fun h=>by omega)
   have nh4 : b2 ∉ f5:=fun hx=>(hin2 b2 hx).elim (fun h=>by have:=hfl2 b2 h;omega) (fun h=>by omega)
   replace sp1:=DjL.set (N:=w9.heap.size) hin2 1 rfl sp1 ⟨(fun b hb=>by have:=OwF.in2 hw1 b hb;omega),(fun b hb=>by have:=hfl2 b hb;omega),(fun b hb=>by have:=OwF.in2 hw3 b hb;omega),(fun b hb=>by have:=Own.in2 hw4 b hb;omega),(fun b hb=>by have:=Own.in2 hw5 b hb;omega),(fun b hb=>by simp at hb;omega),trivial⟩
   replace sp1 : DjL [f1,f5,f4,(Kc o4x),(Kc o5x),[bx]]:=sp1
   rw [← Gq hi2] at hw2
   clear hfl2
   refine Qc (Qe (Xw Xp [(0,true),(1,true),(2,true),(3,true),(4,true),(5,true),(6,true),(7,true),(8,true),(9,true),(10,true),(11,true),(12,true),(13,false)] (by decide +kernel) Z (fun w17 e8=>?_)))
   replace E:=E.ext e8;replace hw1:=hw1.ext e8;replace hw4:=hw4.ext e8;replace hw5:=hw5.ext e8;replace h1:=h1.ext e8;replace h2:=h2.ext e8;replace h3:=h3.ext e8;replace hw3:=hw3.ext e8;replace hw2:=hw2.ext e8
   have z15:=e8.size
   refine Qa (Qd Z) Z (Qa (X7 Z) Z (Qa (Qb Hf Z) Z (Qa (Qb X3 Z) Z (Qa (Qk Vr Z (h1.one 3 Z)) Z (Qa (Qd Z) Z ?_)))))
   have hi3 : (Int.toNat b) < (List.set x.workers (Int.toNat b) (⟨((x.workers[(Int.toNat b)]'hi2).queue) ++ [((Q3 (x.links[(Int.toNat (Qz x.graph a b))]'hi1)).2.1)],(x.workers[(Int.toNat b)]'hi2).staged,(x.workers[(Int.toNat b)]'hi2).inputs,(x.workers[(Int.toNat b)]'hi2).cells,(x.workers[(Int.toNat b)]'hi2).sums,(x.workers[(Int.toNat b)]'hi2).black,(x.workers[(Int.toNat b)]'hi2).caps,(x.workers[(Int.toNat b)]'hi2).dones⟩ : Worker)).length:=(by first | assumption | omega | (simp only [List.length_set];first | assumption | omega) | (simp only [List.getElem_set_self,List.length_set];first | assumption | omega))
   have hK3 : OwK w17 f5 w17 lo w15.heap.size o2x ((List.set x.workers (Int.toNat b) (⟨((x.workers[(Int.toNat b)]'hi2).queue) ++ [((Q3 (x.links[(Int.toNat (Qz x.graph a b))]'hi1)).2.1)],(x.workers[(Int.toNat b)]'hi2).staged,(x.workers[(Int.toNat b)]'hi2).inputs,(x.workers[(Int.toNat b)]'hi2).cells,(x.workers[(Int.toNat b)]'hi2).sums,(x.workers[(Int.toNat b)]'hi2).black,(x.workers[(Int.toNat b)]'hi2).caps,(x.workers[(Int.toNat b)]'hi2).dones⟩ : Worker)).take (Int.toNat b) ++ (List.set x.workers (Int.toNat b) (⟨((x.workers[(Int.toNat b)]'hi2).queue) ++ [((Q3 (x.links[(Int.toNat (Qz x.graph a b))]'hi1)).2.1)],(x.workers[(Int.toNat b)]'hi2).staged,(x.workers[(Int.toNat b)]'hi2).inputs,(x.workers[(Int.toNat b)]'hi2).cells,(x.workers[(Int.toNat b)]'hi2).sums,(x.workers[(Int.toNat b)]'hi2).black,(x.workers[(Int.toNat b)]'hi2).caps,(x.workers[(Int.toNat b)]'hi2).dones⟩ : Worker))[(Int.toNat b)] :: (List.set x.workers (Int.toNat b) (⟨((x.workers[(Int.toNat b)]'hi2).queue) ++ [((Q3 (x.links[(Int.toNat (Qz x.graph a b))]'hi1)).2.1)],(x.workers[(Int.toNat b)]'hi2).staged,(x.workers[(Int.toNat b)]'hi2).inputs,(x.workers[(Int.toNat b)]'hi2).cells,(x.workers[(Int.toNat b)]'hi2).sums,(x.workers[(Int.toNat b)]'hi2).black,(x.workers[(Int.toNat b)]'hi2).caps,(x.workers[(Int.toNat b)]'hi2).dones⟩ : Worker)).drop ((Int.toNat b) + 1)):=⟨by rw [← Vc hi3];exact hw2,Kq.refl _ _⟩
   have hfl3:=OwF.in2 hw2
   obtain ⟨_,ho6,hrow3⟩:=OwK.focus hK3
   obtain ⟨o11,o12,o13,o14,o15,o16,o17,o18,rfl,sp5,hw16,hw17,hw18,hw19,hw20,hw21,hw22,hw23⟩:=Worker.opO ho6
   clear hK3 hw2
   have hl4 : ((List.set x.workers (Int.toNat b) (⟨((x.workers[(Int.toNat b)]'hi2).queue) ++ [((Q3 (x.links[(Int.toNat (Qz x.graph a b))]'hi1)).2.1)],(x.workers[(Int.toNat b)]'hi2).staged,(x.workers[(Int.toNat b)]'hi2).inputs,(x.workers[(Int.toNat b)]'hi2).cells,(x.workers[(Int.toNat b)]'hi2).sums,(x.workers[(Int.toNat b)]'hi2).black,(x.workers[(Int.toNat b)]'hi2).caps,(x.workers[(Int.toNat b)]'hi2).dones⟩ : Worker)).take (Int.toNat b)).length = (Int.toNat b):=by simp;omega
   have hn4 : (Int.toNat b) + 1 + ((List.set x.workers (Int.toNat b) (⟨((x.workers[(Int.toNat b)]'hi2).queue) ++ [((Q3 (x.links[(Int.toNat (Qz x.graph a b))]'hi1)).2.1)],(x.workers[(Int.toNat b)]'hi2).staged,(x.workers[(Int.toNat b)]'hi2).inputs,(x.workers[(Int.toNat b)]'hi2).cells,(x.workers[(Int.toNat b)]'hi2).sums,(x.workers[(Int.toNat b)]'hi2).black,(x.workers[(Int.toNat b)]'hi2).caps,(x.workers[(Int.toNat b)]'hi2).dones⟩ : Worker)).drop ((Int.toNat b) + 1)).length = (List.set x.workers (Int.toNat b) (⟨((x.workers[(Int.toNat b)]'hi2).queue) ++ [((Q3 (x.links[(Int.toNat (Qz x.graph a b))]'hi1)).2.1)],(x.workers[(Int.toNat b)]'hi2).staged,(x.workers[(Int.toNat b)]'hi2).inputs,(x.workers[(Int.toNat b)]'hi2).cells,(x.workers[(Int.toNat b)]'hi2).sums,(x.workers[(Int.toNat b)]'hi2).black,(x.workers[(Int.toNat b)]'hi2).caps,(x.workers[(Int.toNat b)]'hi2).dones⟩ : Worker)).length:=by simp;omega
   replace hrow3 : RowR f5 w17 lo w15.heap.size o2x ((List.set x.workers (Int.toNat b) (⟨((x.workers[(Int.toNat b)]'hi2).queue) ++ [((Q3 (x.links[(Int.toNat (Qz x.graph a b))]'hi1)).2.1)],(x.workers[(Int.toNat b)]'hi2).staged,(x.workers[(Int.toNat b)]'hi2).inputs,(x.workers[(Int.toNat b)]'hi2).cells,(x.workers[(Int.toNat b)]'hi2).sums,(x.workers[(Int.toNat b)]'hi2).black,(x.workers[(Int.toNat b)]'hi2).caps,(x.workers[(Int.toNat b)]'hi2).dones⟩ : Worker)).take (Int.toNat b)) [o11,o12,o13,o14,o15,o16,o17,o18] ((List.set x.workers (Int.toNat b) (⟨((x.workers[(Int.toNat b)]'hi2).queue) ++ [((Q3 (x.links[(Int.toNat (Qz x.graph a b))]'hi1)).2.1)],(x.workers[(Int.toNat b)]'hi2).staged,(x.workers[(Int.toNat b)]'hi2).inputs,(x.workers[(Int.toNat b)]'hi2).cells,(x.workers[(Int.toNat b)]'hi2).sums,(x.workers[(Int.toNat b)]'hi2).black,(x.workers[(Int.toNat b)]'hi2).caps,(x.workers[(Int.toNat b)]'hi2).dones⟩ : Worker)).drop ((Int.toNat b) + 1)):=hrow3
   refine Qa (Xs (i:=(Int.toNat b)) Uk Z Z (RowK.same1 hrow3 hl4 hn4) (by omega) (by simp;omega)) Z (Qa (Qs Gb Z) Z (Qa (Qk V6 Z ((RowK.at hrow3 hl4).one 5 Z)) Z (Qa (Qb Uu Z) Z (Qa (Qs Vm Z) Z (Qa (Qk Yp Z (h3.one 1 Z)) Z ?_)))))
   have hi4 : (Int.toNat ((((Q3 (x.links[(Int.toNat (Qz x.graph a b))]'hi1)).2.1).stamp).epoch)) < (((List.set x.workers (Int.toNat b) (⟨((x.workers[(Int.toNat b)]'hi2).queue) ++ [((Q3 (x.links[(Int.toNat (Qz x.graph a b))]'hi1)).2.1)],(x.workers[(Int.toNat b)]'hi2).staged,(x.workers[(Int.toNat b)]'hi2).inputs,(x.workers[(Int.toNat b)]'hi2).cells,(x.workers[(Int.toNat b)]'hi2).sums,(x.workers[(Int.toNat b)]'hi2).black,(x.workers[(Int.toNat b)]'hi2).caps,(x.workers[(Int.toNat b)]'hi2).dones⟩ : Worker))[(Int.toNat b)]'hi3).black).length:=(by first | assumption | omega | (simp only [List.length_set];first | assumption | omega) | (simp only [List.getElem_set_self,List.length_set];first | assumption | omega))
   refine Qa (Xs (i:=(Int.toNat ((((Q3 (x.links[(Int.toNat (Qz x.graph a b))]'hi1)).2.1).stamp).epoch))) Cn Z Z (Own.rd (by decide) hw21) (by omega) hi4) Z (Tk (α:=Bool) (i:=(Int.toNat ((((Q3 (x.links[(Int.toNat (Qz x.graph a b))]'hi1)).2.1).stamp).epoch))) (f:=0) true Hb Z Z Z Z hw21 hi4 (by decide) Z (fun w18 m6 hw21'=>?_))
   have hq:=Own.blk hw21
   replace hw21:=hw21'
   have kq4:=Mod.kq (l:=f5) m6 (RowK.fpr_mem hrow3 (by simp))
   replace E:=E.mod m6 (fun g hg=>by have:=hq g hg;omega);replace hw1:=OwF.kp hw1 (Kq.kp kq4 sp1.1.1);replace hw4:=Own.kp hw4 (Kq.kp kq4 (sp1.2.1.2.1).symm);replace hw5:=Own.kp hw5 (Kq.kp kq4 (sp1.2.1.2.2.1).symm);replace h1:=Blk.kp h1 (Kq.kp kq4 (sp1.2.1.2.2.2.1).symm);replace h2:=Blk.kp h2 (Kq.kp kq4 (fun x hx hc=>by simp at hx;subst hx;exact nh3 hc));replace h3:=Blk.kp h3 (Kq.kp kq4 (fun x hx hc=>by simp at hx;subst hx;exact nh4 hc));replace hw3:=OwF.kp hw3 (Kq.kp kq4 (sp1.2.1.1).symm);replace hw16:=Own.modS hw16 m6 (sp5.1.2.2.2.2.1).symm;replace hw17:=Own.modS hw17 m6 (sp5.2.1.2.2.2.1).symm;replace hw18:=Own.modS hw18 m6 (sp5.2.2.1.2.2.1).symm;replace hw19:=Own.modS hw19 m6 (sp5.2.2.2.1.2.1).symm;replace hw20:=Own.modS hw20 m6 (sp5.2.2.2.2.1.1).symm;replace hw22:=Own.modS hw22 m6 sp5.2.2.2.2.2.1.1;replace hw23:=Own.modS hw23 m6 sp5.2.2.2.2.2.1.2.1;replace hrow3:=RowR.modS hrow3 m6 (by simp)
   have z16:=m6.size
   clear hq
   refine Qc (Qe (Qg [true,true,true,true,true,false] Z Z (Qa (Qd Z) Z (Qa (Qd Z) Z (Qa (Qb Uu Z) Z (Qa (Qs Vm Z) Z (Qa (Qk Yp Z (h3.one 1 Z)) Z ?_)))))))
   have hw2:=(RowK.close hrow3 (Worker.mkO (⟨((List.set x.workers (Int.toNat b) (⟨((x.workers[(Int.toNat b)]'hi2).queue) ++ [((Q3 (x.links[(Int.toNat (Qz x.graph a b))]'hi1)).2.1)],(x.workers[(Int.toNat b)]'hi2).staged,(x.workers[(Int.toNat b)]'hi2).inputs,(x.workers[(Int.toNat b)]'hi2).cells,(x.workers[(Int.toNat b)]'hi2).sums,(x.workers[(Int.toNat b)]'hi2).black,(x.workers[(Int.toNat b)]'hi2).caps,(x.workers[(Int.toNat b)]'hi2).dones⟩ : Worker))[(Int.toNat b)]'hi3).queue,((List.set x.workers (Int.toNat b) (⟨((x.workers[(Int.toNat b)]'hi2).queue) ++ [((Q3 (x.links[(Int.toNat (Qz x.graph a b))]'hi1)).2.1)],(x.workers[(Int.toNat b)]'hi2).staged,(x.workers[(Int.toNat b)]'hi2).inputs,(x.workers[(Int.toNat b)]'hi2).cells,(x.workers[(Int.toNat b)]'hi2).sums,(x.workers[(Int.toNat b)]'hi2).black,(x.workers[(Int.toNat b)]'hi2).caps,(x.workers[(Int.toNat b)]'hi2).dones⟩ : Worker))[(Int.toNat b)]'hi3).staged,((List.set x.workers (Int.toNat b) (⟨((x.workers[(Int.toNat b)]'hi2).queue) ++ [((Q3 (x.links[(Int.toNat (Qz x.graph a b))]'hi1)).2.1)],(x.workers[(Int.toNat b)]'hi2).staged,(x.workers[(Int.toNat b)]'hi2).inputs,(x.workers[(Int.toNat b)]'hi2).cells,(x.workers[(Int.toNat b)]'hi2).sums,(x.workers[(Int.toNat b)]'hi2).black,(x.workers[(Int.toNat b)]'hi2).caps,(x.workers[(Int.toNat b)]'hi2).dones⟩ : Worker))[(Int.toNat b)]'hi3).inputs,((List.set x.workers (Int.toNat b) (⟨((x.workers[(Int.toNat b)]'hi2).queue) ++ [((Q3 (x.links[(Int.toNat (Qz x.graph a b))]'hi1)).2.1)],(x.workers[(Int.toNat b)]'hi2).staged,(x.workers[(Int.toNat b)]'hi2).inputs,(x.workers[(Int.toNat b)]'hi2).cells,(x.workers[(Int.toNat b)]'hi2).sums,(x.workers[(Int.toNat b)]'hi2).black,(x.workers[(Int.toNat b)]'hi2).caps,(x.workers[(Int.toNat b)]'hi2).dones⟩ : Worker))[(Int.toNat b)]'hi3).cells,((List.set x.workers (Int.toNat b) (⟨((x.workers[(Int.toNat b)]'hi2).queue) ++ [((Q3 (x.links[(Int.toNat (Qz x.graph a b))]'hi1)).2.1)],(x.workers[(Int.toNat b)]'hi2).staged,(x.workers[(Int.toNat b)]'hi2).inputs,(x.workers[(Int.toNat b)]'hi2).cells,(x.workers[(Int.toNat b)]'hi2).sums,(x.workers[(Int.toNat b)]'hi2).black,(x.workers[(Int.toNat b)]'hi2).caps,(x.workers[(Int.toNat b)]'hi2).dones⟩ : Worker))[(Int.toNat b)]'hi3).sums,List.set (((List.set x.workers (Int.toNat b) (⟨((x.workers[(Int.toNat b)]'hi2).queue) ++ [((Q3 (x.links[(Int.toNat (Qz x.graph a b))]'hi1)).2.1)],(x.workers[(Int.toNat b)]'hi2).staged,(x.workers[(Int.toNat b)]'hi2).inputs,(x.workers[(Int.toNat b)]'hi2).cells,(x.workers[(Int.toNat b)]'hi2).sums,(x.workers[(Int.toNat b)]'hi2).black,(x.workers[(Int.toNat b)]'hi2).caps,(x.workers[(Int.toNat b)]'hi2).dones⟩ : Worker))[(Int.toNat b)]'hi3).black) (Int.toNat ((((Q3 (x.links[(Int.toNat (Qz x.graph a b))]'hi1)).2.1).stamp).epoch)) true,((List.set x.workers (Int.toNat b) (⟨((x.workers[(Int.toNat b)]'hi2).queue) ++ [((Q3 (x.links[(Int.toNat (Qz x.graph a b))]'hi1)).2.1)],(x.workers[(Int.toNat b)]'hi2).staged,(x.workers[(Int.toNat b)]'hi2).inputs,(x.workers[(Int.toNat b)]'hi2).cells,(x.workers[(Int.toNat b)]'hi2).sums,(x.workers[(Int.toNat b)]'hi2).black,(x.workers[(Int.toNat b)]'hi2).caps,(x.workers[(Int.toNat b)]'hi2).dones⟩ : Worker))[(Int.toNat b)]'hi3).caps,((List.set x.workers (Int.toNat b) (⟨((x.workers[(Int.toNat b)]'hi2).queue) ++ [((Q3 (x.links[(Int.toNat (Qz x.graph a b))]'hi1)).2.1)],(x.workers[(Int.toNat b)]'hi2).staged,(x.workers[(Int.toNat b)]'hi2).inputs,(x.workers[(Int.toNat b)]'hi2).cells,(x.workers[(Int.toNat b)]'hi2).sums,(x.workers[(Int.toNat b)]'hi2).black,(x.workers[(Int.toNat b)]'hi2).caps,(x.workers[(Int.toNat b)]'hi2).dones⟩ : Worker))[(Int.toNat b)]'hi3).dones⟩ : Worker) sp5 (Own.widen hw16 (by omega) (by omega)) (Own.widen hw17 (by omega) (by omega)) (Own.widen hw18 (by omega) (by omega)) (Own.widen hw19 (by omega) (by omega)) (Own.widen hw20 (by omega) (by omega)) (Own.widen hw21 (by omega) (by omega)) (Own.widen hw22 (by omega) (by omega)) (Own.widen hw23 (by omega) (by omega)))).1
   clear hrow3
   rw [← Gq hi3] at hw2
   clear hfl3
   have hr1 : OwR w18 lo w18.heap.size bx o1x o2x o3x o4x o5x (⟨⟨x.graph.nodes,(x).graph.workers,(x).graph.cap⟩,List.set (List.set x.workers (Int.toNat b) (⟨((x.workers[(Int.toNat b)]'hi2).queue) ++ [((Q3 (x.links[(Int.toNat (Qz x.graph a b))]'hi1)).2.1)],(x.workers[(Int.toNat b)]'hi2).staged,(x.workers[(Int.toNat b)]'hi2).inputs,(x.workers[(Int.toNat b)]'hi2).cells,(x.workers[(Int.toNat b)]'hi2).sums,(x.workers[(Int.toNat b)]'hi2).black,(x.workers[(Int.toNat b)]'hi2).caps,(x.workers[(Int.toNat b)]'hi2).dones⟩ : Worker)) (Int.toNat b) (⟨((List.set x.workers (Int.toNat b) (⟨((x.workers[(Int.toNat b)]'hi2).queue) ++ [((Q3 (x.links[(Int.toNat (Qz x.graph a b))]'hi1)).2.1)],(x.workers[(Int.toNat b)]'hi2).staged,(x.workers[(Int.toNat b)]'hi2).inputs,(x.workers[(Int.toNat b)]'hi2).cells,(x.workers[(Int.toNat b)]'hi2).sums,(x.workers[(Int.toNat b)]'hi2).black,(x.workers[(Int.toNat b)]'hi2).caps,(x.workers[(Int.toNat b)]'hi2).dones⟩ : Worker))[(Int.toNat b)]'hi3).queue,((List.set x.workers (Int.toNat b) (⟨((x.workers[(Int.toNat b)]'hi2).queue) ++ [((Q3 (x.links[(Int.toNat (Qz x.graph a b))]'hi1)).2.1)],(x.workers[(Int.toNat b)]'hi2).staged,(x.workers[(Int.toNat b)]'hi2).inputs,(x.workers[(Int.toNat b)]'hi2).cells,(x.workers[(Int.toNat b)]'hi2).sums,(x.workers[(Int.toNat b)]'hi2).black,(x.workers[(Int.toNat b)]'hi2).caps,(x.workers[(Int.toNat b)]'hi2).dones⟩ : Worker))[(Int.toNat b)]'hi3).staged,((List.set x.workers (Int.toNat b) (⟨((x.workers[(Int.toNat b)]'hi2).queue) ++ [((Q3 (x.links[(Int.toNat (Qz x.graph a b))]'hi1)).2.1)],(x.workers[(Int.toNat b)]'hi2).staged,(x.workers[(Int.toNat b)]'hi2).inputs,(x.workers[(Int.toNat b)]'hi2).cells,(x.workers[(Int.toNat b)]'hi2).sums,(x.workers[(Int.toNat b)]'hi2).black,(x.workers[(Int.toNat b)]'hi2).caps,(x.workers[(Int.toNat b)]'hi2).dones⟩ : Worker))[(Int.toNat b)]'hi3).inputs,((List.set x.workers (Int.toNat b) (⟨((x.workers[(Int.toNat b)]'hi2).queue) ++ [((Q3 (x.links[(Int.toNat (Qz x.graph a b))]'hi1)).2.1)],(x.workers[(Int.toNat b)]'hi2).staged,(x.workers[(Int.toNat b)]'hi2).inputs,(x.workers[(Int.toNat b)]'hi2).cells,(x.workers[(Int.toNat b)]'hi2).sums,(x.workers[(Int.toNat b)]'hi2).black,(x.workers[(Int.toNat b)]'hi2).caps,(x.workers[(Int.toNat b)]'hi2).dones⟩ : Worker))[(Int.toNat b)]'hi3).cells,((List.set x.workers (Int.toNat b) (⟨((x.workers[(Int.toNat b)]'hi2).queue) ++ [((Q3 (x.links[(Int.toNat (Qz x.graph a b))]'hi1)).2.1)],(x.workers[(Int.toNat b)]'hi2).staged,(x.workers[(Int.toNat b)]'hi2).inputs,(x.workers[(Int.toNat b)]'hi2).cells,(x.workers[(Int.toNat b)]'hi2).sums,(x.workers[(Int.toNat b)]'hi2).black,(x.workers[(Int.toNat b)]'hi2).caps,(x.workers[(Int.toNat b)]'hi2).dones⟩ : Worker))[(Int.toNat b)]'hi3).sums,List.set (((List.set x.workers (Int.toNat b) (⟨((x.workers[(Int.toNat b)]'hi2).queue) ++ [((Q3 (x.links[(Int.toNat (Qz x.graph a b))]'hi1)).2.1)],(x.workers[(Int.toNat b)]'hi2).staged,(x.workers[(Int.toNat b)]'hi2).inputs,(x.workers[(Int.toNat b)]'hi2).cells,(x.workers[(Int.toNat b)]'hi2).sums,(x.workers[(Int.toNat b)]'hi2).black,(x.workers[(Int.toNat b)]'hi2).caps,(x.workers[(Int.toNat b)]'hi2).dones⟩ : Worker))[(Int.toNat b)]'hi3).black) (Int.toNat ((((Q3 (x.links[(Int.toNat (Qz x.graph a b))]'hi1)).2.1).stamp).epoch)) true,((List.set x.workers (Int.toNat b) (⟨((x.workers[(Int.toNat b)]'hi2).queue) ++ [((Q3 (x.links[(Int.toNat (Qz x.graph a b))]'hi1)).2.1)],(x.workers[(Int.toNat b)]'hi2).staged,(x.workers[(Int.toNat b)]'hi2).inputs,(x.workers[(Int.toNat b)]'hi2).cells,(x.workers[(Int.toNat b)]'hi2).sums,(x.workers[(Int.toNat b)]'hi2).black,(x.workers[(Int.toNat b)]'hi2).caps,(x.workers[(Int.toNat b)]'hi2).dones⟩ : Worker))[(Int.toNat b)]'hi3).caps,((List.set x.workers (Int.toNat b) (⟨((x.workers[(Int.toNat b)]'hi2).queue) ++ [((Q3 (x.links[(Int.toNat (Qz x.graph a b))]'hi1)).2.1)],(x.workers[(Int.toNat b)]'hi2).staged,(x.workers[(Int.toNat b)]'hi2).inputs,(x.workers[(Int.toNat b)]'hi2).cells,(x.workers[(Int.toNat b)]'hi2).sums,(x.workers[(Int.toNat b)]'hi2).black,(x.workers[(Int.toNat b)]'hi2).caps,(x.workers[(Int.toNat b)]'hi2).dones⟩ : Worker))[(Int.toNat b)]'hi3).dones⟩ : Worker),List.set x.links (Int.toNat (Qz x.graph a b)) ((Q3 (x.links[(Int.toNat (Qz x.graph a b))]'hi1)).1),x.tokens,x.news⟩ : Cluster) okx:=⟨f1,f5,f4,h1,(by omega),(OwF.widen hw1 (Nat.le_refl _) (by omega)),(OwF.widen hw2 (Nat.le_refl _) (by omega)),(OwF.widen hw3 (Nat.le_refl _) (by omega)),(Own.widen hw4 (by omega) (by omega)),(Own.widen hw5 (by omega) (by omega)),sp1⟩
   refine Kh Tryz.call60 Z Z (s_l15Sum bx o1x o2x o3x o4x o5x lo (⟨⟨x.graph.nodes,(x).graph.workers,(x).graph.cap⟩,List.set (List.set x.workers (Int.toNat b) (⟨((x.workers[(Int.toNat b)]'hi2).queue) ++ [((Q3 (x.links[(Int.toNat (Qz x.graph a b))]'hi1)).2.1)],(x.workers[(Int.toNat b)]'hi2).staged,(x.workers[(Int.toNat b)]'hi2).inputs,(x.workers[(Int.toNat b)]'hi2).cells,(x.workers[(Int.toNat b)]'hi2).sums,(x.workers[(Int.toNat b)]'hi2).black,(x.workers[(Int.toNat b)]'hi2).caps,(x.workers[(Int.toNat b)]'hi2).dones⟩ : Worker)) (Int.toNat b) (⟨((List.set x.workers (Int.toNat b) (⟨((x.workers[(Int.toNat b)]'hi2).queue) ++ [((Q3 (x.links[(Int.toNat (Qz x.graph a b))]'hi1)).2.1)],(x.workers[(Int.toNat b)]'hi2).staged,(x.workers[(Int.toNat b)]'hi2).inputs,(x.workers[(Int.toNat b)]'hi2).cells,(x.workers[(Int.toNat b)]'hi2).sums,(x.workers[(Int.toNat b)]'hi2).black,(x.workers[(Int.toNat b)]'hi2).caps,(x.workers[(Int.toNat b)]'hi2).dones⟩ : Worker))[(Int.toNat b)]'hi3).queue,((List.set x.workers (Int.toNat b) (⟨((x.workers[(Int.toNat b)]'hi2).queue) ++ [((Q3 (x.links[(Int.toNat (Qz x.graph a b))]'hi1)).2.1)],(x.workers[(Int.toNat b)]'hi2).staged,(x.workers[(Int.toNat b)]'hi2).inputs,(x.workers[(Int.toNat b)]'hi2).cells,(x.workers[(Int.toNat b)]'hi2).sums,(x.workers[(Int.toNat b)]'hi2).black,(x.workers[(Int.toNat b)]'hi2).caps,(x.workers[(Int.toNat b)]'hi2).dones⟩ : Worker))[(Int.toNat b)]'hi3).staged,((List.set x.workers (Int.toNat b) (⟨((x.workers[(Int.toNat b)]'hi2).queue) ++ [((Q3 (x.links[(Int.toNat (Qz x.graph a b))]'hi1)).2.1)],(x.workers[(Int.toNat b)]'hi2).staged,(x.workers[(Int.toNat b)]'hi2).inputs,(x.workers[(Int.toNat b)]'hi2).cells,(x.workers[(Int.toNat b)]'hi2).sums,(x.workers[(Int.toNat b)]'hi2).black,(x.workers[(Int.toNat b)]'hi2).caps,(x.workers[(Int.toNat b)]'hi2).dones⟩ : Worker))[(Int.toNat b)]'hi3).inputs,((List.set x.workers (Int.toNat b) (⟨((x.workers[(Int.toNat b)]'hi2).queue) ++ [((Q3 (x.links[(Int.toNat (Qz x.graph a b))]'hi1)).2.1)],(x.workers[(Int.toNat b)]'hi2).staged,(x.workers[(Int.toNat b)]'hi2).inputs,(x.workers[(Int.toNat b)]'hi2).cells,(x.workers[(Int.toNat b)]'hi2).sums,(x.workers[(Int.toNat b)]'hi2).black,(x.workers[(Int.toNat b)]'hi2).caps,(x.workers[(Int.toNat b)]'hi2).dones⟩ : Worker))[(Int.toNat b)]'hi3).cells,((List.set x.workers (Int.toNat b) (⟨((x.workers[(Int.toNat b)]'hi2).queue) ++ [((Q3 (x.links[(Int.toNat (Qz x.graph a b))]'hi1)).2.1)],(x.workers[(Int.toNat b)]'hi2).staged,(x.workers[(Int.toNat b)]'hi2).inputs,(x.workers[(Int.toNat b)]'hi2).cells,(x.workers[(Int.toNat b)]'hi2).sums,(x.workers[(Int.toNat b)]'hi2).black,(x.workers[(Int.toNat b)]'hi2).caps,(x.workers[(Int.toNat b)]'hi2).dones⟩ : Worker))[(Int.toNat b)]'hi3).sums,List.set (((List.set x.workers (Int.toNat b) (⟨((x.workers[(Int.toNat b)]'hi2).queue) ++ [((Q3 (x.links[(Int.toNat (Qz x.graph a b))]'hi1)).2.1)],(x.workers[(Int.toNat b)]'hi2).staged,(x.workers[(Int.toNat b)]'hi2).inputs,(x.workers[(Int.toNat b)]'hi2).cells,(x.workers[(Int.toNat b)]'hi2).sums,(x.workers[(Int.toNat b)]'hi2).black,(x.workers[(Int.toNat b)]'hi2).caps,(x.workers[(Int.toNat b)]'hi2).dones⟩ : Worker))[(Int.toNat b)]'hi3).black) (Int.toNat ((((Q3 (x.links[(Int.toNat (Qz x.graph a b))]'hi1)).2.1).stamp).epoch)) true,((List.set x.workers (Int.toNat b) (⟨((x.workers[(Int.toNat b)]'hi2).queue) ++ [((Q3 (x.links[(Int.toNat (Qz x.graph a b))]'hi1)).2.1)],(x.workers[(Int.toNat b)]'hi2).staged,(x.workers[(Int.toNat b)]'hi2).inputs,(x.workers[(Int.toNat b)]'hi2).cells,(x.workers[(Int.toNat b)]'hi2).sums,(x.workers[(Int.toNat b)]'hi2).black,(x.workers[(Int.toNat b)]'hi2).caps,(x.workers[(Int.toNat b)]'hi2).dones⟩ : Worker))[(Int.toNat b)]'hi3).caps,((List.set x.workers (Int.toNat b) (⟨((x.workers[(Int.toNat b)]'hi2).queue) ++ [((Q3 (x.links[(Int.toNat (Qz x.graph a b))]'hi1)).2.1)],(x.workers[(Int.toNat b)]'hi2).staged,(x.workers[(Int.toNat b)]'hi2).inputs,(x.workers[(Int.toNat b)]'hi2).cells,(x.workers[(Int.toNat b)]'hi2).sums,(x.workers[(Int.toNat b)]'hi2).black,(x.workers[(Int.toNat b)]'hi2).caps,(x.workers[(Int.toNat b)]'hi2).dones⟩ : Worker))[(Int.toNat b)]'hi3).dones⟩ : Worker),List.set x.links (Int.toNat (Qz x.graph a b)) ((Q3 (x.links[(Int.toNat (Qz x.graph a b))]'hi1)).1),x.tokens,x.news⟩ : Cluster) okx b ((((Q3 (x.links[(Int.toNat (Qz x.graph a b))]'hi1)).2.1).stamp).epoch) (-1) _ hr1 ⟨htb0,(by simp only [List.length_set];exact htb1),(by simp only [List.length_set];exact htb)⟩ ⟨hte0,(by simp only [Hs];rw [Xm (by simp only [List.length_set];exact htb)];simp only [List.getElem_set_self];exact hte1)⟩) Z (fun _ w19 e9 hv1=>?_)
   obtain ⟨rfl,ho7⟩:=hv1
   replace E:=E.grow e9 (by omega);have z17:=e9.size
   obtain ⟨f6,f7,f8,h5,hl5,hw24,hw25,hw26,hw27,hw28,sp6⟩:=ho7
   have y_q2:=h5.lt
   refine Qc (Qe (Qg [true] Z Z (Qa (Qf Z) Z (Qc (Qt (Ql Z Z E ?_))))))
   rw [take2_yes (X1:=(⟨⟨x.graph.nodes,(x).graph.workers,(x).graph.cap⟩,List.set (List.set x.workers (Int.toNat b) (⟨((x.workers[(Int.toNat b)]'hi2).queue) ++ [((Q3 (x.links[(Int.toNat (Qz x.graph a b))]'hi1)).2.1)],(x.workers[(Int.toNat b)]'hi2).staged,(x.workers[(Int.toNat b)]'hi2).inputs,(x.workers[(Int.toNat b)]'hi2).cells,(x.workers[(Int.toNat b)]'hi2).sums,(x.workers[(Int.toNat b)]'hi2).black,(x.workers[(Int.toNat b)]'hi2).caps,(x.workers[(Int.toNat b)]'hi2).dones⟩ : Worker)) (Int.toNat b) (⟨((List.set x.workers (Int.toNat b) (⟨((x.workers[(Int.toNat b)]'hi2).queue) ++ [((Q3 (x.links[(Int.toNat (Qz x.graph a b))]'hi1)).2.1)],(x.workers[(Int.toNat b)]'hi2).staged,(x.workers[(Int.toNat b)]'hi2).inputs,(x.workers[(Int.toNat b)]'hi2).cells,(x.workers[(Int.toNat b)]'hi2).sums,(x.workers[(Int.toNat b)]'hi2).black,(x.workers[(Int.toNat b)]'hi2).caps,(x.workers[(Int.toNat b)]'hi2).dones⟩ : Worker))[(Int.toNat b)]'hi3).queue,((List.set x.workers (Int.toNat b) (⟨((x.workers[(Int.toNat b)]'hi2).queue) ++ [((Q3 (x.links[(Int.toNat (Qz x.graph a b))]'hi1)).2.1)],(x.workers[(Int.toNat b)]'hi2).staged,(x.workers[(Int.toNat b)]'hi2).inputs,(x.workers[(Int.toNat b)]'hi2).cells,(x.workers[(Int.toNat b)]'hi2).sums,(x.workers[(Int.toNat b)]'hi2).black,(x.workers[(Int.toNat b)]'hi2).caps,(x.workers[(Int.toNat b)]'hi2).dones⟩ : Worker))[(Int.toNat b)]'hi3).staged,((List.set x.workers (Int.toNat b) (⟨((x.workers[(Int.toNat b)]'hi2).queue) ++ [((Q3 (x.links[(Int.toNat (Qz x.graph a b))]'hi1)).2.1)],(x.workers[(Int.toNat b)]'hi2).staged,(x.workers[(Int.toNat b)]'hi2).inputs,(x.workers[(Int.toNat b)]'hi2).cells,(x.workers[(Int.toNat b)]'hi2).sums,(x.workers[(Int.toNat b)]'hi2).black,(x.workers[(Int.toNat b)]'hi2).caps,(x.workers[(Int.toNat b)]'hi2).dones⟩ : Worker))[(Int.toNat b)]'hi3).inputs,((List.set x.workers (Int.toNat b) (⟨((x.workers[(Int.toNat b)]'hi2).queue) ++ [((Q3 (x.links[(Int.toNat (Qz x.graph a b))]'hi1)).2.1)],(x.workers[(Int.toNat b)]'hi2).staged,(x.workers[(Int.toNat b)]'hi2).inputs,(x.workers[(Int.toNat b)]'hi2).cells,(x.workers[(Int.toNat b)]'hi2).sums,(x.workers[(Int.toNat b)]'hi2).black,(x.workers[(Int.toNat b)]'hi2).caps,(x.workers[(Int.toNat b)]'hi2).dones⟩ : Worker))[(Int.toNat b)]'hi3).cells,((List.set x.workers (Int.toNat b) (⟨((x.workers[(Int.toNat b)]'hi2).queue) ++ [((Q3 (x.links[(Int.toNat (Qz x.graph a b))]'hi1)).2.1)],(x.workers[(Int.toNat b)]'hi2).staged,(x.workers[(Int.toNat b)]'hi2).inputs,(x.workers[(Int.toNat b)]'hi2).cells,(x.workers[(Int.toNat b)]'hi2).sums,(x.workers[(Int.toNat b)]'hi2).black,(x.workers[(Int.toNat b)]'hi2).caps,(x.workers[(Int.toNat b)]'hi2).dones⟩ : Worker))[(Int.toNat b)]'hi3).sums,List.set (((List.set x.workers (Int.toNat b) (⟨((x.workers[(Int.toNat b)]'hi2).queue) ++ [((Q3 (x.links[(Int.toNat (Qz x.graph a b))]'hi1)).2.1)],(x.workers[(Int.toNat b)]'hi2).staged,(x.workers[(Int.toNat b)]'hi2).inputs,(x.workers[(Int.toNat b)]'hi2).cells,(x.workers[(Int.toNat b)]'hi2).sums,(x.workers[(Int.toNat b)]'hi2).black,(x.workers[(Int.toNat b)]'hi2).caps,(x.workers[(Int.toNat b)]'hi2).dones⟩ : Worker))[(Int.toNat b)]'hi3).black) (Int.toNat ((((Q3 (x.links[(Int.toNat (Qz x.graph a b))]'hi1)).2.1).stamp).epoch)) true,((List.set x.workers (Int.toNat b) (⟨((x.workers[(Int.toNat b)]'hi2).queue) ++ [((Q3 (x.links[(Int.toNat (Qz x.graph a b))]'hi1)).2.1)],(x.workers[(Int.toNat b)]'hi2).staged,(x.workers[(Int.toNat b)]'hi2).inputs,(x.workers[(Int.toNat b)]'hi2).cells,(x.workers[(Int.toNat b)]'hi2).sums,(x.workers[(Int.toNat b)]'hi2).black,(x.workers[(Int.toNat b)]'hi2).caps,(x.workers[(Int.toNat b)]'hi2).dones⟩ : Worker))[(Int.toNat b)]'hi3).caps,((List.set x.workers (Int.toNat b) (⟨((x.workers[(Int.toNat b)]'hi2).queue) ++ [((Q3 (x.links[(Int.toNat (Qz x.graph a b))]'hi1)).2.1)],(x.workers[(Int.toNat b)]'hi2).staged,(x.workers[(Int.toNat b)]'hi2).inputs,(x.workers[(Int.toNat b)]'hi2).cells,(x.workers[(Int.toNat b)]'hi2).sums,(x.workers[(Int.toNat b)]'hi2).black,(x.workers[(Int.toNat b)]'hi2).caps,(x.workers[(Int.toNat b)]'hi2).dones⟩ : Worker))[(Int.toNat b)]'hi3).dones⟩ : Worker),List.set x.links (Int.toNat (Qz x.graph a b)) ((Q3 (x.links[(Int.toNat (Qz x.graph a b))]'hi1)).1),x.tokens,x.news⟩ : Cluster)) htb hlr.2 hc1 (by simpa using hc2) (by simp only [Hy,Tw,Hs,A4];rw [Xm hlr.2,Xm htb];simp only [List.getElem_set_self,List.set_set,Aq])]
   exact ⟨Z,⟨f6,f7,f8,h5,(by omega),(OwF.widen hw24 (Nat.le_refl _) (by omega)),(OwF.widen hw25 (Nat.le_refl _) (by omega)),(OwF.widen hw26 (Nat.le_refl _) (by omega)),(Own.widen hw27 (by omega) (by omega)),(Own.widen hw28 (by omega) (by omega)),sp6⟩⟩

set_option maxHeartbeats 4000000 in
set_option maxRecDepth 20000 in
theorem c_PickTake (cx : List Value) (x : Cluster) (a : Int) (b : Int) (w : World) (hx : Dat.R w 0 w.heap.size cx x) (hb : Ya x ≤ 1048576) (hok : ∀ l ∈ x.links,rg l.got) : Ct Tryz.prog 8 [.agg cx.toArray,.int .i64 a,.int .i64 b] w (fun v w'=>∃ q00 q01 q02 q03 q04,v = .tuple [.agg [q00,.int .i64 ((((Qo x a b).1).graph).workers),.int .i64 ((((Qo x a b).1).graph).cap),q01,q02,q03,q04].toArray,.bool ((Qo x a b).2)].toArray ∧ OwC w' w.heap.size w'.heap.size q00 q01 q02 q03 q04 ((Qo x a b).1)):=by
 refine Yi Tryz.func8 Z Tryz.ntmps8 Z ?_
 obtain ⟨o1,o2,o3,o4,o5,rfl,hd1,hd2,hd3,hd4,hd5⟩:=Cluster.op hx
 refine Q7 [(0,.agg [o1,.int .i64 x.graph.workers,.int .i64 x.graph.cap,o2,o3,o4,o5].toArray),(1,.int .i64 a),(2,.int .i64 b)] ⟨Z,Z,Z,trivial⟩ ?_
 have E : Ext w w:=Ext.refl w
 refine Qe (Qg [false,false,true] Z Z (Yz Z Z (fun b1 w1 e1 s1 h1=>?_)))
 have g_b1 : w.heap.size ≤ b1:=by have:=E.size;omega
 have y_b1:=h1.lt
 replace E:=E.trans e1
 have z1:=e1.size
 refine Yj Xt Z (fun b2 w2 e2 s2 h2=>?_)
 have g_b2 : w.heap.size ≤ b2:=by have:=E.size;omega
 have y_b2:=h2.lt
 replace E:=E.trans e2;replace h1:=h1.ext e2
 have z2:=e2.size
 refine Qa (Qf Z) Z (Qc (Qe (Qg [true,false,false,false] Z Z (Qa (Qy Xt Z h1.at Z) Z (Qu Tryz.call26 Z (c_copyCluster [o1,.int .i64 x.graph.workers,.int .i64 x.graph.cap,o2,o3,o4,o5] x _ (Cluster.mkR x (RdD.any (hd1.ext E)) (RdD.any (hd2.ext E)) (RdD.any (hd3.ext E)) (RdD.any (hd4.ext E)) (RdD.any (hd5.ext E))) (by first | omega | (simp only [Qi];omega) | (rw [Qi];done) | (simp only [Qi];done))) Z (fun _ w3 e3 ho1=>?_))))))
 obtain ⟨o6,o7,o8,o9,o10,rfl,ho1⟩:=ho1
 have g_ho1 : w.heap.size ≤ w2.heap.size:=E.size
 replace E:=E.trans e3;replace h1:=h1.ext e3;replace h2:=h2.ext e3
 have z3:=e3.size
 refine Yj Xt Z (fun b3 w4 e4 s3 h3=>?_)
 have g_b3 : w.heap.size ≤ b3:=by have:=E.size;omega
 have y_b3:=h3.lt
 replace E:=E.trans e4;replace h1:=h1.ext e4;replace h2:=h2.ext e4;replace ho1:=ho1.ext e4
 have z4:=e4.size
 refine Q6 (cs':=[o6,.int .i64 x.graph.workers,.int .i64 x.graph.cap,o7,o8,o9,o10]) Xt Z Z Z (Qj (RdD.one (OwC.rd1 ho1)) (Qj Z (Qj Z (Qj (RdD.one (OwC.rd2 ho1)) (Qj (RdD.one (OwC.rd3 ho1)) (Qj (RdD.one (OwC.rd4 ho1)) (Qj (RdD.one (OwC.rd5 ho1)) Z))))))) h3 (Nat.le_of_ble_eq_true Z) Z (fun w5 m1 h3'=>?_)
 replace h3:=h3'
 replace E:=E.step m1 (fun g hg=>by cases hg;omega);replace h1:=h1.mod m1 (fun g hg=>by cases hg;omega);replace h2:=h2.mod m1 (fun g hg=>by cases hg;omega);replace ho1:=ho1.mod m1 (fun g hg=>by cases hg;omega)
 have z5:=m1.size
 refine Qc (Qe (Qg [true,true,true,false,true] Z Z (Qa (Qy Xt Z h1.at Z) Z (Qa (Qd Z) Z (Qa (Qd Z) Z (Qu Tryz.call27 Z (c_linkOf [o1,.int .i64 x.graph.workers,.int .i64 x.graph.cap,o2,o3,o4,o5] x a b _ (Cluster.mkR x (RdD.any (hd1.ext E)) (RdD.any (hd2.ext E)) (RdD.any (hd3.ext E)) (RdD.any (hd4.ext E)) (RdD.any (hd5.ext E))) (by first | omega | (simp only [Qi];omega) | (rw [Qi];done) | (simp only [Qi];done))) Z (fun _ w6 e5 hv=>?_)))))))
 subst hv
 replace E:=E.trans e5;replace h1:=h1.ext e5;replace h2:=h2.ext e5;replace ho1:=ho1.ext e5;replace h3:=h3.ext e5
 have z6:=e5.size
 refine Qa (Qf Z) Z (Qc (Qe (Qe (Qg [true,true] Z Z (Qa (Qd Z) Z (Qa (Yf Z Z) Z (Qc (Qr Z (fun hc1=>?_) (fun hc1=>?_)))))))))
 ·refine Qe (Qg [true,false,true] Z Z (Qa (Qy Xt Z h3.at Z) Z (Q6 (cs':=[o6,.int .i64 x.graph.workers,.int .i64 x.graph.cap,o7,o8,o9,o10]) Xt Z Z Z (Qj (RdD.one (OwC.rd1 ho1)) (Qj Z (Qj Z (Qj (RdD.one (OwC.rd2 ho1)) (Qj (RdD.one (OwC.rd3 ho1)) (Qj (RdD.one (OwC.rd4 ho1)) (Qj (RdD.one (OwC.rd5 ho1)) Z))))))) h2 (Nat.le_of_ble_eq_true Z) Z (fun w7 m2 h2'=>?_))))
  replace h2:=h2'
  replace E:=E.step m2 (fun g hg=>by cases hg;omega);replace h1:=h1.mod m2 (fun g hg=>by cases hg;omega);replace ho1:=ho1.mod m2 (fun g hg=>by cases hg;omega);replace h3:=h3.mod m2 (fun g hg=>by cases hg;omega)
  have z7:=m2.size
  refine Qa (Qf Z) Z (Qc (Qt (Gp (l:=[.cell 6 40,.tmp 7]) (vs:=[.agg [o6,.int .i64 x.graph.workers,.int .i64 x.graph.cap,o7,o8,o9,o10].toArray,.bool false]) Z ⟨.cell Z (Yc Xt h2.at Z),.tmp Z,trivial⟩ Z E ?_)))
  rw [Qo,if_pos (of_decide_eq_true hc1)]
  exact ⟨_,_,_,_,_,Z,(OwC.widen ho1 (by have:=E.size;omega) (by omega))⟩
 ·have hlk:=Dd (of_decide_eq_false hc1)
  have hcl:=Ae (cnt:=Y0) hlk.2.2.2.2.2.1
  have hb2:=hb;unfold Ya at hb2
  have hbw:=hlk.2.2.2.2.2.2.1
  have hcw:=Ae (cnt:=Q8) hbw
  have hb0 : 0 ≤ b:=by have:=hlk.2.2.1;omega
  have hi1 : (Int.toNat (Yu x a b)) < x.links.length:=(by first | assumption | omega | (simp only [List.length_set];first | assumption | omega) | (simp only [List.getElem_set_self,List.length_set];first | assumption | omega))
  obtain ⟨_,hr1,ha1⟩:=RdD.get hd3 hi1
  obtain ⟨o11,rfl,hd6⟩:=Link.op hr1
  replace ha1 : At w (Y2 o3) (Y9 o3 + (Int.toNat (Yu x a b)) * 6) [.int .i64 ((x.links[(Int.toNat (Yu x a b))]'hi1).cap),o11,.int .i64 ((x.links[(Int.toNat (Yu x a b))]'hi1).credits),.int .i64 ((x.links[(Int.toNat (Yu x a b))]'hi1).back),.int .i64 ((x.links[(Int.toNat (Yu x a b))]'hi1).sent),.int .i64 ((x.links[(Int.toNat (Yu x a b))]'hi1).got)]:=ha1
  have hi2 : (Int.toNat b) < x.workers.length:=(by first | assumption | omega | (simp only [List.length_set];first | assumption | omega) | (simp only [List.getElem_set_self,List.length_set];first | assumption | omega))
  obtain ⟨_,hr2,ha2⟩:=RdD.get hd2 hi2
  obtain ⟨o12,o13,o14,o15,o16,o17,o18,o19,rfl,hd7,hd8,hd9,hd10,hd11,hd12,hd13,hd14⟩:=Worker.op hr2
  replace ha2 : At w (Y2 o2) (Y9 o2 + (Int.toNat b) * 8) [o12,o13,o14,o15,o16,o17,o18,o19]:=ha2
  refine Qm (Qe (Qg [true,true,true,true,true,false,true,true,true,true,false,false,false,false,true] Z Z (Qa (Qb Ki Z) Z (Qa (Qk V7 Z (h1.one 4 Z)) Z (Qa (Qd Z) Z (Qa (Xs (i:=(Int.toNat (Yu x a b))) Vb Z Z (hd3.ext E).1 (by omega) hi1) Z (Qa (Qy Xv Z (ha1.ext E) Z) Z (Qu Tryz.call28 Z (c_TakeFrom [.int .i64 ((x.links[(Int.toNat (Yu x a b))]'hi1).cap),o11,.int .i64 ((x.links[(Int.toNat (Yu x a b))]'hi1).credits),.int .i64 ((x.links[(Int.toNat (Yu x a b))]'hi1).back),.int .i64 ((x.links[(Int.toNat (Yu x a b))]'hi1).sent),.int .i64 ((x.links[(Int.toNat (Yu x a b))]'hi1).got)] (x.links[(Int.toNat (Yu x a b))]'hi1) _ (Link.mkR (x.links[(Int.toNat (Yu x a b))]'hi1) (RdD.any (hd6.ext E))) (by omega) (hok _ (List.getElem_mem _))) Z (fun _ w8 e6 ho2=>?_)))))))))
  obtain ⟨_,rfl,ho3⟩:=ho2
  have g_ho2 : w.heap.size ≤ w6.heap.size:=E.size
  replace E:=E.trans e6;replace h1:=h1.ext e6;replace h2:=h2.ext e6;replace ho1:=ho1.ext e6;replace h3:=h3.ext e6
  have z8:=e6.size
  obtain ⟨o20,rfl,sp1,hw1⟩:=Link.opO ho3
  refine Qa (Qd Z) Z (Qa (Kx Z Z) Z (Qa (Kx Z Z) Z (Qa (Kx Z Z) Z (Yj Xv Z (fun b4 w9 e7 s4 h4=>?_)))))
  have g_b4 : w.heap.size ≤ b4:=by have:=E.size;omega
  have y_b4:=h4.lt
  replace E:=E.trans e7;replace h1:=h1.ext e7;replace h2:=h2.ext e7;replace ho1:=ho1.ext e7;replace h3:=h3.ext e7;replace hw1:=hw1.ext e7
  have z9:=e7.size
  refine Yj K0 Z (fun b5 w10 e8 s5 h5=>?_)
  have g_b5 : w.heap.size ≤ b5:=by have:=E.size;omega
  have y_b5:=h5.lt
  replace E:=E.trans e8;replace h1:=h1.ext e8;replace h2:=h2.ext e8;replace ho1:=ho1.ext e8;replace h3:=h3.ext e8;replace hw1:=hw1.ext e8;replace h4:=h4.ext e8
  have z10:=e8.size
  refine Q6 (cs':=[.int .i64 (((Q3 (x.links[(Int.toNat (Yu x a b))]'hi1)).1).cap),o20,.int .i64 (((Q3 (x.links[(Int.toNat (Yu x a b))]'hi1)).1).credits),.int .i64 (((Q3 (x.links[(Int.toNat (Yu x a b))]'hi1)).1).back),.int .i64 (((Q3 (x.links[(Int.toNat (Yu x a b))]'hi1)).1).sent),.int .i64 (((Q3 (x.links[(Int.toNat (Yu x a b))]'hi1)).1).got)]) Xv Z Z Z (Qj Z (Qj hw1.one (Qj Z (Qj Z (Qj Z (Qj Z Z)))))) h4 (Nat.le_of_ble_eq_true Z) Z (fun w11 m3 h4'=>?_)
  replace h4:=h4'
  replace E:=E.step m3 (fun g hg=>by cases hg;omega);replace h1:=h1.mod m3 (fun g hg=>by cases hg;omega);replace h2:=h2.mod m3 (fun g hg=>by cases hg;omega);replace ho1:=ho1.mod m3 (fun g hg=>by cases hg;omega);replace h3:=h3.mod m3 (fun g hg=>by cases hg;omega);replace hw1:=hw1.mod m3 (fun g hg=>by cases hg;omega);replace h5:=h5.mod m3 (fun g hg=>by cases hg;omega)
  have z11:=m3.size
  refine Q6 (cs':=[.int .i64 (((Q3 (x.links[(Int.toNat (Yu x a b))]'hi1)).2.1).op),.int .i64 ((((Q3 (x.links[(Int.toNat (Yu x a b))]'hi1)).2.1).stamp).epoch),.int .i64 ((((Q3 (x.links[(Int.toNat (Yu x a b))]'hi1)).2.1).stamp).turn),.int .i64 (((Q3 (x.links[(Int.toNat (Yu x a b))]'hi1)).2.1).key),.int .i64 (((Q3 (x.links[(Int.toNat (Yu x a b))]'hi1)).2.1).val)]) K0 Z Z Z Z h5 (Nat.le_of_ble_eq_true Z) Z (fun w12 m4 h5'=>?_)
  replace h5:=h5'
  replace E:=E.step m4 (fun g hg=>by cases hg;omega);replace h1:=h1.mod m4 (fun g hg=>by cases hg;omega);replace h2:=h2.mod m4 (fun g hg=>by cases hg;omega);replace ho1:=ho1.mod m4 (fun g hg=>by cases hg;omega);replace h3:=h3.mod m4 (fun g hg=>by cases hg;omega);replace hw1:=hw1.mod m4 (fun g hg=>by cases hg;omega);replace h4:=h4.mod m4 (fun g hg=>by cases hg;omega)
  have z12:=m4.size
  refine Qa (Qf Z) Z (Qc (Qe (Qe (Qg [true,true] Z Z (Qa (Qd Z) Z (Qa (Yt Z) Z (Qc (Qr Z (fun hc2=>?_) (fun hc2=>?_)))))))))
  ·refine Qe (Qg [true,false,true] Z Z (Qa (Qy Xt Z h3.at Z) Z (Q6 (cs':=[o6,.int .i64 x.graph.workers,.int .i64 x.graph.cap,o7,o8,o9,o10]) Xt Z Z Z (Qj (RdD.one (OwC.rd1 ho1)) (Qj Z (Qj Z (Qj (RdD.one (OwC.rd2 ho1)) (Qj (RdD.one (OwC.rd3 ho1)) (Qj (RdD.one (OwC.rd4 ho1)) (Qj (RdD.one (OwC.rd5 ho1)) Z))))))) h2 (Nat.le_of_ble_eq_true Z) Z (fun w13 m5 h2'=>?_))))
   replace h2:=h2'
   replace E:=E.step m5 (fun g hg=>by cases hg;omega);replace h1:=h1.mod m5 (fun g hg=>by cases hg;omega);replace ho1:=ho1.mod m5 (fun g hg=>by cases hg;omega);replace h3:=h3.mod m5 (fun g hg=>by cases hg;omega);replace hw1:=hw1.mod m5 (fun g hg=>by cases hg;omega);replace h4:=h4.mod m5 (fun g hg=>by cases hg;omega);replace h5:=h5.mod m5 (fun g hg=>by cases hg;omega)
   have z13:=m5.size
   refine Qa (Qf Z) Z (Qc (Qt (Gp (l:=[.cell 6 40,.tmp 7]) (vs:=[.agg [o6,.int .i64 x.graph.workers,.int .i64 x.graph.cap,o7,o8,o9,o10].toArray,.bool false]) Z ⟨.cell Z (Yc Xt h2.at Z),.tmp Z,trivial⟩ Z E ?_)))
   rw [Qo,if_neg (of_decide_eq_false hc1),← lAt_at hlk.2.2.2.2.2.1,if_neg (by simpa using hc2)]
   exact ⟨_,_,_,_,_,Z,(OwC.widen ho1 (by have:=E.size;omega) (by omega))⟩
  ·refine Qm (Qe (Qg [true,true,true,true,true,false] Z Z (Qa (Qb Ki Z) Z (Qa (Qk V7 Z (h3.one 4 Z)) Z (Qa (Qd Z) Z (Qa (Qy Xv Z h4.at Z) Z ?_))))))
   have hi3 : (Int.toNat (Yu x a b)) < x.links.length:=(by first | assumption | omega | (simp only [List.length_set];first | assumption | omega) | (simp only [List.getElem_set_self,List.length_set];first | assumption | omega))
   refine Qa (Xs (i:=(Int.toNat (Yu x a b))) Vb Z Z (OwC.rd3 ho1).1 (by omega) hi3) Z ?_
   have hqb1:=OwC.blk2 ho1
   have hqb2:=OwC.blk3 ho1
   refine Ce Z Z (OwC.setL (lo2:=w6.heap.size) (hi2:=w12.heap.size) Xv ho1 hi3 (Link.mkO ((Q3 (x.links[(Int.toNat (Yu x a b))]'hi1)).1) sp1 (Own.widen hw1 (by omega) (by omega))) (by omega) (by omega) (by omega)) (fun w14 m6 ho1'=>?_)
   replace ho1:=ho1'
   replace E:=E.step m6 (fun g hg=>by have:=hqb2 g hg;omega);replace h1:=h1.mod m6 (fun g hg=>by have:=hqb2 g hg;omega);replace h2:=h2.mod m6 (fun g hg=>by have:=hqb2 g hg;omega);replace h3:=h3.mod m6 (fun g hg=>by have:=hqb2 g hg;omega);replace h4:=h4.mod m6 (fun g hg=>by have:=hqb2 g hg;omega);replace h5:=h5.mod m6 (fun g hg=>by have:=hqb2 g hg;omega)
   have z14:=m6.size
   refine Qc (Qe (Xw Xp [(0,true),(1,true),(2,true),(3,true),(4,true),(5,true),(6,true),(7,true),(8,true),(9,false),(10,true),(11,false)] (by decide +kernel) Z (fun w15 e9=>?_)))
   replace E:=E.trans e9;replace h1:=h1.ext e9;replace h2:=h2.ext e9;replace ho1:=ho1.ext e9;replace h3:=h3.ext e9;replace h4:=h4.ext e9;replace h5:=h5.ext e9
   have z15:=e9.size
   refine Qa (Qb X3 Z) Z (Qa (Qk Vr Z (h3.one 3 Z)) Z (Qa (Qd Z) Z (Qa (Qb X3 Z) Z (Qa (Qk Vr Z (h1.one 3 Z)) Z (Qa (Qd Z) Z (Qa (Xs (i:=(Int.toNat b)) Uk Z Z (hd2.ext E).1 (by omega) hi2) Z (Qa (Qy Kz Z (ha2.ext E) Z) Z (Qa (Qy K0 Z h5.at Z) Z (Qu Tryz.call29 Z (c_Received [o12,o13,o14,o15,o16,o17,o18,o19] (x.workers[(Int.toNat b)]'hi2) ((Q3 (x.links[(Int.toNat (Yu x a b))]'hi1)).2.1) _ (Worker.mkR (x.workers[(Int.toNat b)]'hi2) (RdD.any (hd7.ext E)) (RdD.any (hd8.ext E)) (RdD.any (hd9.ext E)) (RdD.any (hd10.ext E)) (RdD.any (hd11.ext E)) (RdD.any (hd12.ext E)) (RdD.any (hd13.ext E)) (RdD.any (hd14.ext E))) (by omega)) Z (fun _ w16 e10 ho4=>?_))))))))))
   obtain ⟨_,rfl,ho4⟩:=ho4
   have g_ho4 : w.heap.size ≤ w15.heap.size:=E.size
   replace E:=E.trans e10;replace h1:=h1.ext e10;replace h2:=h2.ext e10;replace ho1:=ho1.ext e10;replace h3:=h3.ext e10;replace h4:=h4.ext e10;replace h5:=h5.ext e10
   have z16:=e10.size
   obtain ⟨o21,o22,o23,o24,o25,o26,o27,o28,rfl,sp2,hw2,hw3,hw4,hw5,hw6,hw7,hw8,hw9⟩:=Worker.opO ho4
   have hi4 : (Int.toNat b) < (({ x with links:=x.links.set (Int.toNat (Yu x a b)) ((Q3 (x.links[(Int.toNat (Yu x a b))]'hi1)).1) }).workers).length:=(by first | assumption | omega | (simp only [List.length_set];first | assumption | omega) | (simp only [List.getElem_set_self,List.length_set];first | assumption | omega))
   refine Qa (Xs (i:=(Int.toNat b)) Uk Z Z (OwC.rd2 ho1).1 (by omega) hi4) Z (Ce Z Z (OwC.setW (lo2:=w15.heap.size) (hi2:=w16.heap.size) Kz ho1 hi4 (Worker.mkO (Tx (x.workers[(Int.toNat b)]'hi2) ((Q3 (x.links[(Int.toNat (Yu x a b))]'hi1)).2.1)) sp2 (Own.widen hw2 (by omega) (by omega)) (Own.widen hw3 (by omega) (by omega)) (Own.widen hw4 (by omega) (by omega)) (Own.widen hw5 (by omega) (by omega)) (Own.widen hw6 (by omega) (by omega)) (Own.widen hw7 (by omega) (by omega)) (Own.widen hw8 (by omega) (by omega)) (Own.widen hw9 (by omega) (by omega))) (by omega) (by omega) (by omega)) (fun w17 m7 ho1'=>?_))
   replace ho1:=ho1'
   replace E:=E.step m7 (fun g hg=>by have:=hqb1 g hg;omega);replace h1:=h1.mod m7 (fun g hg=>by have:=hqb1 g hg;omega);replace h2:=h2.mod m7 (fun g hg=>by have:=hqb1 g hg;omega);replace h3:=h3.mod m7 (fun g hg=>by have:=hqb1 g hg;omega);replace h4:=h4.mod m7 (fun g hg=>by have:=hqb1 g hg;omega);replace h5:=h5.mod m7 (fun g hg=>by have:=hqb1 g hg;omega)
   have z17:=m7.size
   refine Qc (Qe (Qg [true,false,true] Z Z (Qa (Qy Xt Z h3.at Z) Z (Q6 (cs':=[o6,.int .i64 x.graph.workers,.int .i64 x.graph.cap,o7,o8,o9,o10]) Xt Z Z Z (Qj (RdD.one (OwC.rd1 ho1)) (Qj Z (Qj Z (Qj (RdD.one (OwC.rd2 ho1)) (Qj (RdD.one (OwC.rd3 ho1)) (Qj (RdD.one (OwC.rd4 ho1)) (Qj (RdD.one (OwC.rd5 ho1)) Z))))))) h2 (Nat.le_of_ble_eq_true Z) Z (fun w18 m8 h2'=>?_)))))
   replace h2:=h2'
   replace E:=E.step m8 (fun g hg=>by cases hg;omega);replace h1:=h1.mod m8 (fun g hg=>by cases hg;omega);replace ho1:=ho1.mod m8 (fun g hg=>by cases hg;omega);replace h3:=h3.mod m8 (fun g hg=>by cases hg;omega);replace h4:=h4.mod m8 (fun g hg=>by cases hg;omega);replace h5:=h5.mod m8 (fun g hg=>by cases hg;omega)
   have z18:=m8.size
   refine Qa (Qf Z) Z (Qc (Qt (Gp (l:=[.cell 6 40,.tmp 7]) (vs:=[.agg [o6,.int .i64 x.graph.workers,.int .i64 x.graph.cap,o7,o8,o9,o10].toArray,.bool true]) Z ⟨.cell Z (Yc Xt h2.at Z),.tmp Z,trivial⟩ Z E ?_)))
   rw [Qo,if_neg (of_decide_eq_false hc1),← lAt_at hlk.2.2.2.2.2.1,if_pos (by simpa using hc2),← Bc hbw]
   exact ⟨_,_,_,_,_,Z,(OwC.widen ho1 (by have:=E.size;omega) (by omega))⟩

set_option maxRecDepth 20000 in
theorem s_PickTake (cx : List Value) (x : Cluster) (a : Int) (b : Int) (w : World) (hx : Dat.R w 0 w.heap.size cx x) (hb : Ya x ≤ 1048576) (hgw : rg x.graph.workers) : Ct Tryz.prog 6 [.agg cx.toArray,.int .i64 a,.int .i64 b] w (fun v w'=>∃ c0,v = .tuple [.agg c0.toArray,.bool ((Qo x a b).2)].toArray ∧ Dat.R w' w.heap.size w'.heap.size c0 ((Qo x a b).1)):=by
 refine Yi Tryz.func6 Z Tryz.ntmps6 Z ?_
 obtain ⟨o1,o2,o3,o4,o5,rfl,hd1,hd2,hd3,hd4,hd5⟩:=Cluster.op hx
 refine Q7 [(0,.agg [o1,.int .i64 x.graph.workers,.int .i64 x.graph.cap,o2,o3,o4,o5].toArray),(1,.int .i64 a),(2,.int .i64 b)] ⟨Z,Z,Z,trivial⟩ ?_
 have E : Ext w w:=Ext.refl w
 refine Qe (Qg [false,false,true] Z Z (Yz Z Z (fun b1 w1 e1 s1 h1=>?_)))
 have g_b1 : w.heap.size ≤ b1:=by have:=E.size;omega
 have y_b1:=h1.lt
 replace E:=E.trans e1
 have z1:=e1.size
 refine Yj Xt Z (fun b2 w2 e2 s2 h2=>?_)
 have g_b2 : w.heap.size ≤ b2:=by have:=E.size;omega
 have y_b2:=h2.lt
 replace E:=E.trans e2;replace h1:=h1.ext e2
 have z2:=e2.size
 refine Qa (Qf Z) Z (Qc (Qe (Qg [true,false,true] Z Z (Qa (Qy Xt Z h1.at Z) Z (Qu Tryz.call19 Z (s_l15Start [o1,.int .i64 x.graph.workers,.int .i64 x.graph.cap,o2,o3,o4,o5] x _ (Cluster.mkR x (RdD.any (hd1.ext E)) (RdD.any (hd2.ext E)) (RdD.any (hd3.ext E)) (RdD.any (hd4.ext E)) (RdD.any (hd5.ext E))) (by first | omega | (simp only [Qi];omega) | (rw [Qi];done) | (simp only [Qi];done))) Z (fun _ w3 e3 ho1=>?_))))))
 obtain ⟨b3,o6,o7,o8,o9,o10,rfl,ho1⟩:=ho1
 have g_ho1 : w.heap.size ≤ w2.heap.size:=E.size
 replace E:=E.trans e3;replace h1:=h1.ext e3;replace h2:=h2.ext e3
 have z3:=e3.size
 obtain ⟨f1,f2,f3,h3,hl1,hw1,hw2,hw3,hw4,hw5,sp1⟩:=ho1
 have y_q1:=h3.lt
 refine Qa (Qf Z) Z (Qc (Qe (Qg [true,true,true,false,true] Z Z (Qa (Qd Z) Z (Qa (Qd Z) Z (Qa (Qd Z) Z ?_))))))
 have hr1 : OwR w3 w2.heap.size w3.heap.size b3 o6 o7 o8 o9 o10 x (Ka x):=⟨f1,f2,f3,h3,(by omega),(OwF.widen hw1 (Nat.le_refl _) (by omega)),(OwF.widen hw2 (Nat.le_refl _) (by omega)),(OwF.widen hw3 (Nat.le_refl _) (by omega)),(Own.widen hw4 (by omega) (by omega)),(Own.widen hw5 (by omega) (by omega)),sp1⟩
 refine Kh Tryz.call20 Z Z (s_l15Take b3 o6 o7 o8 o9 o10 w2.heap.size x (Ka x) a b _ hr1 (fun h=>h) hb hgw) Z (fun _ w4 e4 hv1=>?_)
 obtain ⟨rfl,ho2⟩:=hv1
 replace E:=E.stepR e4 (by omega);replace h1:=h1.modR e4 (by omega);replace h2:=h2.modR e4 (by omega)
 have z4:=e4.size
 obtain ⟨f4,f5,f6,h4,hl2,hw6,hw7,hw8,hw9,hw10,sp2⟩:=ho2
 have y_q2:=h4.lt
 refine Qa (Qf Z) Z (Qc (Qe (Qg [true,true,true,true,true,false,true] Z Z (Qa (Qd Z) Z (Qa (X7 Z) Z (Qa (Qb Hf Z) Z (Qa (Qy Xt Z (h4.part 0 [o6,.int .i64 ((((Kd x (Ka x) a b).1).graph).workers),.int .i64 ((((Kd x (Ka x) a b).1).graph).cap),o7,o8,o9,o10] Z) Z) Z (Qa (Qd Z) Z (Q6 (cs':=[o6,.int .i64 ((((Kd x (Ka x) a b).1).graph).workers),.int .i64 ((((Kd x (Ka x) a b).1).graph).cap),o7,o8,o9,o10]) Xt Z Z Z (Qj (RdD.one (OwF.rd hw6)) (Qj Z (Qj Z (Qj (RdD.one (OwF.rd hw7)) (Qj (RdD.one (OwF.rd hw8)) (Qj hw9.one (Qj hw10.one Z))))))) h2 (Nat.le_of_ble_eq_true Z) Z (fun w5 m1 h2'=>?_))))))))))
 replace h2:=h2'
 replace E:=E.step m1 (fun g hg=>by cases hg;omega);replace h1:=h1.mod m1 (fun g hg=>by cases hg;omega);replace hw6:=hw6.mod m1 (fun g hg=>by cases hg;omega);replace hw7:=hw7.mod m1 (fun g hg=>by cases hg;omega);replace hw8:=hw8.mod m1 (fun g hg=>by cases hg;omega);replace hw9:=hw9.mod m1 (fun g hg=>by cases hg;omega);replace hw10:=hw10.mod m1 (fun g hg=>by cases hg;omega);replace h4:=h4.mod m1 (fun g hg=>by cases hg;omega)
 have z5:=m1.size
 refine Qa (Qf Z) Z (Qc (Qt (Gp (l:=[.cell 6 40,.tmp 7]) (vs:=[.agg [o6,.int .i64 ((((Kd x (Ka x) a b).1).graph).workers),.int .i64 ((((Kd x (Ka x) a b).1).graph).cap),o7,o8,o9,o10].toArray,.bool ((Kd x (Ka x) a b).2.1)]) Z ⟨.cell Z (Yc Xt h2.at Z),.tmp Z,trivial⟩ Z E ?_)))
 rw [← pick_take1,← pick_take2]
 exact ⟨_,Z,(Cluster.mkR _ (RdD.widen (OwF.rd hw6) (by have:=E.size;omega) (by omega)) (RdD.widen (OwF.rd hw7) (by have:=E.size;omega) (by omega)) (RdD.widen (OwF.rd hw8) (by have:=E.size;omega) (by omega)) (RdD.widen (Own.rdD hw9) (by have:=E.size;omega) (by omega)) (RdD.widen (Own.rdD hw10) (by have:=E.size;omega) (by omega)))⟩

set_option maxHeartbeats 4000000 in
set_option maxRecDepth 20000 in
theorem l_PickTake (cx : List Value) (x : Cluster) (a : Int) (b : Int) (w : World) (hx : Dat.R w 0 w.heap.size cx x) (kx : Da x) (ka : rg a) (kb : rg b) : Ct Tryz.prog 3 [.agg cx.toArray,.int .i64 a,.int .i64 b] w (fun v _=>v = .bool true):=by
 have hcn:=cnt_pickTake x a b
 refine Yi Tryz.func3 Z Tryz.ntmps3 Z ?_
 obtain ⟨o1,o2,o3,o4,o5,rfl,hd1,hd2,hd3,hd4,hd5⟩:=Cluster.op hx
 refine Q7 [(0,.agg [o1,.int .i64 x.graph.workers,.int .i64 x.graph.cap,o2,o3,o4,o5].toArray),(1,.int .i64 a),(2,.int .i64 b)] ⟨Z,Z,Z,trivial⟩ ?_
 have E : Ext w w:=Ext.refl w
 refine Qe (Qg [false,true] Z Z (Yz Z Z (fun b1 w1 e1 s1 h1=>?_)))
 have g_b1 : w.heap.size ≤ b1:=by have:=E.size;omega
 have y_b1:=h1.lt
 replace E:=E.trans e1
 have z1:=e1.size
 refine Qa (Qf Z) Z (Qc (Qe (Qg [true] Z Z (Qa (Qf Z) Z (Qc (Qe (Qg [true,true,false,true] Z Z (Qa (Qy st30 Z h1.at Z) Z (Qa (Qd Z) Z (Qu Tryz.call5 Z (c_szCluster [o1,.int .i64 x.graph.workers,.int .i64 x.graph.cap,o2,o3,o4,o5] x 1048576 _ (Cluster.mkR x (RdD.any (hd1.ext E)) (RdD.any (hd2.ext E)) (RdD.any (hd3.ext E)) (RdD.any (hd4.ext E)) (RdD.any (hd5.ext E))) (by first | omega | (simp only [Qi];omega) | (rw [Qi];done) | (simp only [Qi];done))) Z (fun _ w2 e2 hv=>?_)))))))))))
 subst hv
 replace E:=E.trans e2;replace h1:=h1.ext e2
 have z2:=e2.size
 refine Qa (Qf Z) Z (Qc (Qe (Qe (Qg [true,true] Z Z (Qa (Qd Z) Z (Qa (Yf Z Z) Z (Qc (Qr Z (fun hc1=>?_) (fun hc1=>?_)))))))))
 ·have q1:=Ub hc1 (by omega)
  refine Qe (Qg [true] Z Z (Qa (Qf Z) Z (Qc (Qt (Ql Z Z E ?_)))))
  rfl
 ·have q2:=Ua hc1 (by omega)
  refine Qm (Qe (Qg [true,false,true,true,false,true,true,true,false,false,true] Z Z (Qa (Qy st30 Z h1.at Z) Z (Qu Tryz.call7 Z (c_toCluster [o1,.int .i64 x.graph.workers,.int .i64 x.graph.cap,o2,o3,o4,o5] x _ (Cluster.mkR x (RdD.any (hd1.ext E)) (RdD.any (hd2.ext E)) (RdD.any (hd3.ext E)) (RdD.any (hd4.ext E)) (RdD.any (hd5.ext E))) (by first | omega | (simp only [Qi];omega) | (rw [Qi];done) | (simp only [Qi];done))) Z (fun _ w3 e3 ho1=>?_)))))
  obtain ⟨o6,o7,o8,o9,o10,rfl,ho1⟩:=ho1
  have g_ho1 : w.heap.size ≤ w2.heap.size:=E.size
  replace E:=E.trans e3;replace h1:=h1.ext e3
  have z3:=e3.size
  refine Qa (Qd Z) Z (Qa (Qd Z) Z (Qu Tryz.call6 Z (s_PickTake [o6,.int .i64 x.graph.workers,.int .i64 x.graph.cap,o7,o8,o9,o10] x a b _ (Cluster.mkR x (RdD.any (OwC.rd1 ho1)) (RdD.any (OwC.rd2 ho1)) (RdD.any (OwC.rd3 ho1)) (RdD.any (OwC.rd4 ho1)) (RdD.any (OwC.rd5 ho1))) (by omega) kx.1.2.1) Z (fun _ w4 e4 ho2=>?_)))
  obtain ⟨_,rfl,ho3⟩:=ho2
  have g_ho2 : w.heap.size ≤ w3.heap.size:=E.size
  replace E:=E.trans e4;replace h1:=h1.ext e4;replace ho1:=ho1.ext e4
  have z4:=e4.size
  obtain ⟨o11,o12,o13,o14,o15,rfl,hd6,hd7,hd8,hd9,hd10⟩:=Cluster.op ho3
  refine Qa (Qd Z) Z (Qa (Kx Z Z) Z (Qa (Kx Z Z) Z (Yj Xt Z (fun b2 w5 e5 s2 h2=>?_))))
  have g_b2 : w.heap.size ≤ b2:=by have:=E.size;omega
  have y_b2:=h2.lt
  replace E:=E.trans e5;replace h1:=h1.ext e5;replace ho1:=ho1.ext e5;replace hd6:=hd6.ext e5;replace hd7:=hd7.ext e5;replace hd8:=hd8.ext e5;replace hd9:=hd9.ext e5;replace hd10:=hd10.ext e5
  have z5:=e5.size
  refine Q6 (cs':=[o11,.int .i64 ((((Qo x a b).1).graph).workers),.int .i64 ((((Qo x a b).1).graph).cap),o12,o13,o14,o15]) Xt Z Z Z (Qj (RdD.one hd6) (Qj Z (Qj Z (Qj (RdD.one hd7) (Qj (RdD.one hd8) (Qj (RdD.one hd9) (Qj (RdD.one hd10) Z))))))) h2 (Nat.le_of_ble_eq_true Z) Z (fun w6 m1 h2'=>?_)
  replace h2:=h2'
  replace E:=E.step m1 (fun g hg=>by cases hg;omega);replace h1:=h1.mod m1 (fun g hg=>by cases hg;omega);replace ho1:=ho1.mod m1 (fun g hg=>by cases hg;omega);replace hd6:=hd6.mod m1 (fun g hg=>by cases hg;omega);replace hd7:=hd7.mod m1 (fun g hg=>by cases hg;omega);replace hd8:=hd8.mod m1 (fun g hg=>by cases hg;omega);replace hd9:=hd9.mod m1 (fun g hg=>by cases hg;omega);replace hd10:=hd10.mod m1 (fun g hg=>by cases hg;omega)
  have z6:=m1.size
  refine Qa (Qf Z) Z (Qc (Qe (Qg [true,false,false,false] Z Z (Qa (Qy st30 Z h1.at Z) Z (Qu Tryz.call7 Z (c_toCluster [o1,.int .i64 x.graph.workers,.int .i64 x.graph.cap,o2,o3,o4,o5] x _ (Cluster.mkR x (RdD.any (hd1.ext E)) (RdD.any (hd2.ext E)) (RdD.any (hd3.ext E)) (RdD.any (hd4.ext E)) (RdD.any (hd5.ext E))) (by first | omega | (simp only [Qi];omega) | (rw [Qi];done) | (simp only [Qi];done))) Z (fun _ w7 e6 ho4=>?_))))))
  obtain ⟨o16,o17,o18,o19,o20,rfl,ho4⟩:=ho4
  have g_ho4 : w.heap.size ≤ w6.heap.size:=E.size
  replace E:=E.trans e6;replace h1:=h1.ext e6;replace ho1:=ho1.ext e6;replace hd6:=hd6.ext e6;replace hd7:=hd7.ext e6;replace hd8:=hd8.ext e6;replace hd9:=hd9.ext e6;replace hd10:=hd10.ext e6;replace h2:=h2.ext e6
  have z7:=e6.size
  refine Yj Xt Z (fun b3 w8 e7 s3 h3=>?_)
  have g_b3 : w.heap.size ≤ b3:=by have:=E.size;omega
  have y_b3:=h3.lt
  replace E:=E.trans e7;replace h1:=h1.ext e7;replace ho1:=ho1.ext e7;replace hd6:=hd6.ext e7;replace hd7:=hd7.ext e7;replace hd8:=hd8.ext e7;replace hd9:=hd9.ext e7;replace hd10:=hd10.ext e7;replace h2:=h2.ext e7;replace ho4:=ho4.ext e7
  have z8:=e7.size
  refine Q6 (cs':=[o16,.int .i64 x.graph.workers,.int .i64 x.graph.cap,o17,o18,o19,o20]) Xt Z Z Z (Qj (RdD.one (OwC.rd1 ho4)) (Qj Z (Qj Z (Qj (RdD.one (OwC.rd2 ho4)) (Qj (RdD.one (OwC.rd3 ho4)) (Qj (RdD.one (OwC.rd4 ho4)) (Qj (RdD.one (OwC.rd5 ho4)) Z))))))) h3 (Nat.le_of_ble_eq_true Z) Z (fun w9 m2 h3'=>?_)
  replace h3:=h3'
  replace E:=E.step m2 (fun g hg=>by cases hg;omega);replace h1:=h1.mod m2 (fun g hg=>by cases hg;omega);replace ho1:=ho1.mod m2 (fun g hg=>by cases hg;omega);replace hd6:=hd6.mod m2 (fun g hg=>by cases hg;omega);replace hd7:=hd7.mod m2 (fun g hg=>by cases hg;omega);replace hd8:=hd8.mod m2 (fun g hg=>by cases hg;omega);replace hd9:=hd9.mod m2 (fun g hg=>by cases hg;omega);replace hd10:=hd10.mod m2 (fun g hg=>by cases hg;omega);replace h2:=h2.mod m2 (fun g hg=>by cases hg;omega);replace ho4:=ho4.mod m2 (fun g hg=>by cases hg;omega)
  have z9:=m2.size
  refine Qc (Qe (Qg [true,true,true,false,true,true,true,false,false,true] Z Z (Qa (Qy Xt Z h3.at Z) Z (Qa (Qd Z) Z (Qa (Qd Z) Z (Qu Tryz.call8 Z (c_PickTake [o16,.int .i64 x.graph.workers,.int .i64 x.graph.cap,o17,o18,o19,o20] x a b _ (Cluster.mkR x (RdD.any (OwC.rd1 ho4)) (RdD.any (OwC.rd2 ho4)) (RdD.any (OwC.rd3 ho4)) (RdD.any (OwC.rd4 ho4)) (RdD.any (OwC.rd5 ho4))) (by omega) (fun l hl=>(kx.2.2.1 l hl).2.2.2.2.2)) Z (fun _ w10 e8 ho5=>?_)))))))
  obtain ⟨o21,o22,o23,o24,o25,rfl,ho6⟩:=ho5
  have g_ho5 : w.heap.size ≤ w9.heap.size:=E.size
  replace E:=E.trans e8;replace h1:=h1.ext e8;replace ho1:=ho1.ext e8;replace hd6:=hd6.ext e8;replace hd7:=hd7.ext e8;replace hd8:=hd8.ext e8;replace hd9:=hd9.ext e8;replace hd10:=hd10.ext e8;replace h2:=h2.ext e8;replace ho4:=ho4.ext e8;replace h3:=h3.ext e8
  have z10:=e8.size
  refine Qa (Qd Z) Z (Qa (Kx Z Z) Z (Qa (Kx Z Z) Z (Yj Xt Z (fun b4 w11 e9 s4 h4=>?_))))
  have g_b4 : w.heap.size ≤ b4:=by have:=E.size;omega
  have y_b4:=h4.lt
  replace E:=E.trans e9;replace h1:=h1.ext e9;replace ho1:=ho1.ext e9;replace hd6:=hd6.ext e9;replace hd7:=hd7.ext e9;replace hd8:=hd8.ext e9;replace hd9:=hd9.ext e9;replace hd10:=hd10.ext e9;replace h2:=h2.ext e9;replace ho4:=ho4.ext e9;replace h3:=h3.ext e9;replace ho6:=ho6.ext e9
  have z11:=e9.size
  refine Q6 (cs':=[o21,.int .i64 ((((Qo x a b).1).graph).workers),.int .i64 ((((Qo x a b).1).graph).cap),o22,o23,o24,o25]) Xt Z Z Z (Qj (RdD.one (OwC.rd1 ho6)) (Qj Z (Qj Z (Qj (RdD.one (OwC.rd2 ho6)) (Qj (RdD.one (OwC.rd3 ho6)) (Qj (RdD.one (OwC.rd4 ho6)) (Qj (RdD.one (OwC.rd5 ho6)) Z))))))) h4 (Nat.le_of_ble_eq_true Z) Z (fun w12 m3 h4'=>?_)
  replace h4:=h4'
  replace E:=E.step m3 (fun g hg=>by cases hg;omega);replace h1:=h1.mod m3 (fun g hg=>by cases hg;omega);replace ho1:=ho1.mod m3 (fun g hg=>by cases hg;omega);replace hd6:=hd6.mod m3 (fun g hg=>by cases hg;omega);replace hd7:=hd7.mod m3 (fun g hg=>by cases hg;omega);replace hd8:=hd8.mod m3 (fun g hg=>by cases hg;omega);replace hd9:=hd9.mod m3 (fun g hg=>by cases hg;omega);replace hd10:=hd10.mod m3 (fun g hg=>by cases hg;omega);replace h2:=h2.mod m3 (fun g hg=>by cases hg;omega);replace ho4:=ho4.mod m3 (fun g hg=>by cases hg;omega);replace h3:=h3.mod m3 (fun g hg=>by cases hg;omega);replace ho6:=ho6.mod m3 (fun g hg=>by cases hg;omega)
  have z12:=m3.size
  refine Qa (Qf Z) Z (Qc (Qe (Qe (Qg [true,true,false,true,true,true,true,true,true] Z Z (Qa (Qy Xt Z h4.at Z) Z (Qa (Qy Xt Z h2.at Z) Z (Qu Tryz.call9 Z (c_eqCluster [o21,.int .i64 ((((Qo x a b).1).graph).workers),.int .i64 ((((Qo x a b).1).graph).cap),o22,o23,o24,o25] ((Qo x a b).1) [o11,.int .i64 ((((Qo x a b).1).graph).workers),.int .i64 ((((Qo x a b).1).graph).cap),o12,o13,o14,o15] ((Qo x a b).1) _ (Cluster.mkR ((Qo x a b).1) (RdD.any (OwC.rd1 ho6)) (RdD.any (OwC.rd2 ho6)) (RdD.any (OwC.rd3 ho6)) (RdD.any (OwC.rd4 ho6)) (RdD.any (OwC.rd5 ho6))) (Cluster.mkR ((Qo x a b).1) (RdD.any hd6) (RdD.any hd7) (RdD.any hd8) (RdD.any hd9) (RdD.any hd10))) Z (fun _ w13 e10 hv=>?_))))))))
  subst hv
  replace E:=E.trans e10;replace h1:=h1.ext e10;replace ho1:=ho1.ext e10;replace hd6:=hd6.ext e10;replace hd7:=hd7.ext e10;replace hd8:=hd8.ext e10;replace hd9:=hd9.ext e10;replace hd10:=hd10.ext e10;replace h2:=h2.ext e10;replace ho4:=ho4.ext e10;replace h3:=h3.ext e10;replace ho6:=ho6.ext e10;replace h4:=h4.ext e10
  have z13:=e10.size
  refine Qa (Yt Z) Z (Qa (Qd Z) Z (Xd 4 [(0,.agg [o1,.int .i64 x.graph.workers,.int .i64 x.graph.cap,o2,o3,o4,o5].toArray),(1,.int .i64 a),(2,.int .i64 b),(3,.pointer (some ⟨b1,0,none⟩)),(6,.bool false),(7,.int .i64 (Uc (Ya x) 1048576)),(8,.pointer (some ⟨b2,0,none⟩)),(9,.bool ((Qo x a b).2)),(10,.pointer (some ⟨b3,0,none⟩)),(11,.pointer (some ⟨b4,0,none⟩)),(12,.bool ((Qo x a b).2)),(18,.agg [o1,.int .i64 x.graph.workers,.int .i64 x.graph.cap,o2,o3,o4,o5].toArray),(19,.int .i64 1048576),(20,.int .i64 (Uc (Ya x) 1048576)),(21,.int .i64 (Uc (Ya x) 1048576)),(22,.bool (decide ((Uc (Ya x) 1048576) < 0))),(23,.tuple [.agg [o11,.int .i64 ((((Qo x a b).1).graph).workers),.int .i64 ((((Qo x a b).1).graph).cap),o12,o13,o14,o15].toArray,.bool ((Qo x a b).2)].toArray),(24,.agg [o1,.int .i64 x.graph.workers,.int .i64 x.graph.cap,o2,o3,o4,o5].toArray),(25,.agg [o6,.int .i64 x.graph.workers,.int .i64 x.graph.cap,o7,o8,o9,o10].toArray),(26,.int .i64 a),(27,.int .i64 b),(28,.tuple [.agg [o11,.int .i64 ((((Qo x a b).1).graph).workers),.int .i64 ((((Qo x a b).1).graph).cap),o12,o13,o14,o15].toArray,.bool ((Qo x a b).2)].toArray),(29,.agg [o11,.int .i64 ((((Qo x a b).1).graph).workers),.int .i64 ((((Qo x a b).1).graph).cap),o12,o13,o14,o15].toArray),(30,.bool ((Qo x a b).2)),(31,.agg [o1,.int .i64 x.graph.workers,.int .i64 x.graph.cap,o2,o3,o4,o5].toArray),(32,.agg [o16,.int .i64 x.graph.workers,.int .i64 x.graph.cap,o17,o18,o19,o20].toArray),(33,.tuple [.agg [o21,.int .i64 ((((Qo x a b).1).graph).workers),.int .i64 ((((Qo x a b).1).graph).cap),o22,o23,o24,o25].toArray,.bool ((Qo x a b).2)].toArray),(34,.agg [o16,.int .i64 x.graph.workers,.int .i64 x.graph.cap,o17,o18,o19,o20].toArray),(35,.int .i64 a),(36,.int .i64 b),(37,.tuple [.agg [o21,.int .i64 ((((Qo x a b).1).graph).workers),.int .i64 ((((Qo x a b).1).graph).cap),o22,o23,o24,o25].toArray,.bool ((Qo x a b).2)].toArray),(38,.agg [o21,.int .i64 ((((Qo x a b).1).graph).workers),.int .i64 ((((Qo x a b).1).graph).cap),o22,o23,o24,o25].toArray),(39,.bool ((Qo x a b).2)),(48,.bool ((!(decide ((Qo x a b).1 = ((Qo x a b).1)))) || (!(((Qo x a b).2) == ((Qo x a b).2)))))] (fun w'=>w13 = w') ?_ ?_))
  ·refine Y1 (gd:=44) Z Z (fun hg1=>?_) (fun hg1=>?_)
   ·exact absurd hg1 (by first | (simp;done) | (simp only [Qp] <;> simp) | (simp only [Qi,Qp] <;> simp) | (simp only [Qi] <;> simp))
   ·refine Qn Z Z (Qd Z) Z (Qn Z Z (Qd Z) Z (Qn Z Z (Uz (Tryz.underlying4) Z Z) Z (Qa (Q1 Z Z) Z (Qq ⟨Z,Z,Z,Z,Z,Z,Z,Z,Z,Z,Z,Z,Z,Z,Z,Z,Z,Z,Z,Z,Z,Z,Z,Z,Z,Z,Z,Z,Z,Z,Z,Z,Z,congrArg (fun b=>some (Value.bool b)) (show (!(((Qo x a b).2) == ((Qo x a b).2))) = ((!(decide ((Qo x a b).1 = ((Qo x a b).1)))) || (!(((Qo x a b).2) == ((Qo x a b).2)))) by first | (rw [hg1] <;> rfl) | (simp [hg1];done) | (simp only [Qp] <;> simp)),trivial⟩ Z))))
  rintro _ rfl
  refine Qc (Yn Z (by first | (simp;done) | (simp only [Qp] <;> simp) | (simp only [Qi,Qp] <;> simp) | (simp only [Qi] <;> simp)) (Qm (Qe (Qe (Xw Xp [(0,true),(1,true),(2,false),(3,false),(4,true)] (by decide +kernel) Z (fun w15 e11=>?_))))))
  replace E:=E.trans e11;replace h1:=h1.ext e11;replace ho1:=ho1.ext e11;replace hd6:=hd6.ext e11;replace hd7:=hd7.ext e11;replace hd8:=hd8.ext e11;replace hd9:=hd9.ext e11;replace hd10:=hd10.ext e11;replace h2:=h2.ext e11;replace ho4:=ho4.ext e11;replace h3:=h3.ext e11;replace ho6:=ho6.ext e11;replace h4:=h4.ext e11
  have z14:=e11.size
  refine Qa (Qy Xt Z h3.at Z) Z (Qa (Qy st30 Z h1.at Z) Z (Qu Tryz.call7 Z (c_toCluster [o1,.int .i64 x.graph.workers,.int .i64 x.graph.cap,o2,o3,o4,o5] x _ (Cluster.mkR x (RdD.any (hd1.ext E)) (RdD.any (hd2.ext E)) (RdD.any (hd3.ext E)) (RdD.any (hd4.ext E)) (RdD.any (hd5.ext E))) (by first | omega | (simp only [Qi];omega) | (rw [Qi];done) | (simp only [Qi];done))) Z (fun _ w16 e12 ho7=>?_)))
  obtain ⟨o26,o27,o28,o29,o30,rfl,ho7⟩:=ho7
  have g_ho7 : w.heap.size ≤ w15.heap.size:=E.size
  replace E:=E.trans e12;replace h1:=h1.ext e12;replace ho1:=ho1.ext e12;replace hd6:=hd6.ext e12;replace hd7:=hd7.ext e12;replace hd8:=hd8.ext e12;replace hd9:=hd9.ext e12;replace hd10:=hd10.ext e12;replace h2:=h2.ext e12;replace ho4:=ho4.ext e12;replace h3:=h3.ext e12;replace ho6:=ho6.ext e12;replace h4:=h4.ext e12
  have z15:=e12.size
  refine Qu Tryz.call9 Z (c_eqCluster [o16,.int .i64 x.graph.workers,.int .i64 x.graph.cap,o17,o18,o19,o20] x [o26,.int .i64 x.graph.workers,.int .i64 x.graph.cap,o27,o28,o29,o30] x _ (Cluster.mkR x (RdD.any (OwC.rd1 ho4)) (RdD.any (OwC.rd2 ho4)) (RdD.any (OwC.rd3 ho4)) (RdD.any (OwC.rd4 ho4)) (RdD.any (OwC.rd5 ho4))) (Cluster.mkR x (RdD.any (OwC.rd1 ho7)) (RdD.any (OwC.rd2 ho7)) (RdD.any (OwC.rd3 ho7)) (RdD.any (OwC.rd4 ho7)) (RdD.any (OwC.rd5 ho7)))) Z (fun _ w17 e13 hv=>?_)
  subst hv
  replace E:=E.trans e13;replace h1:=h1.ext e13;replace ho1:=ho1.ext e13;replace hd6:=hd6.ext e13;replace hd7:=hd7.ext e13;replace hd8:=hd8.ext e13;replace hd9:=hd9.ext e13;replace hd10:=hd10.ext e13;replace h2:=h2.ext e13;replace ho4:=ho4.ext e13;replace h3:=h3.ext e13;replace ho6:=ho6.ext e13;replace h4:=h4.ext e13;replace ho7:=ho7.ext e13
  have z16:=e13.size
  refine Qa (Yt Z) Z (Qc (Yn Z (by first | (simp;done) | (simp only [Qp] <;> simp) | (simp only [Qi,Qp] <;> simp) | (simp only [Qi] <;> simp)) (Qm (Qe (Qg [true] Z Z (Qa (Qf Z) Z (Qc (Qe (Qg [true,true,false,true] Z Z (Qa (Qy Xt Z h3.at Z) Z (Qa (Qd Z) Z (Kh Tryz.call10 Z Z (markCluster o16 o17 o18 o19 o20 w6.heap.size w7.heap.size x 1 _ ho4 (by omega) (by omega)) Z (fun _ w18 e14 hv=>?_)))))))))))))
  obtain ⟨rfl,ho4'⟩:=hv
  replace ho4:=ho4'
  replace E:=E.stepR e14 (by omega);replace h1:=h1.modR e14 (by omega);replace ho1:=ho1.modR e14 (by omega);replace hd6:=hd6.modR e14 (by omega);replace hd7:=hd7.modR e14 (by omega);replace hd8:=hd8.modR e14 (by omega);replace hd9:=hd9.modR e14 (by omega);replace hd10:=hd10.modR e14 (by omega);replace h2:=h2.modR e14 (by omega);replace h3:=h3.modR e14 (by omega);replace ho6:=ho6.modR e14 (by omega);replace h4:=h4.modR e14 (by omega);replace ho7:=ho7.modR e14 (by omega)
  have z17:=e14.size
  refine Qa (Qf Z) Z (Qc (Qe (Qe (Qg [true,true,true,true,true,false,true,true,true,true,true,true,true] Z Z (Qa (Qd Z) Z (Qa (Yf Z Z) Z (Qa (Qd Z) Z (Xd 10 [(0,.agg [o1,.int .i64 x.graph.workers,.int .i64 x.graph.cap,o2,o3,o4,o5].toArray),(1,.int .i64 a),(2,.int .i64 b),(3,.pointer (some ⟨b1,0,none⟩)),(6,.bool false),(7,.int .i64 (Uc (Ya x) 1048576)),(8,.pointer (some ⟨b2,0,none⟩)),(9,.bool ((Qo x a b).2)),(10,.pointer (some ⟨b3,0,none⟩)),(11,.pointer (some ⟨b4,0,none⟩)),(12,.bool ((Qo x a b).2)),(13,.int .i64 ((Uy 1 x : Nat) : Int)),(18,.agg [o1,.int .i64 x.graph.workers,.int .i64 x.graph.cap,o2,o3,o4,o5].toArray),(19,.int .i64 1048576),(20,.int .i64 (Uc (Ya x) 1048576)),(21,.int .i64 (Uc (Ya x) 1048576)),(22,.bool (decide ((Uc (Ya x) 1048576) < 0))),(23,.tuple [.agg [o11,.int .i64 ((((Qo x a b).1).graph).workers),.int .i64 ((((Qo x a b).1).graph).cap),o12,o13,o14,o15].toArray,.bool ((Qo x a b).2)].toArray),(24,.agg [o1,.int .i64 x.graph.workers,.int .i64 x.graph.cap,o2,o3,o4,o5].toArray),(25,.agg [o6,.int .i64 x.graph.workers,.int .i64 x.graph.cap,o7,o8,o9,o10].toArray),(26,.int .i64 a),(27,.int .i64 b),(28,.tuple [.agg [o11,.int .i64 ((((Qo x a b).1).graph).workers),.int .i64 ((((Qo x a b).1).graph).cap),o12,o13,o14,o15].toArray,.bool ((Qo x a b).2)].toArray),(29,.agg [o11,.int .i64 ((((Qo x a b).1).graph).workers),.int .i64 ((((Qo x a b).1).graph).cap),o12,o13,o14,o15].toArray),(30,.bool ((Qo x a b).2)),(31,.agg [o1,.int .i64 x.graph.workers,.int .i64 x.graph.cap,o2,o3,o4,o5].toArray),(32,.agg [o16,.int .i64 x.graph.workers,.int .i64 x.graph.cap,o17,o18,o19,o20].toArray),(33,.tuple [.agg [o21,.int .i64 ((((Qo x a b).1).graph).workers),.int .i64 ((((Qo x a b).1).graph).cap),o22,o23,o24,o25].toArray,.bool ((Qo x a b).2)].toArray),(34,.agg [o16,.int .i64 x.graph.workers,.int .i64 x.graph.cap,o17,o18,o19,o20].toArray),(35,.int .i64 a),(36,.int .i64 b),(37,.tuple [.agg [o21,.int .i64 ((((Qo x a b).1).graph).workers),.int .i64 ((((Qo x a b).1).graph).cap),o22,o23,o24,o25].toArray,.bool ((Qo x a b).2)].toArray),(38,.agg [o21,.int .i64 ((((Qo x a b).1).graph).workers),.int .i64 ((((Qo x a b).1).graph).cap),o22,o23,o24,o25].toArray),(39,.bool ((Qo x a b).2)),(48,.bool ((!(decide ((Qo x a b).1 = ((Qo x a b).1)))) || (!(((Qo x a b).2) == ((Qo x a b).2))))),(49,.agg [o16,.int .i64 x.graph.workers,.int .i64 x.graph.cap,o17,o18,o19,o20].toArray),(50,.agg [o1,.int .i64 x.graph.workers,.int .i64 x.graph.cap,o2,o3,o4,o5].toArray),(51,.agg [o26,.int .i64 x.graph.workers,.int .i64 x.graph.cap,o27,o28,o29,o30].toArray),(52,.bool (decide (x = x))),(53,.bool (!(decide (x = x)))),(54,.agg [o16,.int .i64 x.graph.workers,.int .i64 x.graph.cap,o17,o18,o19,o20].toArray),(55,.int .i64 1),(56,.int .i64 ((Uy 1 x : Nat) : Int)),(69,.bool (((decide (((Uy 1 x : Nat) : Int) < 0)) || (!(decide ((Qo x a b).1 = ((Qo x a b).1))))) || (!(((Qo x a b).2) == ((Qo x a b).2)))))] (fun w'=>Ext w w' ∧ w18.heap.size ≤ w'.heap.size ∧ Blk w' b1 ([o1,.int .i64 x.graph.workers,.int .i64 x.graph.cap,o2,o3,o4,o5]) ∧ OwC w' w2.heap.size w3.heap.size o6 o7 o8 o9 o10 x ∧ RdD w' w3.heap.size w4.heap.size o11 ((((Qo x a b).1).graph).nodes) ∧ RdD w' w3.heap.size w4.heap.size o12 (((Qo x a b).1).workers) ∧ RdD w' w3.heap.size w4.heap.size o13 (((Qo x a b).1).links) ∧ RdD w' w3.heap.size w4.heap.size o14 (((Qo x a b).1).tokens) ∧ RdD w' w3.heap.size w4.heap.size o15 (((Qo x a b).1).news) ∧ Blk w' b2 [o11,.int .i64 ((((Qo x a b).1).graph).workers),.int .i64 ((((Qo x a b).1).graph).cap),o12,o13,o14,o15] ∧ OwC w' w6.heap.size w7.heap.size o16 o17 o18 o19 o20 (K6 1 x) ∧ Blk w' b3 [o16,.int .i64 x.graph.workers,.int .i64 x.graph.cap,o17,o18,o19,o20] ∧ OwC w' w9.heap.size w10.heap.size o21 o22 o23 o24 o25 ((Qo x a b).1) ∧ Blk w' b4 [o21,.int .i64 ((((Qo x a b).1).graph).workers),.int .i64 ((((Qo x a b).1).graph).cap),o22,o23,o24,o25] ∧ OwC w' w15.heap.size w16.heap.size o26 o27 o28 o29 o30 x) ?_ ?_))))))))
  ·refine Y1 (gd:=59) Z Z (fun hg2=>?_) (fun hg2=>?_)
   ·exact absurd hg2 (by first | (simp;done) | (simp only [Qp] <;> simp) | (simp only [Qi,Qp] <;> simp) | (simp only [Qi] <;> simp))
   ·have hg2n : ¬ Uy 1 x < 0:=by first | (have h:=of_decide_eq_false hg2;omega) | (have h:=hg2;simp at h;omega)
    refine Qn Z Z (Qy Xt Z h4.at Z) Z (Qn Z Z (Qy Xt Z h2.at Z) Z ?_)
    refine X4 Z Z ?_
    refine Qu Tryz.call9 Z (c_eqCluster [o21,.int .i64 ((((Qo x a b).1).graph).workers),.int .i64 ((((Qo x a b).1).graph).cap),o22,o23,o24,o25] ((Qo x a b).1) [o11,.int .i64 ((((Qo x a b).1).graph).workers),.int .i64 ((((Qo x a b).1).graph).cap),o12,o13,o14,o15] ((Qo x a b).1) _ (Cluster.mkR ((Qo x a b).1) (RdD.any (OwC.rd1 ho6)) (RdD.any (OwC.rd2 ho6)) (RdD.any (OwC.rd3 ho6)) (RdD.any (OwC.rd4 ho6)) (RdD.any (OwC.rd5 ho6))) (Cluster.mkR ((Qo x a b).1) (RdD.any hd6) (RdD.any hd7) (RdD.any hd8) (RdD.any hd9) (RdD.any hd10))) Z (fun _ w20 e15 hv=>?_)
    subst hv
    replace E:=E.trans e15;replace h1:=h1.ext e15;replace ho1:=ho1.ext e15;replace hd6:=hd6.ext e15;replace hd7:=hd7.ext e15;replace hd8:=hd8.ext e15;replace hd9:=hd9.ext e15;replace hd10:=hd10.ext e15;replace h2:=h2.ext e15;replace ho4:=ho4.ext e15;replace h3:=h3.ext e15;replace ho6:=ho6.ext e15;replace h4:=h4.ext e15;replace ho7:=ho7.ext e15
    have z18:=e15.size
    refine Qn Z Z (Yt Z) Z (Qa (Q1 Z Z) Z (Qa (Qd Z) Z ?_))
    refine Y1 (gd:=65) Z Z (fun hg3=>?_) (fun hg3=>?_)
    ·exact absurd hg3 (by first | (simp;done) | (simp only [Qp] <;> simp) | (simp only [Qi,Qp] <;> simp) | (simp only [Qi] <;> simp))
    ·refine Qn Z Z (Qd Z) Z (Qn Z Z (Qd Z) Z (Qn Z Z (Uz (Tryz.underlying4) Z Z) Z (Qa (Q1 Z Z) Z (Qq ⟨Z,Z,Z,Z,Z,Z,Z,Z,Z,Z,Z,Z,Z,Z,Z,Z,Z,Z,Z,Z,Z,Z,Z,Z,Z,Z,Z,Z,Z,Z,Z,Z,Z,Z,Z,Z,Z,Z,Z,Z,Z,Z,Z,congrArg (fun b=>some (Value.bool b)) (show (!(((Qo x a b).2) == ((Qo x a b).2))) = (((decide (((Uy 1 x : Nat) : Int) < 0)) || (!(decide ((Qo x a b).1 = ((Qo x a b).1))))) || (!(((Qo x a b).2) == ((Qo x a b).2)))) by first | (rw [hg2,hg3] <;> rfl) | (simp [hg2,hg3];done) | (simp only [Qp] <;> simp)),trivial⟩ ⟨E,(by omega),h1,ho1,hd6,hd7,hd8,hd9,hd10,h2,ho4,h3,ho6,h4,ho7⟩))))
  clear E h1 ho1 hd6 hd7 hd8 hd9 hd10 h2 ho4 h3 ho6 h4 ho7
  rintro w19 ⟨E,z19,h1,ho1,hd6,hd7,hd8,hd9,hd10,h2,ho4,h3,ho6,h4,ho7⟩
  refine Qc (Yn Z (by first | (simp;done) | (simp only [Qp] <;> simp) | (simp only [Qi,Qp] <;> simp) | (simp only [Qi] <;> simp)) (Qm (Qe (Qg [true] Z Z (Qa (Qf Z) Z (Qc (Qe (Qg [true,true,false,true] Z Z (Qa (Qy Xt Z h4.at Z) Z (Qa (Qd Z) Z (Kh Tryz.call10 Z Z (markCluster o21 o22 o23 o24 o25 w9.heap.size w10.heap.size ((Qo x a b).1) 1 _ ho6 (by omega) (by omega)) Z (fun _ w21 e16 hv=>?_))))))))))))
  obtain ⟨rfl,ho6'⟩:=hv
  replace ho6:=ho6'
  replace E:=E.stepR e16 (by omega);replace h1:=h1.modR e16 (by omega);replace ho1:=ho1.modR e16 (by omega);replace hd6:=hd6.modR e16 (by omega);replace hd7:=hd7.modR e16 (by omega);replace hd8:=hd8.modR e16 (by omega);replace hd9:=hd9.modR e16 (by omega);replace hd10:=hd10.modR e16 (by omega);replace h2:=h2.modR e16 (by omega);replace ho4:=ho4.modR e16 (by omega);replace h3:=h3.modR e16 (by omega);replace h4:=h4.modR e16 (by omega);replace ho7:=ho7.modR e16 (by omega)
  have z20:=e16.size
  refine Qa (Qf Z) Z (Qc (Qe (Qg [true] Z Z (Qa (Qf Z) Z (Qc (Qe (Qg [true,true,false,true] Z Z (Qa (Qy Xt Z h4.at Z) Z (Qa (Qd Z) Z (Qu Tryz.call11 Z (heldCluster [o21,.int .i64 ((((Qo x a b).1).graph).workers),.int .i64 ((((Qo x a b).1).graph).cap),o22,o23,o24,o25] (K6 1 ((Qo x a b).1)) 1 _ (Cluster.mkR (K6 1 ((Qo x a b).1)) (RdD.any (OwC.rd1 ho6)) (RdD.any (OwC.rd2 ho6)) (RdD.any (OwC.rd3 ho6)) (RdD.any (OwC.rd4 ho6)) (RdD.any (OwC.rd5 ho6))) (Au _ _) (by rw [Bx];omega)) Z (fun _ w22 e17 hv=>?_)))))))))))
  subst hv
  replace E:=E.trans e17;replace h1:=h1.ext e17;replace ho1:=ho1.ext e17;replace hd6:=hd6.ext e17;replace hd7:=hd7.ext e17;replace hd8:=hd8.ext e17;replace hd9:=hd9.ext e17;replace hd10:=hd10.ext e17;replace h2:=h2.ext e17;replace ho4:=ho4.ext e17;replace h3:=h3.ext e17;replace ho6:=ho6.ext e17;replace h4:=h4.ext e17;replace ho7:=ho7.ext e17
  have z21:=e17.size
  refine Qa (Qf Z) Z (Qc (Qe (Qe (Qg [true,true] Z Z (Qa (Qd Z) Z (Qa (Yf Z Z) Z (Qc (Yn Z (by first | (simp;done) | (simp only [Qp] <;> simp) | (simp only [Qi,Qp] <;> simp) | (simp only [Qi] <;> simp)) (Qm (Qe (Qe (Qg [true,true,true] Z Z (Qa (Qd Z) Z (Qa (Qd Z) Z (Qa (Yo Z Z) Z (Qc (Yn Z (by rw [Bl];simp) (Qm (Qe (Qg [true,false,true,true,false,true,true,true,false,false,true] Z Z (Qa (Qy st30 Z h1.at Z) Z (Qu Tryz.call7 Z (c_toCluster [o1,.int .i64 x.graph.workers,.int .i64 x.graph.cap,o2,o3,o4,o5] x _ (Cluster.mkR x (RdD.any (hd1.ext E)) (RdD.any (hd2.ext E)) (RdD.any (hd3.ext E)) (RdD.any (hd4.ext E)) (RdD.any (hd5.ext E))) (by first | omega | (simp only [Qi];omega) | (rw [Qi];done) | (simp only [Qi];done))) Z (fun _ w23 e18 ho8=>?_)))))))))))))))))))))))
  obtain ⟨o31,o32,o33,o34,o35,rfl,ho8⟩:=ho8
  have g_ho8 : w.heap.size ≤ w22.heap.size:=E.size
  replace E:=E.trans e18;replace h1:=h1.ext e18;replace ho1:=ho1.ext e18;replace hd6:=hd6.ext e18;replace hd7:=hd7.ext e18;replace hd8:=hd8.ext e18;replace hd9:=hd9.ext e18;replace hd10:=hd10.ext e18;replace h2:=h2.ext e18;replace ho4:=ho4.ext e18;replace h3:=h3.ext e18;replace ho6:=ho6.ext e18;replace h4:=h4.ext e18;replace ho7:=ho7.ext e18
  have z22:=e18.size
  refine Qa (Qd Z) Z (Qa (Qd Z) Z (Qu Tryz.call8 Z (c_PickTake [o31,.int .i64 x.graph.workers,.int .i64 x.graph.cap,o32,o33,o34,o35] x a b _ (Cluster.mkR x (RdD.any (OwC.rd1 ho8)) (RdD.any (OwC.rd2 ho8)) (RdD.any (OwC.rd3 ho8)) (RdD.any (OwC.rd4 ho8)) (RdD.any (OwC.rd5 ho8))) (by omega) (fun l hl=>(kx.2.2.1 l hl).2.2.2.2.2)) Z (fun _ w24 e19 ho9=>?_)))
  obtain ⟨o36,o37,o38,o39,o40,rfl,ho10⟩:=ho9
  have g_ho9 : w.heap.size ≤ w23.heap.size:=E.size
  replace E:=E.trans e19;replace h1:=h1.ext e19;replace ho1:=ho1.ext e19;replace hd6:=hd6.ext e19;replace hd7:=hd7.ext e19;replace hd8:=hd8.ext e19;replace hd9:=hd9.ext e19;replace hd10:=hd10.ext e19;replace h2:=h2.ext e19;replace ho4:=ho4.ext e19;replace h3:=h3.ext e19;replace ho6:=ho6.ext e19;replace h4:=h4.ext e19;replace ho7:=ho7.ext e19;replace ho8:=ho8.ext e19
  have z23:=e19.size
  refine Qa (Qd Z) Z (Qa (Kx Z Z) Z (Qa (Kx Z Z) Z (Yj Xt Z (fun b5 w25 e20 s5 h5=>?_))))
  have g_b5 : w.heap.size ≤ b5:=by have:=E.size;omega
  have y_b5:=h5.lt
  replace E:=E.trans e20;replace h1:=h1.ext e20;replace ho1:=ho1.ext e20;replace hd6:=hd6.ext e20;replace hd7:=hd7.ext e20;replace hd8:=hd8.ext e20;replace hd9:=hd9.ext e20;replace hd10:=hd10.ext e20;replace h2:=h2.ext e20;replace ho4:=ho4.ext e20;replace h3:=h3.ext e20;replace ho6:=ho6.ext e20;replace h4:=h4.ext e20;replace ho7:=ho7.ext e20;replace ho8:=ho8.ext e20;replace ho10:=ho10.ext e20
  have z24:=e20.size
  refine Q6 (cs':=[o36,.int .i64 ((((Qo x a b).1).graph).workers),.int .i64 ((((Qo x a b).1).graph).cap),o37,o38,o39,o40]) Xt Z Z Z (Qj (RdD.one (OwC.rd1 ho10)) (Qj Z (Qj Z (Qj (RdD.one (OwC.rd2 ho10)) (Qj (RdD.one (OwC.rd3 ho10)) (Qj (RdD.one (OwC.rd4 ho10)) (Qj (RdD.one (OwC.rd5 ho10)) Z))))))) h5 (Nat.le_of_ble_eq_true Z) Z (fun w26 m4 h5'=>?_)
  replace h5:=h5'
  replace E:=E.step m4 (fun g hg=>by cases hg;omega);replace h1:=h1.mod m4 (fun g hg=>by cases hg;omega);replace ho1:=ho1.mod m4 (fun g hg=>by cases hg;omega);replace hd6:=hd6.mod m4 (fun g hg=>by cases hg;omega);replace hd7:=hd7.mod m4 (fun g hg=>by cases hg;omega);replace hd8:=hd8.mod m4 (fun g hg=>by cases hg;omega);replace hd9:=hd9.mod m4 (fun g hg=>by cases hg;omega);replace hd10:=hd10.mod m4 (fun g hg=>by cases hg;omega);replace h2:=h2.mod m4 (fun g hg=>by cases hg;omega);replace ho4:=ho4.mod m4 (fun g hg=>by cases hg;omega);replace h3:=h3.mod m4 (fun g hg=>by cases hg;omega);replace ho6:=ho6.mod m4 (fun g hg=>by cases hg;omega);replace h4:=h4.mod m4 (fun g hg=>by cases hg;omega);replace ho7:=ho7.mod m4 (fun g hg=>by cases hg;omega);replace ho8:=ho8.mod m4 (fun g hg=>by cases hg;omega);replace ho10:=ho10.mod m4 (fun g hg=>by cases hg;omega)
  have z25:=m4.size
  refine Qa (Qf Z) Z (Qc (Qe (Qe (Qg [true,true,false,true,true,true,true,true,true] Z Z (Qa (Qy Xt Z h5.at Z) Z (Qa (Qy Xt Z h2.at Z) Z (Qu Tryz.call9 Z (c_eqCluster [o36,.int .i64 ((((Qo x a b).1).graph).workers),.int .i64 ((((Qo x a b).1).graph).cap),o37,o38,o39,o40] ((Qo x a b).1) [o11,.int .i64 ((((Qo x a b).1).graph).workers),.int .i64 ((((Qo x a b).1).graph).cap),o12,o13,o14,o15] ((Qo x a b).1) _ (Cluster.mkR ((Qo x a b).1) (RdD.any (OwC.rd1 ho10)) (RdD.any (OwC.rd2 ho10)) (RdD.any (OwC.rd3 ho10)) (RdD.any (OwC.rd4 ho10)) (RdD.any (OwC.rd5 ho10))) (Cluster.mkR ((Qo x a b).1) (RdD.any hd6) (RdD.any hd7) (RdD.any hd8) (RdD.any hd9) (RdD.any hd10))) Z (fun _ w27 e21 hv=>?_))))))))
  subst hv
  replace E:=E.trans e21;replace h1:=h1.ext e21;replace ho1:=ho1.ext e21;replace hd6:=hd6.ext e21;replace hd7:=hd7.ext e21;replace hd8:=hd8.ext e21;replace hd9:=hd9.ext e21;replace hd10:=hd10.ext e21;replace h2:=h2.ext e21;replace ho4:=ho4.ext e21;replace h3:=h3.ext e21;replace ho6:=ho6.ext e21;replace h4:=h4.ext e21;replace ho7:=ho7.ext e21;replace ho8:=ho8.ext e21;replace ho10:=ho10.ext e21;replace h5:=h5.ext e21
  have z26:=e21.size
  refine Qa (Yt Z) Z (Qa (Qd Z) Z (Xd 4 [(0,.agg [o1,.int .i64 x.graph.workers,.int .i64 x.graph.cap,o2,o3,o4,o5].toArray),(1,.int .i64 a),(2,.int .i64 b),(3,.pointer (some ⟨b1,0,none⟩)),(6,.bool false),(7,.int .i64 (Uc (Ya x) 1048576)),(8,.pointer (some ⟨b2,0,none⟩)),(9,.bool ((Qo x a b).2)),(10,.pointer (some ⟨b3,0,none⟩)),(11,.pointer (some ⟨b4,0,none⟩)),(12,.bool ((Qo x a b).2)),(13,.int .i64 ((Uy 1 x : Nat) : Int)),(14,.int .i64 ((Uy 1 ((Qo x a b).1) : Nat) : Int)),(15,.int .i64 ((Uy 1 (K6 1 ((Qo x a b).1)) : Nat) : Int)),(16,.pointer (some ⟨b5,0,none⟩)),(17,.bool ((Qo x a b).2)),(18,.agg [o1,.int .i64 x.graph.workers,.int .i64 x.graph.cap,o2,o3,o4,o5].toArray),(19,.int .i64 1048576),(20,.int .i64 (Uc (Ya x) 1048576)),(21,.int .i64 (Uc (Ya x) 1048576)),(22,.bool (decide ((Uc (Ya x) 1048576) < 0))),(23,.tuple [.agg [o11,.int .i64 ((((Qo x a b).1).graph).workers),.int .i64 ((((Qo x a b).1).graph).cap),o12,o13,o14,o15].toArray,.bool ((Qo x a b).2)].toArray),(24,.agg [o1,.int .i64 x.graph.workers,.int .i64 x.graph.cap,o2,o3,o4,o5].toArray),(25,.agg [o6,.int .i64 x.graph.workers,.int .i64 x.graph.cap,o7,o8,o9,o10].toArray),(26,.int .i64 a),(27,.int .i64 b),(28,.tuple [.agg [o11,.int .i64 ((((Qo x a b).1).graph).workers),.int .i64 ((((Qo x a b).1).graph).cap),o12,o13,o14,o15].toArray,.bool ((Qo x a b).2)].toArray),(29,.agg [o11,.int .i64 ((((Qo x a b).1).graph).workers),.int .i64 ((((Qo x a b).1).graph).cap),o12,o13,o14,o15].toArray),(30,.bool ((Qo x a b).2)),(31,.agg [o1,.int .i64 x.graph.workers,.int .i64 x.graph.cap,o2,o3,o4,o5].toArray),(32,.agg [o16,.int .i64 x.graph.workers,.int .i64 x.graph.cap,o17,o18,o19,o20].toArray),(33,.tuple [.agg [o21,.int .i64 ((((Qo x a b).1).graph).workers),.int .i64 ((((Qo x a b).1).graph).cap),o22,o23,o24,o25].toArray,.bool ((Qo x a b).2)].toArray),(34,.agg [o16,.int .i64 x.graph.workers,.int .i64 x.graph.cap,o17,o18,o19,o20].toArray),(35,.int .i64 a),(36,.int .i64 b),(37,.tuple [.agg [o21,.int .i64 ((((Qo x a b).1).graph).workers),.int .i64 ((((Qo x a b).1).graph).cap),o22,o23,o24,o25].toArray,.bool ((Qo x a b).2)].toArray),(38,.agg [o21,.int .i64 ((((Qo x a b).1).graph).workers),.int .i64 ((((Qo x a b).1).graph).cap),o22,o23,o24,o25].toArray),(39,.bool ((Qo x a b).2)),(48,.bool ((!(decide ((Qo x a b).1 = ((Qo x a b).1)))) || (!(((Qo x a b).2) == ((Qo x a b).2))))),(49,.agg [o16,.int .i64 x.graph.workers,.int .i64 x.graph.cap,o17,o18,o19,o20].toArray),(50,.agg [o1,.int .i64 x.graph.workers,.int .i64 x.graph.cap,o2,o3,o4,o5].toArray),(51,.agg [o26,.int .i64 x.graph.workers,.int .i64 x.graph.cap,o27,o28,o29,o30].toArray),(52,.bool (decide (x = x))),(53,.bool (!(decide (x = x)))),(54,.agg [o16,.int .i64 x.graph.workers,.int .i64 x.graph.cap,o17,o18,o19,o20].toArray),(55,.int .i64 1),(56,.int .i64 ((Uy 1 x : Nat) : Int)),(69,.bool (((decide (((Uy 1 x : Nat) : Int) < 0)) || (!(decide ((Qo x a b).1 = ((Qo x a b).1))))) || (!(((Qo x a b).2) == ((Qo x a b).2))))),(70,.agg [o21,.int .i64 ((((Qo x a b).1).graph).workers),.int .i64 ((((Qo x a b).1).graph).cap),o22,o23,o24,o25].toArray),(71,.int .i64 1),(72,.int .i64 ((Uy 1 ((Qo x a b).1) : Nat) : Int)),(73,.agg [o21,.int .i64 ((((Qo x a b).1).graph).workers),.int .i64 ((((Qo x a b).1).graph).cap),o22,o23,o24,o25].toArray),(74,.int .i64 1),(75,.int .i64 ((Uy 1 (K6 1 ((Qo x a b).1)) : Nat) : Int)),(76,.int .i64 ((Uy 1 (K6 1 ((Qo x a b).1)) : Nat) : Int)),(77,.bool (decide (((Uy 1 (K6 1 ((Qo x a b).1)) : Nat) : Int) < 0))),(78,.int .i64 ((Uy 1 (K6 1 ((Qo x a b).1)) : Nat) : Int)),(79,.int .i64 ((Uy 1 ((Qo x a b).1) : Nat) : Int)),(80,.bool (((Uy 1 (K6 1 ((Qo x a b).1)) : Nat) : Int) != ((Uy 1 ((Qo x a b).1) : Nat) : Int))),(81,.tuple [.agg [o36,.int .i64 ((((Qo x a b).1).graph).workers),.int .i64 ((((Qo x a b).1).graph).cap),o37,o38,o39,o40].toArray,.bool ((Qo x a b).2)].toArray),(82,.agg [o1,.int .i64 x.graph.workers,.int .i64 x.graph.cap,o2,o3,o4,o5].toArray),(83,.agg [o31,.int .i64 x.graph.workers,.int .i64 x.graph.cap,o32,o33,o34,o35].toArray),(84,.int .i64 a),(85,.int .i64 b),(86,.tuple [.agg [o36,.int .i64 ((((Qo x a b).1).graph).workers),.int .i64 ((((Qo x a b).1).graph).cap),o37,o38,o39,o40].toArray,.bool ((Qo x a b).2)].toArray),(87,.agg [o36,.int .i64 ((((Qo x a b).1).graph).workers),.int .i64 ((((Qo x a b).1).graph).cap),o37,o38,o39,o40].toArray),(88,.bool ((Qo x a b).2)),(97,.bool ((!(decide ((Qo x a b).1 = ((Qo x a b).1)))) || (!(((Qo x a b).2) == ((Qo x a b).2)))))] (fun w'=>w27 = w') ?_ ?_))
  ·refine Y1 (gd:=93) Z Z (fun hg4=>?_) (fun hg4=>?_)
   ·exact absurd hg4 (by first | (simp;done) | (simp only [Qp] <;> simp) | (simp only [Qi,Qp] <;> simp) | (simp only [Qi] <;> simp))
   ·refine Qn Z Z (Qd Z) Z (Qn Z Z (Qd Z) Z (Qn Z Z (Uz (Tryz.underlying4) Z Z) Z (Qa (Q1 Z Z) Z (Qq ⟨Z,Z,Z,Z,Z,Z,Z,Z,Z,Z,Z,Z,Z,Z,Z,Z,Z,Z,Z,Z,Z,Z,Z,Z,Z,Z,Z,Z,Z,Z,Z,Z,Z,Z,Z,Z,Z,Z,Z,Z,Z,Z,Z,Z,Z,Z,Z,Z,Z,Z,Z,Z,Z,Z,Z,Z,Z,Z,Z,Z,Z,Z,Z,Z,Z,Z,Z,congrArg (fun b=>some (Value.bool b)) (show (!(((Qo x a b).2) == ((Qo x a b).2))) = ((!(decide ((Qo x a b).1 = ((Qo x a b).1)))) || (!(((Qo x a b).2) == ((Qo x a b).2)))) by first | (rw [hg4] <;> rfl) | (simp [hg4];done) | (simp only [Qp] <;> simp)),trivial⟩ Z))))
  rintro _ rfl
  refine Qc (Yn Z (by first | (simp;done) | (simp only [Qp] <;> simp) | (simp only [Qi,Qp] <;> simp) | (simp only [Qi] <;> simp)) (Qm (Qe (Qg [true] Z Z (Qa (Qf Z) Z (Qc (Qe (Qg [true,true,false,true] Z Z (Qa (Qy Xt Z h4.at Z) Z (Qa (Qd Z) Z (Qu Tryz.call11 Z (heldCluster [o21,.int .i64 ((((Qo x a b).1).graph).workers),.int .i64 ((((Qo x a b).1).graph).cap),o22,o23,o24,o25] (K6 1 ((Qo x a b).1)) 1 _ (Cluster.mkR (K6 1 ((Qo x a b).1)) (RdD.any (OwC.rd1 ho6)) (RdD.any (OwC.rd2 ho6)) (RdD.any (OwC.rd3 ho6)) (RdD.any (OwC.rd4 ho6)) (RdD.any (OwC.rd5 ho6))) (Au _ _) (by rw [Bx];omega)) Z (fun _ w29 e22 hv=>?_))))))))))))
  subst hv
  replace E:=E.trans e22;replace h1:=h1.ext e22;replace ho1:=ho1.ext e22;replace hd6:=hd6.ext e22;replace hd7:=hd7.ext e22;replace hd8:=hd8.ext e22;replace hd9:=hd9.ext e22;replace hd10:=hd10.ext e22;replace h2:=h2.ext e22;replace ho4:=ho4.ext e22;replace h3:=h3.ext e22;replace ho6:=ho6.ext e22;replace h4:=h4.ext e22;replace ho7:=ho7.ext e22;replace ho8:=ho8.ext e22;replace ho10:=ho10.ext e22;replace h5:=h5.ext e22
  have z27:=e22.size
  refine Qa (Qf Z) Z (Qc (Qe (Qe (Qg [true,true] Z Z (Qa (Qd Z) Z (Qa (Yf Z Z) Z (Qc (Yn Z (by first | (simp;done) | (simp only [Qp] <;> simp) | (simp only [Qi,Qp] <;> simp) | (simp only [Qi] <;> simp)) (Qm (Qe (Qe (Qg [true,true,true] Z Z (Qa (Qd Z) Z (Qa (Qd Z) Z (Qa (Yo Z Z) Z (Qc (Yn Z (by rw [Bl];simp) (Qm (Qe (Qg [true] Z Z (Qa (Qf Z) Z (Qc (Qt (Ql Z Z E ?_))))))))))))))))))))))))
  rfl

end Go.Proofs.YtjpoipdddpmeiaaGreat
