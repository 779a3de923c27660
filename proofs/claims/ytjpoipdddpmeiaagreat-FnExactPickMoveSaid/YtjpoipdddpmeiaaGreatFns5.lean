/- What the functions that the laws call come to: a contract each; no condition. -/
import Derived.Test.YtjpoipdddpmeiaaGreatFns4
namespace Go.Proofs.YtjpoipdddpmeiaaGreat
open Go Go.Proofs.YtjpoipdddpmeiaaGreat.X Go.Proofs
set_option maxHeartbeats 4000000 in
set_option maxRecDepth 20000 in
theorem c_copyCluster (cx : List Value) (x : Cluster) (w : World) (hx : Dat.R w 0 w.heap.size cx x) (hb : Yb x ≤ 1048576) : Ct Tryz.prog 26 [.agg cx.toArray] w (fun v w'=>∃ o1 o2 o3 o4 o5,v = .agg [o1,.int .i64 x.graph.workers,.int .i64 x.graph.cap,o2,o3,o4,o5].toArray ∧ OwC w' w.heap.size w'.heap.size o1 o2 o3 o4 o5 x):=by
 have hb2:=hb
 unfold Yb at hb2
 refine Ym Tryz.func26 Z Tryz.ntmps26 Z ?_
 obtain ⟨o1,o2,o3,o4,o5,rfl,hd1,hd2,hd3,hd4,hd5⟩:=Cluster.op hx
 refine Q8 [(0,.agg [o1,.int .i64 x.graph.workers,.int .i64 x.graph.cap,o2,o3,o4,o5].toArray)] ⟨Z,trivial⟩ ?_
 have E : Ext w w:=Ext.refl w
 refine Qe (Qh [false,false] Z Z (Y1 Z Z (fun b1 w1 e1 s1 h1=>?_)))
 have g_b1 : w.heap.size ≤ b1:=by have:=E.size;omega
 have y_b1:=h1.lt
 replace E:=E.trans e1
 have z1:=e1.size
 refine Yo Xw Z (fun b2 w2 e2 s2 h2=>?_)
 have g_b2 : w.heap.size ≤ b2:=by have:=E.size;omega
 have y_b2:=h2.lt
 replace E:=E.trans e2;replace h1:=h1.ext e2
 have z2:=e2.size
 refine Qc (Qe (S_regF Xs [] 10 3 [] [(0,true),(1,true),(3,true),(4,true),(6,true),(7,true)] [(2,false),(5,false),(8,false),(9,true)] [(11,false)] (fun b=>.pointer (some ⟨b,0,none⟩)) (z:=[.slice none 0 0,.int .i64 0,.int .i64 0,.slice none 0 0,.slice none 0 0,.slice none 0 0,.slice none 0 0]) (by decide +kernel) Z Z Z Z Z Z Z [(0,.agg [o1,.int .i64 x.graph.workers,.int .i64 x.graph.cap,o2,o3,o4,o5].toArray),(1,.pointer (some ⟨b1,0,none⟩)),(2,.pointer (some ⟨b2,0,none⟩)),(8,.pointer (some ⟨b1,0,none⟩)),(9,.agg [o1,.int .i64 x.graph.workers,.int .i64 x.graph.cap].toArray),(11,.pointer (some ⟨b1,5,none⟩)),(12,o4),(14,.pointer (some ⟨b1,6,none⟩)),(15,o5)] [] Z trivial (fun w'=>Ext w w' ∧ w2.heap.size ≤ w'.heap.size ∧ Blk w' b1 ([o1,.int .i64 x.graph.workers,.int .i64 x.graph.cap,o2,o3,o4,o5]) ∧ Blk w' b2 [.slice none 0 0,.int .i64 0,.int .i64 0,.slice none 0 0,.slice none 0 0,.slice none 0 0,.slice none 0 0]) (T7 Xw) (fun w3 e3=>?_) (fun w3 hphi_w3=>?_)))
 ·replace E:=E.trans e3;replace h1:=h1.ext e3;replace h2:=h2.ext e3
  have z3:=e3.size
  refine Qa (Qb Ue Z) Z (Qa (Qy Uq Z (h1.part 0 [o1,.int .i64 x.graph.workers,.int .i64 x.graph.cap] Z) Z) Z (Qa (Qb Ve Z) Z (Qa (Qk Co Z (h1.one 5 Z)) Z (Qa (Qb G6 Z) Z (Qa (Qk Bn Z (h1.one 6 Z)) Z (Qr ⟨Z,Z,Z,Z,Z,Z,Z,Z,Z,trivial⟩ ⟨E,(by omega),h1,h2⟩))))))
 clear E h1 h2
 obtain ⟨E,z4,h1,h2⟩:=hphi_w3
 refine JI_un Z (fun w4 e4=>?_) Z
 replace E:=E.trans e4;replace h1:=h1.ext e4;replace h2:=h2.ext e4
 have z5:=e4.size
 refine Qw Tryz.call66 Z (c_copyGraph [o1,.int .i64 x.graph.workers,.int .i64 x.graph.cap] x.graph _ (Graph.mkR x.graph (RdD.any (hd1.ext E))) (by omega)) Z (fun _ w5 e5 ho1=>?_)
 obtain ⟨o6,rfl,ho1⟩:=ho1
 have g_ho1 : w.heap.size ≤ w4.heap.size:=E.size
 replace E:=E.trans e5;replace h1:=h1.ext e5;replace h2:=h2.ext e5
 have z6:=e5.size
 refine Da ?_
 refine JI_un Z (fun w6 e6=>?_) Z
 replace E:=E.trans e6;replace h1:=h1.ext e6;replace h2:=h2.ext e6;replace ho1:=ho1.ext e6
 have z7:=e6.size
 refine Vu Gz Z Z (Own.nil w6 w6.heap.size w6.heap.size 5) ⟨_,_,Z⟩ (RdS.src (hd4.rd.ext E)) (Xp _) (by simp only [Yz,List.length_nil];simp only [Enc.sz];omega) (by decide) (by omega) (by omega) Z (fun v1 w7 e7 ho2 hb_ho2=>?_)
 replace E:=E.trans e7;replace h1:=h1.ext e7;replace h2:=h2.ext e7;replace ho1:=ho1.ext e7
 have z8:=e7.size
 have g_ho2 : w.heap.size ≤ w6.heap.size:=by have:=E.size;omega
 replace ho2 : Own w7 w6.heap.size w7.heap.size 5 v1 (List.flatMap (Enc.enc (α:=Token)) x.tokens):=ho2
 refine Da ?_
 refine JI_un Z (fun w8 e8=>?_) Z
 replace E:=E.trans e8;replace h1:=h1.ext e8;replace h2:=h2.ext e8;replace ho1:=ho1.ext e8;replace ho2:=ho2.ext e8
 have z9:=e8.size
 refine Vu Cn Z Z (Own.nil w8 w8.heap.size w8.heap.size 3) ⟨_,_,Z⟩ (RdS.src (hd5.rd.ext E)) (Xp _) (by simp only [Yz,List.length_nil];simp only [Enc.sz];omega) (by decide) (by omega) (by omega) Z (fun v2 w9 e9 ho3 hb_ho3=>?_)
 replace E:=E.trans e9;replace h1:=h1.ext e9;replace h2:=h2.ext e9;replace ho1:=ho1.ext e9;replace ho2:=ho2.ext e9
 have z10:=e9.size
 have g_ho3 : w.heap.size ≤ w8.heap.size:=by have:=E.size;omega
 replace ho3 : Own w9 w8.heap.size w9.heap.size 3 v2 (List.flatMap (Enc.enc (α:=News)) x.news):=ho3
 refine Da ?_
 refine JI_seg 1 Z ?_
 have hbl1 : ∀ w,(Instr.build 40 ([(0,.agg [o6,.int .i64 x.graph.workers,.int .i64 x.graph.cap].toArray),(3,v1),(4,v2)]).toArray).run Tryz.prog w = .ok (.agg [o6,.int .i64 x.graph.workers,.int .i64 x.graph.cap,.slice none 0 0,.slice none 0 0,v1,v2].toArray) w:=by clear E;obtain ⟨_,_,_,rfl⟩:=SlLen.shape ho1.rd.len;obtain ⟨_,_,_,rfl⟩:=Own.shape ho2;obtain ⟨_,_,_,rfl⟩:=Own.shape ho3;intro w;kernel_rfl
 refine Qa (G9 [o6,.int .i64 x.graph.workers,.int .i64 x.graph.cap,.slice none 0 0,.slice none 0 0,v1,v2] Z hbl1) Z (JI_go (JI_end Z (fun b3 w10 e10 g1 y1 h3 hI1=>?_)))
 have hI1_0 : b3 < w4.heap.size ∨ w5.heap.size ≤ b3:=hI1 (_,_) (by simp)
 have hI1_1 : b3 < w6.heap.size ∨ w7.heap.size ≤ b3:=hI1 (_,_) (by simp)
 have hI1_2 : b3 < w8.heap.size ∨ w9.heap.size ≤ b3:=hI1 (_,_) (by simp)
 replace E:=E.trans e10;replace h1:=h1.ext e10;replace h2:=h2.ext e10;replace ho1:=ho1.ext e10;replace ho2:=ho2.ext e10;replace ho3:=ho3.ext e10
 have z11:=e10.size
 have g_b3 : w.heap.size ≤ b3:=by have:=E.size;omega
 have y_b3:=h3.lt
 refine J2_sub [(0,.agg [o1,.int .i64 x.graph.workers,.int .i64 x.graph.cap,o2,o3,o4,o5].toArray),(1,.pointer (some ⟨b1,0,none⟩)),(2,.pointer (some ⟨b2,0,none⟩)),(3,.pointer (some ⟨b3,0,none⟩)),(8,.pointer (some ⟨b1,0,none⟩)),(9,.agg [o1,.int .i64 x.graph.workers,.int .i64 x.graph.cap].toArray),(10,.agg [o6,.int .i64 x.graph.workers,.int .i64 x.graph.cap].toArray),(11,.pointer (some ⟨b1,5,none⟩)),(12,o4),(13,v1),(14,.pointer (some ⟨b1,6,none⟩)),(15,o5),(16,v2),(17,.agg [o6,.int .i64 x.graph.workers,.int .i64 x.graph.cap,.slice none 0 0,.slice none 0 0,v1,v2].toArray)] ⟨Z,Z,Z,Z,Z,Z,Z,Z,Z,Z,Z,Z,Z,Z,trivial⟩ ?_
 refine J2_of Z ?_
 refine Q4 (cs':=[o6,.int .i64 x.graph.workers,.int .i64 x.graph.cap,.slice none 0 0,.slice none 0 0,v1,v2]) Xw Z Z Z (Qj (RdD.one (OwS.rd ho1)) (Qj Z (Qj Z (Qj Z (Qj Z (Qj ho2.one (Qj ho3.one Z))))))) h3 (Nat.le_of_ble_eq_true Z) Z (fun w11 m1 h3'=>?_)
 replace h3:=h3'
 replace E:=E.step m1 (fun g hg=>by cases hg;omega);replace h1:=h1.mod m1 (fun g hg=>by cases hg;omega);replace h2:=h2.mod m1 (fun g hg=>by cases hg;omega);replace ho1:=ho1.mod m1 (fun g hg=>by cases hg;omega);replace ho2:=ho2.mod m1 (fun g hg=>by cases hg;omega);replace ho3:=ho3.mod m1 (fun g hg=>by cases hg;omega)
 have z12:=m1.size
 refine Qc (Qe (Qe (Qh [true,true,true,true] Z Z (Qa (Qb Xn Z) Z (Qa (Qk Uy Z (h1.one 3 Z)) Z (Qa (Yc Tryz.underlying35 Z (hd2.ext E).len) Z (Qa (Qd Z) Z (Qc (Q0 (Yp (fun (xq : Nat × Value)=>let ⟨k3,vo3⟩:=xq;[(1,.pointer (some ⟨b1,0,none⟩)),(2,.pointer (some ⟨b2,0,none⟩)),(3,.pointer (some ⟨b3,0,none⟩)),(19,o2),(20,.int .i64 ((x.workers.length : Nat) : Int)),(21,.int .i64 ((k3 : Nat) : Int))]) (fun (xq : Nat × Value) w'=>let ⟨k3,vo3⟩:=xq;Ext w w' ∧ w11.heap.size ≤ w'.heap.size ∧ Blk w' b1 ([o1,.int .i64 x.graph.workers,.int .i64 x.graph.cap,o2,o3,o4,o5]) ∧ Blk w' b2 [.slice none 0 0,.int .i64 0,.int .i64 0,.slice none 0 0,.slice none 0 0,.slice none 0 0,.slice none 0 0] ∧ OwS w' w4.heap.size w5.heap.size o6 x.graph.nodes ∧ Own w' w6.heap.size w7.heap.size 5 v1 (List.flatMap (Enc.enc (α:=Token)) x.tokens) ∧ Own w' w8.heap.size w9.heap.size 3 v2 (List.flatMap (Enc.enc (α:=News)) x.news) ∧ k3 ≤ x.workers.length ∧ OwS w' w11.heap.size w'.heap.size vo3 (x.workers.take k3) ∧ Blk w' b3 [o6,.int .i64 x.graph.workers,.int .i64 x.graph.cap,vo3,.slice none 0 0,v1,v2]) (fun (xq : Nat × Value)=>let ⟨k3,vo3⟩:=xq;x.workers.length - k3) (0,.slice none 0 0) ⟨Z,Z,Z,Z,Z,Z,trivial⟩ ⟨E,Nat.le_refl _,h1,h2,ho1,ho2,ho3,Nat.zero_le _,(OwS.nil _ _ _),h3⟩ ?_))))))))))
 clear E h1 h2 ho1 ho2 ho3 h3
 rintro ⟨k3,vo3⟩ w12 ⟨E,z13,h1,h2,ho1,ho2,ho3,hk3,hoC3,h3⟩
 refine Q8 [(1,.pointer (some ⟨b1,0,none⟩)),(2,.pointer (some ⟨b2,0,none⟩)),(3,.pointer (some ⟨b3,0,none⟩)),(19,o2),(20,.int .i64 ((x.workers.length : Nat) : Int)),(21,.int .i64 ((k3 : Nat) : Int))] ⟨Z,Z,Z,Z,Z,Z,trivial⟩ ?_
 refine Qe (Qh [true] Z Z (Qa (Yi Z Z) Z (Qc (Qe (Qt Z (fun hc1=>?_) (fun hc1=>?_))))))
 ·have hc1n : k3 < x.workers.length:=by first | (have h:=of_decide_eq_true hc1;omega) | (have h:=hc1;simp at h;omega)
  refine Qo (Qe (Q0 (Qe (Qh [true,true,false,false] Z Z ?_))))
  have hi1 : k3 < x.workers.length:=(by first | assumption | omega | (simp only [List.length_set];first | assumption | omega) | (simp only [List.getElem_set_self,List.length_set];first | assumption | omega) | (simp only [Yn,Yh,List.length_set];first | assumption | omega))
  obtain ⟨_,hr1,ha1⟩:=RdD.get hd2 hi1
  obtain ⟨o7,o8,o9,o10,o11,o12,o13,o14,rfl,hd6,hd7,hd8,hd9,hd10,hd11,hd12,hd13⟩:=Worker.op hr1
  replace ha1 : At w (Y6 o2) (Y8 o2 + k3 * 8) [o7,o8,o9,o10,o11,o12,o13,o14]:=ha1
  refine Qa (Qz (i:=k3) K5 Z Z (hd2.ext E).1 hi1) Z (Qa (Qy X8 Z (ha1.ext E) Z) Z (Yo X8 Z (fun b4 w13 e11 s3 h4=>?_)))
  have g_b4 : w.heap.size ≤ b4:=by have:=E.size;omega
  have y_b4:=h4.lt
  replace E:=E.trans e11;replace h1:=h1.ext e11;replace h2:=h2.ext e11;replace ho1:=ho1.ext e11;replace ho2:=ho2.ext e11;replace ho3:=ho3.ext e11;replace hoC3:=hoC3.ext e11;replace h3:=h3.ext e11
  have z14:=e11.size
  refine Q4 (cs':=[o7,o8,o9,o10,o11,o12,o13,o14]) X8 Z Z Z (Qj (RdD.one (hd6.ext E)) (Qj (RdD.one (hd7.ext E)) (Qj (RdD.one (hd8.ext E)) (Qj (RdD.one (hd9.ext E)) (Qj (RdD.one (hd10.ext E)) (Qj (RdD.one (hd11.ext E)) (Qj (RdD.one (hd12.ext E)) (Qj (RdD.one (hd13.ext E)) Z)))))))) h4 (Nat.le_of_ble_eq_true Z) Z (fun w14 m2 h4'=>?_)
  replace h4:=h4'
  replace E:=E.step m2 (fun g hg=>by cases hg;omega);replace h1:=h1.mod m2 (fun g hg=>by cases hg;omega);replace h2:=h2.mod m2 (fun g hg=>by cases hg;omega);replace ho1:=ho1.mod m2 (fun g hg=>by cases hg;omega);replace ho2:=ho2.mod m2 (fun g hg=>by cases hg;omega);replace ho3:=ho3.mod m2 (fun g hg=>by cases hg;omega);replace hoC3:=hoC3.mod m2 (fun g hg=>by cases hg;omega);replace h3:=h3.mod m2 (fun g hg=>by cases hg;omega)
  have z15:=m2.size
  refine Qc (C7 Xs [5] [(0,true),(1,true),(2,true),(3,false),(4,false)] [(5,false),(6,true),(7,false)] (by decide +kernel) Z Z (fun w15 e12=>?_))
  replace E:=E.trans e12;replace h1:=h1.ext e12;replace h2:=h2.ext e12;replace ho1:=ho1.ext e12;replace ho2:=ho2.ext e12;replace ho3:=ho3.ext e12;replace hoC3:=hoC3.ext e12;replace h3:=h3.ext e12;replace h4:=h4.ext e12
  have z16:=e12.size
  refine Qa (Qb Xn Z) Z (Qa (Qk Uy Z (h3.one 3 Z)) Z (Qa (Qy X8 Z h4.at Z) Z (Qw Tryz.call67 Z (c_copyWorker [o7,o8,o9,o10,o11,o12,o13,o14] (x.workers[k3]'hi1) _ (Worker.mkR (x.workers[k3]'hi1) (RdD.any (hd6.ext E)) (RdD.any (hd7.ext E)) (RdD.any (hd8.ext E)) (RdD.any (hd9.ext E)) (RdD.any (hd10.ext E)) (RdD.any (hd11.ext E)) (RdD.any (hd12.ext E)) (RdD.any (hd13.ext E))) (by have:=V3 (f:=Q7) (show k3 < x.workers.length by omega);unfold X0 at hb2;omega)) Z (fun _ w16 e13 ho4=>?_))))
  obtain ⟨_,rfl,ho4⟩:=ho4
  have g_ho4 : w.heap.size ≤ w15.heap.size:=E.size
  replace E:=E.trans e13;replace h1:=h1.ext e13;replace h2:=h2.ext e13;replace ho1:=ho1.ext e13;replace ho2:=ho2.ext e13;replace ho3:=ho3.ext e13;replace hoC3:=hoC3.ext e13;replace h3:=h3.ext e13;replace h4:=h4.ext e13
  have z17:=e13.size
  obtain ⟨o15,o16,o17,o18,o19,o20,o21,o22,rfl,sp1,hw1,hw2,hw3,hw4,hw5,hw6,hw7,hw8⟩:=Worker.opO ho4
  refine Y7 (vs:=[.agg [o15,o16,o17,o18,o19,o20,o21,o22].toArray]) (css:=[[o15,o16,o17,o18,o19,o20,o21,o22]]) K5 Z Z ⟨⟨Z,Z⟩,trivial⟩ Z Z (fun b5 w17 e14 s4 h5=>?_)
  replace h5 : Blk w17 b5 [o15,o16,o17,o18,o19,o20,o21,o22]:=h5
  have g_b5 : w.heap.size ≤ b5:=by have:=E.size;omega
  have y_b5:=h5.lt
  replace E:=E.trans e14;replace h1:=h1.ext e14;replace h2:=h2.ext e14;replace ho1:=ho1.ext e14;replace ho2:=ho2.ext e14;replace ho3:=ho3.ext e14;replace hoC3:=hoC3.ext e14;replace h3:=h3.ext e14;replace h4:=h4.ext e14;replace hw1:=hw1.ext e14;replace hw2:=hw2.ext e14;replace hw3:=hw3.ext e14;replace hw4:=hw4.ext e14;replace hw5:=hw5.ext e14;replace hw6:=hw6.ext e14;replace hw7:=hw7.ext e14;replace hw8:=hw8.ext e14
  have z18:=e14.size
  refine To ?_
  refine J2_X Z ?_
  refine Vt (lo:=w11.heap.size) (hi:=w12.heap.size) (lo2:=w15.heap.size) (hi2:=w17.heap.size) K5 Z Z hoC3 (Src.ofBlk h5 Z) (Worker.mkO (x.workers[k3]'hi1) sp1 (Own.widen hw1 (by omega) (by omega)) (Own.widen hw2 (by omega) (by omega)) (Own.widen hw3 (by omega) (by omega)) (Own.widen hw4 (by omega) (by omega)) (Own.widen hw5 (by omega) (by omega)) (Own.widen hw6 (by omega) (by omega)) (Own.widen hw7 (by omega) (by omega)) (Own.widen hw8 (by omega) (by omega))) (by omega) (by simp only [List.length_take,show Dat.sz Worker = 8 from Z,show Dat.sz Link = 6 from Z];unfold X0 at hb2;omega) (by decide) (by omega) (by omega) (by omega) (by omega) (by omega) Z Z (fun v3 w18 m3 ho5=>?_)
  have hqb:=OwS.inn hoC3
  replace E:=E.step m3 (fun g hg=>by have:=hqb g hg;omega);replace h1:=h1.mod m3 (fun g hg=>by have:=hqb g hg;omega);replace h2:=h2.mod m3 (fun g hg=>by have:=hqb g hg;omega);replace ho1:=ho1.mod m3 (fun g hg=>by have:=hqb g hg;omega);replace ho2:=ho2.mod m3 (fun g hg=>by have:=hqb g hg;omega);replace ho3:=ho3.mod m3 (fun g hg=>by have:=hqb g hg;omega);replace h3:=h3.mod m3 (fun g hg=>by have:=hqb g hg;omega);replace h4:=h4.mod m3 (fun g hg=>by have:=hqb g hg;omega)
  have z19:=m3.size
  clear hqb
  refine B9 ?_
  refine Qa (Qb Xn Z) Z (Yj (cs':=[o6,.int .i64 x.graph.workers,.int .i64 x.graph.cap,v3,.slice none 0 0,v1,v2]) Uy Z Z (RdD.one (OwS.rd ho5)) h3 (Nat.le_of_ble_eq_true Z) Z (fun w19 m4 h3'=>?_))
  replace h3:=h3'
  replace E:=E.step m4 (fun g hg=>by cases hg;omega);replace h1:=h1.mod m4 (fun g hg=>by cases hg;omega);replace h2:=h2.mod m4 (fun g hg=>by cases hg;omega);replace ho1:=ho1.mod m4 (fun g hg=>by cases hg;omega);replace ho2:=ho2.mod m4 (fun g hg=>by cases hg;omega);replace ho3:=ho3.mod m4 (fun g hg=>by cases hg;omega);replace h4:=h4.mod m4 (fun g hg=>by cases hg;omega);replace ho5:=ho5.mod m4 (fun g hg=>by cases hg;omega)
  have z20:=m4.size
  refine Qc (Q6 (Y0 (Qh [true,true] Z Z (Qa (Ye Z Z (Y3 hc1n (hd2.ext E).1.1)) Z (Qa (Qd Z) Z (Qc (Q6 (Yk (k3 + 1,v3) (by simp;omega) ⟨Z,Z,Z,Z,Z,Z,trivial⟩ ⟨E,(by omega),h1,h2,ho1,ho2,ho3,(by omega),(by rw [List.take_succ_eq_append_getElem (by assumption)];exact OwS.widen ho5 (by omega) (by omega)),h3⟩))))))))
 ·have hc1n : ¬ k3 < x.workers.length:=by first | (have h:=of_decide_eq_false hc1;omega) | (have h:=hc1;simp at h;omega)
  refine Yq (Q5 (Q3 ?_))
  refine Qe (Qe (Qh [true,true,true,true] Z Z (Qa (Qb Ko Z) Z (Qa (Qk Gh Z (h1.one 4 Z)) Z (Qa (Yc Tryz.underlying36 Z (hd3.ext E).len) Z (Qa (Qd Z) Z (Qc (Q0 (Yp (fun (xq : Nat × Value)=>let ⟨k4,vo4⟩:=xq;[(2,.pointer (some ⟨b2,0,none⟩)),(3,.pointer (some ⟨b3,0,none⟩)),(34,o3),(35,.int .i64 ((x.links.length : Nat) : Int)),(36,.int .i64 ((k4 : Nat) : Int))]) (fun (xq : Nat × Value) w'=>let ⟨k4,vo4⟩:=xq;Ext w w' ∧ w12.heap.size ≤ w'.heap.size ∧ Blk w' b1 ([o1,.int .i64 x.graph.workers,.int .i64 x.graph.cap,o2,o3,o4,o5]) ∧ Blk w' b2 [.slice none 0 0,.int .i64 0,.int .i64 0,.slice none 0 0,.slice none 0 0,.slice none 0 0,.slice none 0 0] ∧ OwS w' w4.heap.size w5.heap.size o6 x.graph.nodes ∧ Own w' w6.heap.size w7.heap.size 5 v1 (List.flatMap (Enc.enc (α:=Token)) x.tokens) ∧ Own w' w8.heap.size w9.heap.size 3 v2 (List.flatMap (Enc.enc (α:=News)) x.news) ∧ OwS w' w11.heap.size w12.heap.size vo3 (x.workers.take k3) ∧ k4 ≤ x.links.length ∧ OwS w' w12.heap.size w'.heap.size vo4 (x.links.take k4) ∧ Blk w' b3 [o6,.int .i64 x.graph.workers,.int .i64 x.graph.cap,vo3,vo4,v1,v2]) (fun (xq : Nat × Value)=>let ⟨k4,vo4⟩:=xq;x.links.length - k4) (0,.slice none 0 0) ⟨Z,Z,Z,Z,Z,trivial⟩ ⟨E,Nat.le_refl _,h1,h2,ho1,ho2,ho3,hoC3,Nat.zero_le _,(OwS.nil _ _ _),h3⟩ ?_)))))))))
  clear E h1 h2 ho1 ho2 ho3 hoC3 h3
  rintro ⟨k4,vo4⟩ w20 ⟨E,z21,h1,h2,ho1,ho2,ho3,hoC3,hk4,hoC4,h3⟩
  refine Q8 [(2,.pointer (some ⟨b2,0,none⟩)),(3,.pointer (some ⟨b3,0,none⟩)),(34,o3),(35,.int .i64 ((x.links.length : Nat) : Int)),(36,.int .i64 ((k4 : Nat) : Int))] ⟨Z,Z,Z,Z,Z,trivial⟩ ?_
  refine Qe (Qh [true] Z Z (Qa (Yi Z Z) Z (Qc (Qe (Qt Z (fun hc2=>?_) (fun hc2=>?_))))))
  ·have hc2n : k4 < x.links.length:=by first | (have h:=of_decide_eq_true hc2;omega) | (have h:=hc2;simp at h;omega)
   refine Qo (Qe (Q0 (Qe (Qh [true,true,false,false] Z Z ?_))))
   have hi2 : k4 < x.links.length:=(by first | assumption | omega | (simp only [List.length_set];first | assumption | omega) | (simp only [List.getElem_set_self,List.length_set];first | assumption | omega) | (simp only [Yn,Yh,List.length_set];first | assumption | omega))
   obtain ⟨_,hr2,ha2⟩:=RdD.get hd3 hi2
   obtain ⟨o23,rfl,hd14⟩:=Link.op hr2
   replace ha2 : At w (Y6 o3) (Y8 o3 + k4 * 6) [.int .i64 ((x.links[k4]'hi2).cap),o23,.int .i64 ((x.links[k4]'hi2).credits),.int .i64 ((x.links[k4]'hi2).back),.int .i64 ((x.links[k4]'hi2).sent),.int .i64 ((x.links[k4]'hi2).got)]:=ha2
   refine Qa (Qz (i:=k4) Vl Z Z (hd3.ext E).1 hi2) Z (Qa (Qy X4 Z (ha2.ext E) Z) Z (Yo X4 Z (fun b6 w21 e15 s5 h6=>?_)))
   have g_b6 : w.heap.size ≤ b6:=by have:=E.size;omega
   have y_b6:=h6.lt
   replace E:=E.trans e15;replace h1:=h1.ext e15;replace h2:=h2.ext e15;replace ho1:=ho1.ext e15;replace ho2:=ho2.ext e15;replace ho3:=ho3.ext e15;replace hoC3:=hoC3.ext e15;replace hoC4:=hoC4.ext e15;replace h3:=h3.ext e15
   have z22:=e15.size
   refine Q4 (cs':=[.int .i64 ((x.links[k4]'hi2).cap),o23,.int .i64 ((x.links[k4]'hi2).credits),.int .i64 ((x.links[k4]'hi2).back),.int .i64 ((x.links[k4]'hi2).sent),.int .i64 ((x.links[k4]'hi2).got)]) X4 Z Z Z (Qj Z (Qj (RdD.one (hd14.ext E)) (Qj Z (Qj Z (Qj Z (Qj Z Z)))))) h6 (Nat.le_of_ble_eq_true Z) Z (fun w22 m5 h6'=>?_)
   replace h6:=h6'
   replace E:=E.step m5 (fun g hg=>by cases hg;omega);replace h1:=h1.mod m5 (fun g hg=>by cases hg;omega);replace h2:=h2.mod m5 (fun g hg=>by cases hg;omega);replace ho1:=ho1.mod m5 (fun g hg=>by cases hg;omega);replace ho2:=ho2.mod m5 (fun g hg=>by cases hg;omega);replace ho3:=ho3.mod m5 (fun g hg=>by cases hg;omega);replace hoC3:=hoC3.mod m5 (fun g hg=>by cases hg;omega);replace hoC4:=hoC4.mod m5 (fun g hg=>by cases hg;omega);replace h3:=h3.mod m5 (fun g hg=>by cases hg;omega)
   have z23:=m5.size
   refine Qc (C7 Xs [5] [(0,true),(1,true),(2,true),(3,false),(4,false)] [(5,false),(6,true),(7,false)] (by decide +kernel) Z Z (fun w23 e16=>?_))
   replace E:=E.trans e16;replace h1:=h1.ext e16;replace h2:=h2.ext e16;replace ho1:=ho1.ext e16;replace ho2:=ho2.ext e16;replace ho3:=ho3.ext e16;replace hoC3:=hoC3.ext e16;replace hoC4:=hoC4.ext e16;replace h3:=h3.ext e16;replace h6:=h6.ext e16
   have z24:=e16.size
   refine Qa (Qb Ko Z) Z (Qa (Qk Gh Z (h3.one 4 Z)) Z (Qa (Qy X4 Z h6.at Z) Z (Qw Tryz.call68 Z (c_copyLink [.int .i64 ((x.links[k4]'hi2).cap),o23,.int .i64 ((x.links[k4]'hi2).credits),.int .i64 ((x.links[k4]'hi2).back),.int .i64 ((x.links[k4]'hi2).sent),.int .i64 ((x.links[k4]'hi2).got)] (x.links[k4]'hi2) _ (Link.mkR (x.links[k4]'hi2) (RdD.any (hd14.ext E))) (by have:=V3 (f:=Y5) (show k4 < x.links.length by omega);unfold X0 at hb2;omega)) Z (fun _ w24 e17 ho6=>?_))))
   obtain ⟨_,rfl,ho6⟩:=ho6
   have g_ho6 : w.heap.size ≤ w23.heap.size:=E.size
   replace E:=E.trans e17;replace h1:=h1.ext e17;replace h2:=h2.ext e17;replace ho1:=ho1.ext e17;replace ho2:=ho2.ext e17;replace ho3:=ho3.ext e17;replace hoC3:=hoC3.ext e17;replace hoC4:=hoC4.ext e17;replace h3:=h3.ext e17;replace h6:=h6.ext e17
   have z25:=e17.size
   obtain ⟨o24,rfl,sp2,hw9⟩:=Link.opO ho6
   refine Y7 (vs:=[.agg [.int .i64 ((x.links[k4]'hi2).cap),o24,.int .i64 ((x.links[k4]'hi2).credits),.int .i64 ((x.links[k4]'hi2).back),.int .i64 ((x.links[k4]'hi2).sent),.int .i64 ((x.links[k4]'hi2).got)].toArray]) (css:=[[.int .i64 ((x.links[k4]'hi2).cap),o24,.int .i64 ((x.links[k4]'hi2).credits),.int .i64 ((x.links[k4]'hi2).back),.int .i64 ((x.links[k4]'hi2).sent),.int .i64 ((x.links[k4]'hi2).got)]]) Vl Z Z ⟨⟨Z,Z⟩,trivial⟩ Z Z (fun b7 w25 e18 s6 h7=>?_)
   replace h7 : Blk w25 b7 [.int .i64 ((x.links[k4]'hi2).cap),o24,.int .i64 ((x.links[k4]'hi2).credits),.int .i64 ((x.links[k4]'hi2).back),.int .i64 ((x.links[k4]'hi2).sent),.int .i64 ((x.links[k4]'hi2).got)]:=h7
   have g_b7 : w.heap.size ≤ b7:=by have:=E.size;omega
   have y_b7:=h7.lt
   replace E:=E.trans e18;replace h1:=h1.ext e18;replace h2:=h2.ext e18;replace ho1:=ho1.ext e18;replace ho2:=ho2.ext e18;replace ho3:=ho3.ext e18;replace hoC3:=hoC3.ext e18;replace hoC4:=hoC4.ext e18;replace h3:=h3.ext e18;replace h6:=h6.ext e18;replace hw9:=hw9.ext e18
   have z26:=e18.size
   refine To ?_
   refine J2_X Z ?_
   refine Vt (lo:=w12.heap.size) (hi:=w20.heap.size) (lo2:=w23.heap.size) (hi2:=w25.heap.size) Vl Z Z hoC4 (Src.ofBlk h7 Z) (Link.mkO (x.links[k4]'hi2) sp2 (Own.widen hw9 (by omega) (by omega))) (by omega) (by simp only [List.length_take,show Dat.sz Worker = 8 from Z,show Dat.sz Link = 6 from Z];unfold X0 at hb2;omega) (by decide) (by omega) (by omega) (by omega) (by omega) (by omega) Z Z (fun v4 w26 m6 ho7=>?_)
   have hqb:=OwS.inn hoC4
   replace E:=E.step m6 (fun g hg=>by have:=hqb g hg;omega);replace h1:=h1.mod m6 (fun g hg=>by have:=hqb g hg;omega);replace h2:=h2.mod m6 (fun g hg=>by have:=hqb g hg;omega);replace ho1:=ho1.mod m6 (fun g hg=>by have:=hqb g hg;omega);replace ho2:=ho2.mod m6 (fun g hg=>by have:=hqb g hg;omega);replace ho3:=ho3.mod m6 (fun g hg=>by have:=hqb g hg;omega);replace hoC3:=hoC3.mod m6 (fun g hg=>by have:=hqb g hg;omega);replace h3:=h3.mod m6 (fun g hg=>by have:=hqb g hg;omega);replace h6:=h6.mod m6 (fun g hg=>by have:=hqb g hg;omega)
   have z27:=m6.size
   clear hqb
   refine B9 ?_
   refine Qa (Qb Ko Z) Z (Yj (cs':=[o6,.int .i64 x.graph.workers,.int .i64 x.graph.cap,vo3,v4,v1,v2]) Gh Z Z (RdD.one (OwS.rd ho7)) h3 (Nat.le_of_ble_eq_true Z) Z (fun w27 m7 h3'=>?_))
   replace h3:=h3'
   replace E:=E.step m7 (fun g hg=>by cases hg;omega);replace h1:=h1.mod m7 (fun g hg=>by cases hg;omega);replace h2:=h2.mod m7 (fun g hg=>by cases hg;omega);replace ho1:=ho1.mod m7 (fun g hg=>by cases hg;omega);replace ho2:=ho2.mod m7 (fun g hg=>by cases hg;omega);replace ho3:=ho3.mod m7 (fun g hg=>by cases hg;omega);replace hoC3:=hoC3.mod m7 (fun g hg=>by cases hg;omega);replace h6:=h6.mod m7 (fun g hg=>by cases hg;omega);replace ho7:=ho7.mod m7 (fun g hg=>by cases hg;omega)
   have z28:=m7.size
   refine Qc (Q6 (Y0 (Qh [true,true] Z Z (Qa (Ye Z Z (Y3 hc2n (hd3.ext E).1.1)) Z (Qa (Qd Z) Z (Qc (Q6 (Yk (k4 + 1,v4) (by simp;omega) ⟨Z,Z,Z,Z,Z,trivial⟩ ⟨E,(by omega),h1,h2,ho1,ho2,ho3,hoC3,(by omega),(by rw [List.take_succ_eq_append_getElem (by assumption)];exact OwS.widen ho7 (by omega) (by omega)),h3⟩))))))))
  ·have hc2n : ¬ k4 < x.links.length:=by first | (have h:=of_decide_eq_false hc2;omega) | (have h:=hc2;simp at h;omega)
   refine Yq (Q5 (Q3 ?_))
   refine Qe (Qh [true,false] Z Z (Qa (Qy Xw Z h3.at Z) Z (Q4 (cs':=[o6,.int .i64 x.graph.workers,.int .i64 x.graph.cap,vo3,vo4,v1,v2]) Xw Z Z Z (Qj (RdD.one (OwS.rd ho1)) (Qj Z (Qj Z (Qj (RdD.one (OwS.rd hoC3)) (Qj (RdD.one (OwS.rd hoC4)) (Qj ho2.one (Qj ho3.one Z))))))) h2 (Nat.le_of_ble_eq_true Z) Z (fun w28 m8 h2'=>?_))))
   replace h2:=h2'
   replace E:=E.step m8 (fun g hg=>by cases hg;omega);replace h1:=h1.mod m8 (fun g hg=>by cases hg;omega);replace ho1:=ho1.mod m8 (fun g hg=>by cases hg;omega);replace ho2:=ho2.mod m8 (fun g hg=>by cases hg;omega);replace ho3:=ho3.mod m8 (fun g hg=>by cases hg;omega);replace hoC3:=hoC3.mod m8 (fun g hg=>by cases hg;omega);replace hoC4:=hoC4.mod m8 (fun g hg=>by cases hg;omega);replace h3:=h3.mod m8 (fun g hg=>by cases hg;omega)
   have z29:=m8.size
   refine Qc (Qv (X3 Z Z (Yd Xw h2.at Z) E ?_))
   rw [List.take_of_length_le (by omega)] at hoC3 hoC4
   exact ⟨_,_,_,_,_,Z,OwC.of x ho1 hoC3 hoC4 ho2 ho3 (by have:=E.size;omega) (by omega)⟩

set_option maxHeartbeats 4000000 in
set_option maxRecDepth 20000 in
theorem s_l14Copy (cx : List Value) (x : Cluster) (w : World) (hx : Dat.R w 0 w.heap.size cx x) (hb : Yb x ≤ 1048576) : Ct Tryz.prog 56 [.agg cx.toArray] w (fun v w'=>∃ o1 o2 o3 o4 o5,v = .agg [o1,.int .i64 x.graph.workers,.int .i64 x.graph.cap,o2,o3,o4,o5].toArray ∧ OwC w' w.heap.size w'.heap.size o1 o2 o3 o4 o5 x):=by
 have hb2:=hb
 unfold Yb at hb2
 refine Ym Tryz.func56 Z Tryz.ntmps56 Z ?_
 obtain ⟨o1,o2,o3,o4,o5,rfl,hd1,hd2,hd3,hd4,hd5⟩:=Cluster.op hx
 refine Q8 [(0,.agg [o1,.int .i64 x.graph.workers,.int .i64 x.graph.cap,o2,o3,o4,o5].toArray)] ⟨Z,trivial⟩ ?_
 have E : Ext w w:=Ext.refl w
 refine Qe (Qh [false,false] Z Z (Y1 Z Z (fun b1 w1 e1 s1 h1=>?_)))
 have g_b1 : w.heap.size ≤ b1:=by have:=E.size;omega
 have y_b1:=h1.lt
 replace E:=E.trans e1
 have z1:=e1.size
 refine Yo Xw Z (fun b2 w2 e2 s2 h2=>?_)
 have g_b2 : w.heap.size ≤ b2:=by have:=E.size;omega
 have y_b2:=h2.lt
 replace E:=E.trans e2;replace h1:=h1.ext e2
 have z2:=e2.size
 refine Qc (Qe (S_regQ Xs [(0,true),(1,true),(4,true),(5,true),(8,true),(9,true)] [⟨2,8,0,[],false,none,some (fun w0 w v f=>∃ o,v = .agg [o,.int .i64 x.graph.workers,.int .i64 x.graph.cap].toArray ∧ OwF w w0.heap.size w.heap.size o x.graph.nodes f)⟩,⟨3,9,5,[],true,none,none⟩,⟨6,12,5,List.flatMap (Enc.enc (α:=Token)) x.tokens,false,some (3,9),none⟩,⟨7,13,3,[],true,none,none⟩,⟨10,16,3,List.flatMap (Enc.enc (α:=News)) x.news,false,some (7,13),none⟩] ⟨12,3,0,[],false,none,some (fun _ w v f=>∃ b,v = .pointer (some ⟨b,0,none⟩) ∧ Blk w b [.slice none 0 0,.int .i64 0,.int .i64 0,.slice none 0 0,.slice none 0 0,.slice none 0 0,.slice none 0 0] ∧ f = [b])⟩ [(11,true),(13,false)] [(11,true),(12,false),(13,false)] (by kernel_rfl) (by kernel_rfl) Z Z Z [(0,.agg [o1,.int .i64 x.graph.workers,.int .i64 x.graph.cap,o2,o3,o4,o5].toArray),(1,.pointer (some ⟨b1,0,none⟩)),(2,.pointer (some ⟨b2,0,none⟩)),(6,.pointer (some ⟨b1,0,none⟩)),(7,.agg [o1,.int .i64 x.graph.workers,.int .i64 x.graph.cap].toArray),(10,.pointer (some ⟨b1,5,none⟩)),(11,o4),(14,.pointer (some ⟨b1,6,none⟩)),(15,o5)] (fun w'=>Ext w w' ∧ w2.heap.size ≤ w'.heap.size ∧ Blk w' b1 ([o1,.int .i64 x.graph.workers,.int .i64 x.graph.cap,o2,o3,o4,o5]) ∧ Blk w' b2 [.slice none 0 0,.int .i64 0,.int .i64 0,.slice none 0 0,.slice none 0 0,.slice none 0 0,.slice none 0 0]) (fun w3 e3=>?_) (fun w3 hphi_w3=>?_)))
 ·replace E:=E.trans e3;replace h1:=h1.ext e3;replace h2:=h2.ext e3
  have z3:=e3.size
  refine Qa (Qb Ue Z) Z (Qa (Qy Uq Z (h1.part 0 [o1,.int .i64 x.graph.workers,.int .i64 x.graph.cap] Z) Z) Z (Qa (Qb Ve Z) Z (Qa (Qk Co Z (h1.one 5 Z)) Z (Qa (Qb G6 Z) Z (Qa (Qk Bn Z (h1.one 6 Z)) Z (Qr ⟨Z,Z,Z,Z,Z,Z,Z,Z,Z,trivial⟩ ⟨E,(by omega),h1,h2⟩))))))
 clear E h1 h2
 obtain ⟨E,z4,h1,h2⟩:=hphi_w3
 refine ⟨⟨⟨_,Z,Z,Z,Z,?_⟩,⟨_,Z,Z,Z,Z,?_⟩,⟨_,Z,Z,Z,Z,?_⟩,⟨_,Z,Z,Z,Z,?_⟩,⟨_,Z,Z,Z,Z,?_⟩,⟨_,Z,Z,Z,Z,?_⟩,trivial⟩,?_,?_⟩
 ·exact step_callX Tryz.call99 rfl (fun wX eX=>by have E:=E.trans eX;exact Ct.mono (s_l08Copy [o1,.int .i64 x.graph.workers,.int .i64 x.graph.cap] x.graph _ (Graph.mkR x.graph (RdD.any (hd1.ext E))) (by omega)) fun v w' e h=>by obtain ⟨o,rfl,h⟩:=h;obtain ⟨f,h⟩:=OwS.owf h;exact ⟨f,⟨o,rfl,h.widen eX.size (Nat.le_refl _)⟩,h.in2⟩)
 ·exact Vg Gz
 ·exact Vh Gz Z (fun _ eX=>RdS.src (RdS.ext (hd4.rd.ext E) eX)) (Xp _) (by simp only [Yz,List.length_nil];simp only [Enc.sz];omega) (by decide)
 ·exact Vg Cn
 ·exact Vh Cn Z (fun _ eX=>RdS.src (RdS.ext (hd5.rd.ext E) eX)) (Xp _) (by simp only [Yz,List.length_nil];simp only [Enc.sz];omega) (by decide)
 ·exact step_box Xw
 ·intro w4 e4
  intro v1 f1 ho1 v2 f2 ho2 v3 f3 ho3 v4 f4 ho4 v5 f5 ho5 v6 f6 ho6 sp1
  obtain ⟨_,_,eX,⟨v1,rfl,ho1⟩,_⟩:=ho1;replace ho1:=OwF.widen (OwF.ext ho1 eX) (Nat.le_refl _) eX.size
  obtain ⟨ho2,rfl⟩:=ho2
  obtain ⟨ho3,rfl⟩:=ho3
  obtain ⟨ho4,rfl⟩:=ho4
  obtain ⟨ho5,rfl⟩:=ho5
  obtain ⟨_,_,eX,⟨v6,rfl,ho6,rfl⟩,f6b⟩:=ho6;replace ho6:=Blk.ext ho6 eX;replace f6b:=And.intro (f6b v6 (by simp)).1 ho6.lt;clear eX
  replace sp1 : DjL [f1,(Kc v3),(Kc v5),[v6]]:=sp1
  have g_sp1 : w.heap.size ≤ w3.heap.size:=E.size
  replace E:=E.trans e4;replace h1:=h1.ext e4;replace h2:=h2.ext e4
  have z5:=e4.size
  clear ho2
  replace ho3 : Own w4 w3.heap.size w4.heap.size 5 v3 (List.flatMap (Enc.enc (α:=Token)) x.tokens):=ho3
  clear ho4
  replace ho5 : Own w4 w3.heap.size w4.heap.size 3 v5 (List.flatMap (Enc.enc (α:=News)) x.news):=ho5
  have g_v6 : w.heap.size ≤ v6:=by have:=E.size;omega
  have y_v6:=ho6.lt
  refine J_sub [(0,.agg [o1,.int .i64 x.graph.workers,.int .i64 x.graph.cap,o2,o3,o4,o5].toArray),(1,.pointer (some ⟨b1,0,none⟩)),(2,.pointer (some ⟨b2,0,none⟩)),(3,.pointer (some ⟨v6,0,none⟩)),(6,.pointer (some ⟨b1,0,none⟩)),(7,.agg [o1,.int .i64 x.graph.workers,.int .i64 x.graph.cap].toArray),(8,.agg [v1,.int .i64 x.graph.workers,.int .i64 x.graph.cap].toArray),(10,.pointer (some ⟨b1,5,none⟩)),(11,o4),(12,v3),(14,.pointer (some ⟨b1,6,none⟩)),(15,o5),(16,v5)] ⟨Z,Z,Z,Z,Z,Z,Z,Z,Z,Z,Z,Z,Z,trivial⟩ ?_
  have hbl1 : ∀ w,(Instr.build 40 ([(0,.agg [v1,.int .i64 x.graph.workers,.int .i64 x.graph.cap].toArray),(3,v3),(4,v5)]).toArray).run Tryz.prog w = .ok (.agg [v1,.int .i64 x.graph.workers,.int .i64 x.graph.cap,.slice none 0 0,.slice none 0 0,v3,v5].toArray) w:=by clear E;obtain ⟨_,_,_,rfl⟩:=SlLen.shape (RdD.len (OwF.rd ho1));obtain ⟨_,_,_,rfl⟩:=Own.shape ho3;obtain ⟨_,_,_,rfl⟩:=Own.shape ho5;intro w;kernel_rfl
  refine Qa (G9 [v1,.int .i64 x.graph.workers,.int .i64 x.graph.cap,.slice none 0 0,.slice none 0 0,v3,v5] Z hbl1) Z (Q4 (cs':=[v1,.int .i64 x.graph.workers,.int .i64 x.graph.cap,.slice none 0 0,.slice none 0 0,v3,v5]) Xw Z Z Z (Qj (RdD.one (OwF.rd ho1)) (Qj Z (Qj Z (Qj Z (Qj Z (Qj ho3.one (Qj ho5.one Z))))))) ho6 (Nat.le_of_ble_eq_true Z) Z (fun w5 m1 ho6'=>?_))
  replace ho6:=ho6'
  have kq1:=Mod.kq (l:=[v6]) m1 (fun g hg=>by cases hg;simp)
  replace E:=E.step m1 (fun g hg=>by cases hg;omega);replace h1:=h1.mod m1 (fun g hg=>by cases hg;omega);replace h2:=h2.mod m1 (fun g hg=>by cases hg;omega);replace ho1:=OwF.kp ho1 (Kq.kp kq1 sp1.1.2.2.1);replace ho3:=Own.kp ho3 (Kq.kp kq1 sp1.2.1.2.1);replace ho5:=Own.kp ho5 (Kq.kp kq1 sp1.2.2.1.1)
  have z6:=m1.size
  refine Qc (Qe (Qe (Qh [true] Z Z (Qa (Qf Z) Z (Qc (Q0 (Yp (fun (xq : Nat × Value)=>let ⟨k3,vo3⟩:=xq;[(1,.pointer (some ⟨b1,0,none⟩)),(2,.pointer (some ⟨b2,0,none⟩)),(3,.pointer (some ⟨v6,0,none⟩)),(4,.int .i64 ((k3 : Nat) : Int))]) (fun (xq : Nat × Value) w'=>let ⟨k3,vo3⟩:=xq;Ext w w' ∧ w5.heap.size ≤ w'.heap.size ∧ Blk w' b1 ([o1,.int .i64 x.graph.workers,.int .i64 x.graph.cap,o2,o3,o4,o5]) ∧ Blk w' b2 [.slice none 0 0,.int .i64 0,.int .i64 0,.slice none 0 0,.slice none 0 0,.slice none 0 0,.slice none 0 0] ∧ OwF w' w3.heap.size w4.heap.size v1 x.graph.nodes f1 ∧ Own w' w3.heap.size w4.heap.size 5 v3 (List.flatMap (Enc.enc (α:=Token)) x.tokens) ∧ Own w' w3.heap.size w4.heap.size 3 v5 (List.flatMap (Enc.enc (α:=News)) x.news) ∧ k3 ≤ x.workers.length ∧ OwS w' w5.heap.size w'.heap.size vo3 (x.workers.take k3) ∧ Blk w' v6 [v1,.int .i64 x.graph.workers,.int .i64 x.graph.cap,vo3,.slice none 0 0,v3,v5]) (fun (xq : Nat × Value)=>let ⟨k3,vo3⟩:=xq;x.workers.length - k3) (0,.slice none 0 0) ⟨Z,Z,Z,Z,trivial⟩ ⟨E,Nat.le_refl _,h1,h2,ho1,ho3,ho5,Nat.zero_le _,(OwS.nil _ _ _),ho6⟩ ?_)))))))
  clear E h1 h2 ho1 ho3 ho5 ho6
  rintro ⟨k3,vo3⟩ w6 ⟨E,z7,h1,h2,ho1,ho3,ho5,hk3,hoC3,ho6⟩
  refine Q8 [(1,.pointer (some ⟨b1,0,none⟩)),(2,.pointer (some ⟨b2,0,none⟩)),(3,.pointer (some ⟨v6,0,none⟩)),(4,.int .i64 ((k3 : Nat) : Int))] ⟨Z,Z,Z,Z,trivial⟩ ?_
  refine Qe (Qe (Qh [true,true,true,true,true] Z Z (Qa (Qd Z) Z (Qa (Qb Xn Z) Z (Qa (Qk Uy Z (h1.one 3 Z)) Z (Qa (Yc Tryz.underlying35 Z (hd2.ext E).len) Z (Qa (Yi Z Z) Z (Qc (Qt Z (fun hc1=>?_) (fun hc1=>?_))))))))))
  ·have hc1n : k3 < x.workers.length:=by first | (have h:=of_decide_eq_true hc1;omega) | (have h:=hc1;simp at h;omega)
   refine Qo (Qe (Q0 (C7 Xs [9] [(0,true),(1,true),(2,true),(3,true),(4,true),(5,true),(6,true),(7,false),(8,false)] [(9,false),(10,true),(11,false)] (by decide +kernel) Z Z (fun w7 e5=>?_))))
   replace E:=E.trans e5;replace h1:=h1.ext e5;replace h2:=h2.ext e5;replace ho1:=ho1.ext e5;replace ho3:=ho3.ext e5;replace ho5:=ho5.ext e5;replace hoC3:=hoC3.ext e5;replace ho6:=ho6.ext e5
   have z8:=e5.size
   refine Qa (Qb Xn Z) Z (Qa (Qk Uy Z (ho6.one 3 Z)) Z (Qa (Qb Xn Z) Z (Qa (Qk Uy Z (h1.one 3 Z)) Z (Qa (Qd Z) Z ?_))))
   have hi1 : k3 < x.workers.length:=(by first | assumption | omega | (simp only [List.length_set];first | assumption | omega) | (simp only [List.getElem_set_self,List.length_set];first | assumption | omega) | (simp only [Yn,Yh,List.length_set];first | assumption | omega))
   obtain ⟨_,hr1,ha1⟩:=RdD.get hd2 hi1
   obtain ⟨o6,o7,o8,o9,o10,o11,o12,o13,rfl,hd6,hd7,hd8,hd9,hd10,hd11,hd12,hd13⟩:=Worker.op hr1
   replace ha1 : At w (Y6 o2) (Y8 o2 + k3 * 8) [o6,o7,o8,o9,o10,o11,o12,o13]:=ha1
   refine Qa (Qz (i:=k3) K5 Z Z (hd2.ext E).1 hi1) Z (Qa (Qy X8 Z (ha1.ext E) Z) Z (Qw Tryz.call100 Z (s_l12Copy [o6,o7,o8,o9,o10,o11,o12,o13] (x.workers[k3]'hi1) _ (Worker.mkR (x.workers[k3]'hi1) (RdD.any (hd6.ext E)) (RdD.any (hd7.ext E)) (RdD.any (hd8.ext E)) (RdD.any (hd9.ext E)) (RdD.any (hd10.ext E)) (RdD.any (hd11.ext E)) (RdD.any (hd12.ext E)) (RdD.any (hd13.ext E))) (by have:=V3 (f:=Q7) (show k3 < x.workers.length by omega);unfold X0 at hb2;omega)) Z (fun _ w8 e6 ho7=>?_)))
   obtain ⟨_,rfl,ho7⟩:=ho7
   have g_ho7 : w.heap.size ≤ w7.heap.size:=E.size
   replace E:=E.trans e6;replace h1:=h1.ext e6;replace h2:=h2.ext e6;replace ho1:=ho1.ext e6;replace ho3:=ho3.ext e6;replace ho5:=ho5.ext e6;replace hoC3:=hoC3.ext e6;replace ho6:=ho6.ext e6
   have z9:=e6.size
   obtain ⟨o14,o15,o16,o17,o18,o19,o20,o21,rfl,sp2,hw1,hw2,hw3,hw4,hw5,hw6,hw7,hw8⟩:=Worker.opO ho7
   refine Y7 (vs:=[.agg [o14,o15,o16,o17,o18,o19,o20,o21].toArray]) (css:=[[o14,o15,o16,o17,o18,o19,o20,o21]]) K5 Z Z ⟨⟨Z,Z⟩,trivial⟩ Z Z (fun b3 w9 e7 s3 h3=>?_)
   replace h3 : Blk w9 b3 [o14,o15,o16,o17,o18,o19,o20,o21]:=h3
   have g_b3 : w.heap.size ≤ b3:=by have:=E.size;omega
   have y_b3:=h3.lt
   replace E:=E.trans e7;replace h1:=h1.ext e7;replace h2:=h2.ext e7;replace ho1:=ho1.ext e7;replace ho3:=ho3.ext e7;replace ho5:=ho5.ext e7;replace hoC3:=hoC3.ext e7;replace ho6:=ho6.ext e7;replace hw1:=hw1.ext e7;replace hw2:=hw2.ext e7;replace hw3:=hw3.ext e7;replace hw4:=hw4.ext e7;replace hw5:=hw5.ext e7;replace hw6:=hw6.ext e7;replace hw7:=hw7.ext e7;replace hw8:=hw8.ext e7
   have z10:=e7.size
   refine To ?_
   refine J2_X Z ?_
   refine Vt (lo:=w5.heap.size) (hi:=w6.heap.size) (lo2:=w7.heap.size) (hi2:=w9.heap.size) K5 Z Z hoC3 (Src.ofBlk h3 Z) (Worker.mkO (x.workers[k3]'hi1) sp2 (Own.widen hw1 (by omega) (by omega)) (Own.widen hw2 (by omega) (by omega)) (Own.widen hw3 (by omega) (by omega)) (Own.widen hw4 (by omega) (by omega)) (Own.widen hw5 (by omega) (by omega)) (Own.widen hw6 (by omega) (by omega)) (Own.widen hw7 (by omega) (by omega)) (Own.widen hw8 (by omega) (by omega))) (by omega) (by simp only [List.length_take,show Dat.sz Worker = 8 from Z,show Dat.sz Link = 6 from Z];unfold X0 at hb2;omega) (by decide) (by omega) (by omega) (by omega) (by omega) (by omega) Z Z (fun v7 w10 m2 ho8=>?_)
   have hqb:=OwS.inn hoC3
   replace E:=E.step m2 (fun g hg=>by have:=hqb g hg;omega);replace h1:=h1.mod m2 (fun g hg=>by have:=hqb g hg;omega);replace h2:=h2.mod m2 (fun g hg=>by have:=hqb g hg;omega);replace ho1:=ho1.mod m2 (fun g hg=>by have:=hqb g hg;omega);replace ho3:=ho3.mod m2 (fun g hg=>by have:=hqb g hg;omega);replace ho5:=ho5.mod m2 (fun g hg=>by have:=hqb g hg;omega);replace ho6:=ho6.mod m2 (fun g hg=>by have:=hqb g hg;omega)
   have z11:=m2.size
   clear hqb
   refine B9 ?_
   refine Qa (Qb Xn Z) Z (Yj (cs':=[v1,.int .i64 x.graph.workers,.int .i64 x.graph.cap,v7,.slice none 0 0,v3,v5]) Uy Z Z (RdD.one (OwS.rd ho8)) ho6 (Nat.le_of_ble_eq_true Z) Z (fun w11 m3 ho6'=>?_))
   replace ho6:=ho6'
   have kq2:=Mod.kq (l:=[v6]) m3 (fun g hg=>by cases hg;simp)
   replace E:=E.step m3 (fun g hg=>by cases hg;omega);replace h1:=h1.mod m3 (fun g hg=>by cases hg;omega);replace h2:=h2.mod m3 (fun g hg=>by cases hg;omega);replace ho1:=OwF.kp ho1 (Kq.kp kq2 sp1.1.2.2.1);replace ho3:=Own.kp ho3 (Kq.kp kq2 sp1.2.1.2.1);replace ho5:=Own.kp ho5 (Kq.kp kq2 sp1.2.2.1.1);replace ho8:=ho8.mod m3 (fun g hg=>by cases hg;omega)
   have z12:=m3.size
   refine Qc (Q6 (Y0 (Qh [true,true,true] Z Z (Qa (Qd Z) Z (Qa (Ye Z Z (Y3 hc1n (hd2.ext E).1.1)) Z (Qa (Qf Z) Z (Qc (Q6 (Yk (k3 + 1,v7) (by simp;omega) ⟨Z,Z,Z,Z,trivial⟩ ⟨E,(by omega),h1,h2,ho1,ho3,ho5,(by omega),(by rw [List.take_succ_eq_append_getElem (by assumption)];exact OwS.widen ho8 (by omega) (by omega)),ho6⟩)))))))))
  ·have hc1n : ¬ k3 < x.workers.length:=by first | (have h:=of_decide_eq_false hc1;omega) | (have h:=hc1;simp at h;omega)
   refine Yq (Q5 (Q3 ?_))
   refine Qe (Qe (Qh [true] Z Z (Qa (Qf Z) Z (Qc (Q0 (Yp (fun (xq : Nat × Value)=>let ⟨k4,vo4⟩:=xq;[(1,.pointer (some ⟨b1,0,none⟩)),(2,.pointer (some ⟨b2,0,none⟩)),(3,.pointer (some ⟨v6,0,none⟩)),(5,.int .i64 ((k4 : Nat) : Int))]) (fun (xq : Nat × Value) w'=>let ⟨k4,vo4⟩:=xq;Ext w w' ∧ w6.heap.size ≤ w'.heap.size ∧ Blk w' b1 ([o1,.int .i64 x.graph.workers,.int .i64 x.graph.cap,o2,o3,o4,o5]) ∧ Blk w' b2 [.slice none 0 0,.int .i64 0,.int .i64 0,.slice none 0 0,.slice none 0 0,.slice none 0 0,.slice none 0 0] ∧ OwF w' w3.heap.size w4.heap.size v1 x.graph.nodes f1 ∧ Own w' w3.heap.size w4.heap.size 5 v3 (List.flatMap (Enc.enc (α:=Token)) x.tokens) ∧ Own w' w3.heap.size w4.heap.size 3 v5 (List.flatMap (Enc.enc (α:=News)) x.news) ∧ OwS w' w5.heap.size w6.heap.size vo3 (x.workers.take k3) ∧ k4 ≤ x.links.length ∧ OwS w' w6.heap.size w'.heap.size vo4 (x.links.take k4) ∧ Blk w' v6 [v1,.int .i64 x.graph.workers,.int .i64 x.graph.cap,vo3,vo4,v3,v5]) (fun (xq : Nat × Value)=>let ⟨k4,vo4⟩:=xq;x.links.length - k4) (0,.slice none 0 0) ⟨Z,Z,Z,Z,trivial⟩ ⟨E,Nat.le_refl _,h1,h2,ho1,ho3,ho5,hoC3,Nat.zero_le _,(OwS.nil _ _ _),ho6⟩ ?_))))))
   clear E h1 h2 ho1 ho3 ho5 hoC3 ho6
   rintro ⟨k4,vo4⟩ w12 ⟨E,z13,h1,h2,ho1,ho3,ho5,hoC3,hk4,hoC4,ho6⟩
   refine Q8 [(1,.pointer (some ⟨b1,0,none⟩)),(2,.pointer (some ⟨b2,0,none⟩)),(3,.pointer (some ⟨v6,0,none⟩)),(5,.int .i64 ((k4 : Nat) : Int))] ⟨Z,Z,Z,Z,trivial⟩ ?_
   refine Qe (Qe (Qh [true,true,true,true,true] Z Z (Qa (Qd Z) Z (Qa (Qb Ko Z) Z (Qa (Qk Gh Z (h1.one 4 Z)) Z (Qa (Yc Tryz.underlying36 Z (hd3.ext E).len) Z (Qa (Yi Z Z) Z (Qc (Qt Z (fun hc2=>?_) (fun hc2=>?_))))))))))
   ·have hc2n : k4 < x.links.length:=by first | (have h:=of_decide_eq_true hc2;omega) | (have h:=hc2;simp at h;omega)
    refine Qo (Qe (Q0 (C7 Xs [9] [(0,true),(1,true),(2,true),(3,true),(4,true),(5,true),(6,true),(7,false),(8,false)] [(9,false),(10,true),(11,false)] (by decide +kernel) Z Z (fun w13 e8=>?_))))
    replace E:=E.trans e8;replace h1:=h1.ext e8;replace h2:=h2.ext e8;replace ho1:=ho1.ext e8;replace ho3:=ho3.ext e8;replace ho5:=ho5.ext e8;replace hoC3:=hoC3.ext e8;replace hoC4:=hoC4.ext e8;replace ho6:=ho6.ext e8
    have z14:=e8.size
    refine Qa (Qb Ko Z) Z (Qa (Qk Gh Z (ho6.one 4 Z)) Z (Qa (Qb Ko Z) Z (Qa (Qk Gh Z (h1.one 4 Z)) Z (Qa (Qd Z) Z ?_))))
    have hi2 : k4 < x.links.length:=(by first | assumption | omega | (simp only [List.length_set];first | assumption | omega) | (simp only [List.getElem_set_self,List.length_set];first | assumption | omega) | (simp only [Yn,Yh,List.length_set];first | assumption | omega))
    obtain ⟨_,hr2,ha2⟩:=RdD.get hd3 hi2
    obtain ⟨o22,rfl,hd14⟩:=Link.op hr2
    replace ha2 : At w (Y6 o3) (Y8 o3 + k4 * 6) [.int .i64 ((x.links[k4]'hi2).cap),o22,.int .i64 ((x.links[k4]'hi2).credits),.int .i64 ((x.links[k4]'hi2).back),.int .i64 ((x.links[k4]'hi2).sent),.int .i64 ((x.links[k4]'hi2).got)]:=ha2
    refine Qa (Qz (i:=k4) Vl Z Z (hd3.ext E).1 hi2) Z (Qa (Qy X4 Z (ha2.ext E) Z) Z (Qw Tryz.call101 Z (s_l06Copy [.int .i64 ((x.links[k4]'hi2).cap),o22,.int .i64 ((x.links[k4]'hi2).credits),.int .i64 ((x.links[k4]'hi2).back),.int .i64 ((x.links[k4]'hi2).sent),.int .i64 ((x.links[k4]'hi2).got)] (x.links[k4]'hi2) _ (Link.mkR (x.links[k4]'hi2) (RdD.any (hd14.ext E))) (by have:=V3 (f:=Y5) (show k4 < x.links.length by omega);unfold X0 at hb2;omega)) Z (fun _ w14 e9 ho9=>?_)))
    obtain ⟨_,rfl,ho9⟩:=ho9
    have g_ho9 : w.heap.size ≤ w13.heap.size:=E.size
    replace E:=E.trans e9;replace h1:=h1.ext e9;replace h2:=h2.ext e9;replace ho1:=ho1.ext e9;replace ho3:=ho3.ext e9;replace ho5:=ho5.ext e9;replace hoC3:=hoC3.ext e9;replace hoC4:=hoC4.ext e9;replace ho6:=ho6.ext e9
    have z15:=e9.size
    obtain ⟨o23,rfl,sp3,hw9⟩:=Link.opO ho9
    refine Y7 (vs:=[.agg [.int .i64 ((x.links[k4]'hi2).cap),o23,.int .i64 ((x.links[k4]'hi2).credits),.int .i64 ((x.links[k4]'hi2).back),.int .i64 ((x.links[k4]'hi2).sent),.int .i64 ((x.links[k4]'hi2).got)].toArray]) (css:=[[.int .i64 ((x.links[k4]'hi2).cap),o23,.int .i64 ((x.links[k4]'hi2).credits),.int .i64 ((x.links[k4]'hi2).back),.int .i64 ((x.links[k4]'hi2).sent),.int .i64 ((x.links[k4]'hi2).got)]]) Vl Z Z ⟨⟨Z,Z⟩,trivial⟩ Z Z (fun b4 w15 e10 s4 h4=>?_)
    replace h4 : Blk w15 b4 [.int .i64 ((x.links[k4]'hi2).cap),o23,.int .i64 ((x.links[k4]'hi2).credits),.int .i64 ((x.links[k4]'hi2).back),.int .i64 ((x.links[k4]'hi2).sent),.int .i64 ((x.links[k4]'hi2).got)]:=h4
    have g_b4 : w.heap.size ≤ b4:=by have:=E.size;omega
    have y_b4:=h4.lt
    replace E:=E.trans e10;replace h1:=h1.ext e10;replace h2:=h2.ext e10;replace ho1:=ho1.ext e10;replace ho3:=ho3.ext e10;replace ho5:=ho5.ext e10;replace hoC3:=hoC3.ext e10;replace hoC4:=hoC4.ext e10;replace ho6:=ho6.ext e10;replace hw9:=hw9.ext e10
    have z16:=e10.size
    refine To ?_
    refine J2_X Z ?_
    refine Vt (lo:=w6.heap.size) (hi:=w12.heap.size) (lo2:=w13.heap.size) (hi2:=w15.heap.size) Vl Z Z hoC4 (Src.ofBlk h4 Z) (Link.mkO (x.links[k4]'hi2) sp3 (Own.widen hw9 (by omega) (by omega))) (by omega) (by simp only [List.length_take,show Dat.sz Worker = 8 from Z,show Dat.sz Link = 6 from Z];unfold X0 at hb2;omega) (by decide) (by omega) (by omega) (by omega) (by omega) (by omega) Z Z (fun v8 w16 m4 ho10=>?_)
    have hqb:=OwS.inn hoC4
    replace E:=E.step m4 (fun g hg=>by have:=hqb g hg;omega);replace h1:=h1.mod m4 (fun g hg=>by have:=hqb g hg;omega);replace h2:=h2.mod m4 (fun g hg=>by have:=hqb g hg;omega);replace ho1:=ho1.mod m4 (fun g hg=>by have:=hqb g hg;omega);replace ho3:=ho3.mod m4 (fun g hg=>by have:=hqb g hg;omega);replace ho5:=ho5.mod m4 (fun g hg=>by have:=hqb g hg;omega);replace hoC3:=hoC3.mod m4 (fun g hg=>by have:=hqb g hg;omega);replace ho6:=ho6.mod m4 (fun g hg=>by have:=hqb g hg;omega)
    have z17:=m4.size
    clear hqb
    refine B9 ?_
    refine Qa (Qb Ko Z) Z (Yj (cs':=[v1,.int .i64 x.graph.workers,.int .i64 x.graph.cap,vo3,v8,v3,v5]) Gh Z Z (RdD.one (OwS.rd ho10)) ho6 (Nat.le_of_ble_eq_true Z) Z (fun w17 m5 ho6'=>?_))
    replace ho6:=ho6'
    have kq3:=Mod.kq (l:=[v6]) m5 (fun g hg=>by cases hg;simp)
    replace E:=E.step m5 (fun g hg=>by cases hg;omega);replace h1:=h1.mod m5 (fun g hg=>by cases hg;omega);replace h2:=h2.mod m5 (fun g hg=>by cases hg;omega);replace ho1:=OwF.kp ho1 (Kq.kp kq3 sp1.1.2.2.1);replace ho3:=Own.kp ho3 (Kq.kp kq3 sp1.2.1.2.1);replace ho5:=Own.kp ho5 (Kq.kp kq3 sp1.2.2.1.1);replace hoC3:=hoC3.mod m5 (fun g hg=>by cases hg;omega);replace ho10:=ho10.mod m5 (fun g hg=>by cases hg;omega)
    have z18:=m5.size
    refine Qc (Q6 (Y0 (Qh [true,true,true] Z Z (Qa (Qd Z) Z (Qa (Ye Z Z (Y3 hc2n (hd3.ext E).1.1)) Z (Qa (Qf Z) Z (Qc (Q6 (Yk (k4 + 1,v8) (by simp;omega) ⟨Z,Z,Z,Z,trivial⟩ ⟨E,(by omega),h1,h2,ho1,ho3,ho5,hoC3,(by omega),(by rw [List.take_succ_eq_append_getElem (by assumption)];exact OwS.widen ho10 (by omega) (by omega)),ho6⟩)))))))))
   ·have hc2n : ¬ k4 < x.links.length:=by first | (have h:=of_decide_eq_false hc2;omega) | (have h:=hc2;simp at h;omega)
    refine Yq (Q5 (Q3 ?_))
    refine Qe (Qh [true,false] Z Z (Qa (Qy Xw Z ho6.at Z) Z (Q4 (cs':=[v1,.int .i64 x.graph.workers,.int .i64 x.graph.cap,vo3,vo4,v3,v5]) Xw Z Z Z (Qj (RdD.one (OwF.rd ho1)) (Qj Z (Qj Z (Qj (RdD.one (OwS.rd hoC3)) (Qj (RdD.one (OwS.rd hoC4)) (Qj ho3.one (Qj ho5.one Z))))))) h2 (Nat.le_of_ble_eq_true Z) Z (fun w18 m6 h2'=>?_))))
    replace h2:=h2'
    replace E:=E.step m6 (fun g hg=>by cases hg;omega);replace h1:=h1.mod m6 (fun g hg=>by cases hg;omega);replace ho1:=ho1.mod m6 (fun g hg=>by cases hg;omega);replace ho3:=ho3.mod m6 (fun g hg=>by cases hg;omega);replace ho5:=ho5.mod m6 (fun g hg=>by cases hg;omega);replace hoC3:=hoC3.mod m6 (fun g hg=>by cases hg;omega);replace hoC4:=hoC4.mod m6 (fun g hg=>by cases hg;omega);replace ho6:=ho6.mod m6 (fun g hg=>by cases hg;omega)
    have z19:=m6.size
    refine Qc (Qv (X3 Z Z (Yd Xw h2.at Z) E ?_))
    rw [List.take_of_length_le (by omega)] at hoC3 hoC4
    exact ⟨_,_,_,_,_,Z,OwC.of2 x ho1 hoC3 hoC4 ho3 ho5 ⟨⟨sp1.1.1,sp1.1.2.1,trivial⟩,⟨sp1.2.1.1,trivial⟩,trivial,trivial⟩ (by have:=E.size;omega) (by omega)⟩
 ·intro w19 e11
  intro v9 f7 ho11 v10 f8 ho12 v11 f9 ho13 v12 f10 ho14 v13 f11 ho15 sp4
  obtain ⟨_,_,eX,⟨v9,rfl,ho11⟩,_⟩:=ho11;replace ho11:=OwF.widen (OwF.ext ho11 eX) (Nat.le_refl _) eX.size
  obtain ⟨ho12,rfl⟩:=ho12
  obtain ⟨ho13,rfl⟩:=ho13
  obtain ⟨ho14,rfl⟩:=ho14
  obtain ⟨ho15,rfl⟩:=ho15
  replace sp4 : DjL [f7,(Kc v11),(Kc v13)]:=sp4
  have g_sp4 : w.heap.size ≤ w3.heap.size:=E.size
  replace E:=E.trans e11;replace h1:=h1.ext e11;replace h2:=h2.ext e11
  have z20:=e11.size
  clear ho12
  replace ho13 : Own w19 w3.heap.size w19.heap.size 5 v11 (List.flatMap (Enc.enc (α:=Token)) x.tokens):=ho13
  clear ho14
  replace ho15 : Own w19 w3.heap.size w19.heap.size 3 v13 (List.flatMap (Enc.enc (α:=News)) x.news):=ho15
  refine J_sub [(0,.agg [o1,.int .i64 x.graph.workers,.int .i64 x.graph.cap,o2,o3,o4,o5].toArray),(1,.pointer (some ⟨b1,0,none⟩)),(2,.pointer (some ⟨b2,0,none⟩)),(6,.pointer (some ⟨b1,0,none⟩)),(7,.agg [o1,.int .i64 x.graph.workers,.int .i64 x.graph.cap].toArray),(8,.agg [v9,.int .i64 x.graph.workers,.int .i64 x.graph.cap].toArray),(10,.pointer (some ⟨b1,5,none⟩)),(11,o4),(12,v11),(14,.pointer (some ⟨b1,6,none⟩)),(15,o5),(16,v13)] ⟨Z,Z,Z,Z,Z,Z,Z,Z,Z,Z,Z,Z,trivial⟩ ?_
  have hbl2 : ∀ w,(Instr.build 40 ([(0,.agg [v9,.int .i64 x.graph.workers,.int .i64 x.graph.cap].toArray),(3,v11),(4,v13)]).toArray).run Tryz.prog w = .ok (.agg [v9,.int .i64 x.graph.workers,.int .i64 x.graph.cap,.slice none 0 0,.slice none 0 0,v11,v13].toArray) w:=by clear E;obtain ⟨_,_,_,rfl⟩:=SlLen.shape (RdD.len (OwF.rd ho11));obtain ⟨_,_,_,rfl⟩:=Own.shape ho13;obtain ⟨_,_,_,rfl⟩:=Own.shape ho15;intro w;kernel_rfl
  refine Qa (G9 [v9,.int .i64 x.graph.workers,.int .i64 x.graph.cap,.slice none 0 0,.slice none 0 0,v11,v13] Z hbl2) Z (Yo Xw Z (fun b5 w20 e12 s5 h5=>?_))
  have g_b5 : w.heap.size ≤ b5:=by have:=E.size;omega
  have y_b5:=h5.lt
  replace E:=E.trans e12;replace h1:=h1.ext e12;replace h2:=h2.ext e12;replace ho11:=ho11.ext e12;replace ho13:=ho13.ext e12;replace ho15:=ho15.ext e12
  have z21:=e12.size
  refine Q4 (cs':=[v9,.int .i64 x.graph.workers,.int .i64 x.graph.cap,.slice none 0 0,.slice none 0 0,v11,v13]) Xw Z Z Z (Qj (RdD.one (OwF.rd ho11)) (Qj Z (Qj Z (Qj Z (Qj Z (Qj ho13.one (Qj ho15.one Z))))))) h5 (Nat.le_of_ble_eq_true Z) Z (fun w21 m7 h5'=>?_)
  replace h5:=h5'
  replace E:=E.step m7 (fun g hg=>by cases hg;omega);replace h1:=h1.mod m7 (fun g hg=>by cases hg;omega);replace h2:=h2.mod m7 (fun g hg=>by cases hg;omega);replace ho11:=ho11.mod m7 (fun g hg=>by cases hg;omega);replace ho13:=ho13.mod m7 (fun g hg=>by cases hg;omega);replace ho15:=ho15.mod m7 (fun g hg=>by cases hg;omega)
  have z22:=m7.size
  refine Qc (Qe (Qe (Qh [true] Z Z (Qa (Qf Z) Z (Qc (Q0 (Yp (fun (xq : Nat × Value)=>let ⟨k3,vo3⟩:=xq;[(1,.pointer (some ⟨b1,0,none⟩)),(2,.pointer (some ⟨b2,0,none⟩)),(3,.pointer (some ⟨b5,0,none⟩)),(4,.int .i64 ((k3 : Nat) : Int))]) (fun (xq : Nat × Value) w'=>let ⟨k3,vo3⟩:=xq;Ext w w' ∧ w21.heap.size ≤ w'.heap.size ∧ Blk w' b1 ([o1,.int .i64 x.graph.workers,.int .i64 x.graph.cap,o2,o3,o4,o5]) ∧ Blk w' b2 [.slice none 0 0,.int .i64 0,.int .i64 0,.slice none 0 0,.slice none 0 0,.slice none 0 0,.slice none 0 0] ∧ OwF w' w3.heap.size w19.heap.size v9 x.graph.nodes f7 ∧ Own w' w3.heap.size w19.heap.size 5 v11 (List.flatMap (Enc.enc (α:=Token)) x.tokens) ∧ Own w' w3.heap.size w19.heap.size 3 v13 (List.flatMap (Enc.enc (α:=News)) x.news) ∧ k3 ≤ x.workers.length ∧ OwS w' w21.heap.size w'.heap.size vo3 (x.workers.take k3) ∧ Blk w' b5 [v9,.int .i64 x.graph.workers,.int .i64 x.graph.cap,vo3,.slice none 0 0,v11,v13]) (fun (xq : Nat × Value)=>let ⟨k3,vo3⟩:=xq;x.workers.length - k3) (0,.slice none 0 0) ⟨Z,Z,Z,Z,trivial⟩ ⟨E,Nat.le_refl _,h1,h2,ho11,ho13,ho15,Nat.zero_le _,(OwS.nil _ _ _),h5⟩ ?_)))))))
  clear E h1 h2 ho11 ho13 ho15 h5
  rintro ⟨k3,vo3⟩ w22 ⟨E,z23,h1,h2,ho11,ho13,ho15,hk3,hoC3,h5⟩
  refine Q8 [(1,.pointer (some ⟨b1,0,none⟩)),(2,.pointer (some ⟨b2,0,none⟩)),(3,.pointer (some ⟨b5,0,none⟩)),(4,.int .i64 ((k3 : Nat) : Int))] ⟨Z,Z,Z,Z,trivial⟩ ?_
  refine Qe (Qe (Qh [true,true,true,true,true] Z Z (Qa (Qd Z) Z (Qa (Qb Xn Z) Z (Qa (Qk Uy Z (h1.one 3 Z)) Z (Qa (Yc Tryz.underlying35 Z (hd2.ext E).len) Z (Qa (Yi Z Z) Z (Qc (Qt Z (fun hc3=>?_) (fun hc3=>?_))))))))))
  ·have hc3n : k3 < x.workers.length:=by first | (have h:=of_decide_eq_true hc3;omega) | (have h:=hc3;simp at h;omega)
   refine Qo (Qe (Q0 (C7 Xs [9] [(0,true),(1,true),(2,true),(3,true),(4,true),(5,true),(6,true),(7,false),(8,false)] [(9,false),(10,true),(11,false)] (by decide +kernel) Z Z (fun w23 e13=>?_))))
   replace E:=E.trans e13;replace h1:=h1.ext e13;replace h2:=h2.ext e13;replace ho11:=ho11.ext e13;replace ho13:=ho13.ext e13;replace ho15:=ho15.ext e13;replace hoC3:=hoC3.ext e13;replace h5:=h5.ext e13
   have z24:=e13.size
   refine Qa (Qb Xn Z) Z (Qa (Qk Uy Z (h5.one 3 Z)) Z (Qa (Qb Xn Z) Z (Qa (Qk Uy Z (h1.one 3 Z)) Z (Qa (Qd Z) Z ?_))))
   have hi3 : k3 < x.workers.length:=(by first | assumption | omega | (simp only [List.length_set];first | assumption | omega) | (simp only [List.getElem_set_self,List.length_set];first | assumption | omega) | (simp only [Yn,Yh,List.length_set];first | assumption | omega))
   obtain ⟨_,hr3,ha3⟩:=RdD.get hd2 hi3
   obtain ⟨o24,o25,o26,o27,o28,o29,o30,o31,rfl,hd15,hd16,hd17,hd18,hd19,hd20,hd21,hd22⟩:=Worker.op hr3
   replace ha3 : At w (Y6 o2) (Y8 o2 + k3 * 8) [o24,o25,o26,o27,o28,o29,o30,o31]:=ha3
   refine Qa (Qz (i:=k3) K5 Z Z (hd2.ext E).1 hi3) Z (Qa (Qy X8 Z (ha3.ext E) Z) Z (Qw Tryz.call100 Z (s_l12Copy [o24,o25,o26,o27,o28,o29,o30,o31] (x.workers[k3]'hi3) _ (Worker.mkR (x.workers[k3]'hi3) (RdD.any (hd15.ext E)) (RdD.any (hd16.ext E)) (RdD.any (hd17.ext E)) (RdD.any (hd18.ext E)) (RdD.any (hd19.ext E)) (RdD.any (hd20.ext E)) (RdD.any (hd21.ext E)) (RdD.any (hd22.ext E))) (by have:=V3 (f:=Q7) (show k3 < x.workers.length by omega);unfold X0 at hb2;omega)) Z (fun _ w24 e14 ho16=>?_)))
   obtain ⟨_,rfl,ho16⟩:=ho16
   have g_ho16 : w.heap.size ≤ w23.heap.size:=E.size
   replace E:=E.trans e14;replace h1:=h1.ext e14;replace h2:=h2.ext e14;replace ho11:=ho11.ext e14;replace ho13:=ho13.ext e14;replace ho15:=ho15.ext e14;replace hoC3:=hoC3.ext e14;replace h5:=h5.ext e14
   have z25:=e14.size
   obtain ⟨o32,o33,o34,o35,o36,o37,o38,o39,rfl,sp5,hw10,hw11,hw12,hw13,hw14,hw15,hw16,hw17⟩:=Worker.opO ho16
   refine Y7 (vs:=[.agg [o32,o33,o34,o35,o36,o37,o38,o39].toArray]) (css:=[[o32,o33,o34,o35,o36,o37,o38,o39]]) K5 Z Z ⟨⟨Z,Z⟩,trivial⟩ Z Z (fun b6 w25 e15 s6 h6=>?_)
   replace h6 : Blk w25 b6 [o32,o33,o34,o35,o36,o37,o38,o39]:=h6
   have g_b6 : w.heap.size ≤ b6:=by have:=E.size;omega
   have y_b6:=h6.lt
   replace E:=E.trans e15;replace h1:=h1.ext e15;replace h2:=h2.ext e15;replace ho11:=ho11.ext e15;replace ho13:=ho13.ext e15;replace ho15:=ho15.ext e15;replace hoC3:=hoC3.ext e15;replace h5:=h5.ext e15;replace hw10:=hw10.ext e15;replace hw11:=hw11.ext e15;replace hw12:=hw12.ext e15;replace hw13:=hw13.ext e15;replace hw14:=hw14.ext e15;replace hw15:=hw15.ext e15;replace hw16:=hw16.ext e15;replace hw17:=hw17.ext e15
   have z26:=e15.size
   refine To ?_
   refine J2_X Z ?_
   refine Vt (lo:=w21.heap.size) (hi:=w22.heap.size) (lo2:=w23.heap.size) (hi2:=w25.heap.size) K5 Z Z hoC3 (Src.ofBlk h6 Z) (Worker.mkO (x.workers[k3]'hi3) sp5 (Own.widen hw10 (by omega) (by omega)) (Own.widen hw11 (by omega) (by omega)) (Own.widen hw12 (by omega) (by omega)) (Own.widen hw13 (by omega) (by omega)) (Own.widen hw14 (by omega) (by omega)) (Own.widen hw15 (by omega) (by omega)) (Own.widen hw16 (by omega) (by omega)) (Own.widen hw17 (by omega) (by omega))) (by omega) (by simp only [List.length_take,show Dat.sz Worker = 8 from Z,show Dat.sz Link = 6 from Z];unfold X0 at hb2;omega) (by decide) (by omega) (by omega) (by omega) (by omega) (by omega) Z Z (fun v14 w26 m8 ho17=>?_)
   have hqb:=OwS.inn hoC3
   replace E:=E.step m8 (fun g hg=>by have:=hqb g hg;omega);replace h1:=h1.mod m8 (fun g hg=>by have:=hqb g hg;omega);replace h2:=h2.mod m8 (fun g hg=>by have:=hqb g hg;omega);replace ho11:=ho11.mod m8 (fun g hg=>by have:=hqb g hg;omega);replace ho13:=ho13.mod m8 (fun g hg=>by have:=hqb g hg;omega);replace ho15:=ho15.mod m8 (fun g hg=>by have:=hqb g hg;omega);replace h5:=h5.mod m8 (fun g hg=>by have:=hqb g hg;omega)
   have z27:=m8.size
   clear hqb
   refine B9 ?_
   refine Qa (Qb Xn Z) Z (Yj (cs':=[v9,.int .i64 x.graph.workers,.int .i64 x.graph.cap,v14,.slice none 0 0,v11,v13]) Uy Z Z (RdD.one (OwS.rd ho17)) h5 (Nat.le_of_ble_eq_true Z) Z (fun w27 m9 h5'=>?_))
   replace h5:=h5'
   replace E:=E.step m9 (fun g hg=>by cases hg;omega);replace h1:=h1.mod m9 (fun g hg=>by cases hg;omega);replace h2:=h2.mod m9 (fun g hg=>by cases hg;omega);replace ho11:=ho11.mod m9 (fun g hg=>by cases hg;omega);replace ho13:=ho13.mod m9 (fun g hg=>by cases hg;omega);replace ho15:=ho15.mod m9 (fun g hg=>by cases hg;omega);replace ho17:=ho17.mod m9 (fun g hg=>by cases hg;omega)
   have z28:=m9.size
   refine Qc (Q6 (Y0 (Qh [true,true,true] Z Z (Qa (Qd Z) Z (Qa (Ye Z Z (Y3 hc3n (hd2.ext E).1.1)) Z (Qa (Qf Z) Z (Qc (Q6 (Yk (k3 + 1,v14) (by simp;omega) ⟨Z,Z,Z,Z,trivial⟩ ⟨E,(by omega),h1,h2,ho11,ho13,ho15,(by omega),(by rw [List.take_succ_eq_append_getElem (by assumption)];exact OwS.widen ho17 (by omega) (by omega)),h5⟩)))))))))
  ·have hc3n : ¬ k3 < x.workers.length:=by first | (have h:=of_decide_eq_false hc3;omega) | (have h:=hc3;simp at h;omega)
   refine Yq (Q5 (Q3 ?_))
   refine Qe (Qe (Qh [true] Z Z (Qa (Qf Z) Z (Qc (Q0 (Yp (fun (xq : Nat × Value)=>let ⟨k4,vo4⟩:=xq;[(1,.pointer (some ⟨b1,0,none⟩)),(2,.pointer (some ⟨b2,0,none⟩)),(3,.pointer (some ⟨b5,0,none⟩)),(5,.int .i64 ((k4 : Nat) : Int))]) (fun (xq : Nat × Value) w'=>let ⟨k4,vo4⟩:=xq;Ext w w' ∧ w22.heap.size ≤ w'.heap.size ∧ Blk w' b1 ([o1,.int .i64 x.graph.workers,.int .i64 x.graph.cap,o2,o3,o4,o5]) ∧ Blk w' b2 [.slice none 0 0,.int .i64 0,.int .i64 0,.slice none 0 0,.slice none 0 0,.slice none 0 0,.slice none 0 0] ∧ OwF w' w3.heap.size w19.heap.size v9 x.graph.nodes f7 ∧ Own w' w3.heap.size w19.heap.size 5 v11 (List.flatMap (Enc.enc (α:=Token)) x.tokens) ∧ Own w' w3.heap.size w19.heap.size 3 v13 (List.flatMap (Enc.enc (α:=News)) x.news) ∧ OwS w' w21.heap.size w22.heap.size vo3 (x.workers.take k3) ∧ k4 ≤ x.links.length ∧ OwS w' w22.heap.size w'.heap.size vo4 (x.links.take k4) ∧ Blk w' b5 [v9,.int .i64 x.graph.workers,.int .i64 x.graph.cap,vo3,vo4,v11,v13]) (fun (xq : Nat × Value)=>let ⟨k4,vo4⟩:=xq;x.links.length - k4) (0,.slice none 0 0) ⟨Z,Z,Z,Z,trivial⟩ ⟨E,Nat.le_refl _,h1,h2,ho11,ho13,ho15,hoC3,Nat.zero_le _,(OwS.nil _ _ _),h5⟩ ?_))))))
   clear E h1 h2 ho11 ho13 ho15 hoC3 h5
   rintro ⟨k4,vo4⟩ w28 ⟨E,z29,h1,h2,ho11,ho13,ho15,hoC3,hk4,hoC4,h5⟩
   refine Q8 [(1,.pointer (some ⟨b1,0,none⟩)),(2,.pointer (some ⟨b2,0,none⟩)),(3,.pointer (some ⟨b5,0,none⟩)),(5,.int .i64 ((k4 : Nat) : Int))] ⟨Z,Z,Z,Z,trivial⟩ ?_
   refine Qe (Qe (Qh [true,true,true,true,true] Z Z (Qa (Qd Z) Z (Qa (Qb Ko Z) Z (Qa (Qk Gh Z (h1.one 4 Z)) Z (Qa (Yc Tryz.underlying36 Z (hd3.ext E).len) Z (Qa (Yi Z Z) Z (Qc (Qt Z (fun hc4=>?_) (fun hc4=>?_))))))))))
   ·have hc4n : k4 < x.links.length:=by first | (have h:=of_decide_eq_true hc4;omega) | (have h:=hc4;simp at h;omega)
    refine Qo (Qe (Q0 (C7 Xs [9] [(0,true),(1,true),(2,true),(3,true),(4,true),(5,true),(6,true),(7,false),(8,false)] [(9,false),(10,true),(11,false)] (by decide +kernel) Z Z (fun w29 e16=>?_))))
    replace E:=E.trans e16;replace h1:=h1.ext e16;replace h2:=h2.ext e16;replace ho11:=ho11.ext e16;replace ho13:=ho13.ext e16;replace ho15:=ho15.ext e16;replace hoC3:=hoC3.ext e16;replace hoC4:=hoC4.ext e16;replace h5:=h5.ext e16
    have z30:=e16.size
    refine Qa (Qb Ko Z) Z (Qa (Qk Gh Z (h5.one 4 Z)) Z (Qa (Qb Ko Z) Z (Qa (Qk Gh Z (h1.one 4 Z)) Z (Qa (Qd Z) Z ?_))))
    have hi4 : k4 < x.links.length:=(by first | assumption | omega | (simp only [List.length_set];first | assumption | omega) | (simp only [List.getElem_set_self,List.length_set];first | assumption | omega) | (simp only [Yn,Yh,List.length_set];first | assumption | omega))
    obtain ⟨_,hr4,ha4⟩:=RdD.get hd3 hi4
    obtain ⟨o40,rfl,hd23⟩:=Link.op hr4
    replace ha4 : At w (Y6 o3) (Y8 o3 + k4 * 6) [.int .i64 ((x.links[k4]'hi4).cap),o40,.int .i64 ((x.links[k4]'hi4).credits),.int .i64 ((x.links[k4]'hi4).back),.int .i64 ((x.links[k4]'hi4).sent),.int .i64 ((x.links[k4]'hi4).got)]:=ha4
    refine Qa (Qz (i:=k4) Vl Z Z (hd3.ext E).1 hi4) Z (Qa (Qy X4 Z (ha4.ext E) Z) Z (Qw Tryz.call101 Z (s_l06Copy [.int .i64 ((x.links[k4]'hi4).cap),o40,.int .i64 ((x.links[k4]'hi4).credits),.int .i64 ((x.links[k4]'hi4).back),.int .i64 ((x.links[k4]'hi4).sent),.int .i64 ((x.links[k4]'hi4).got)] (x.links[k4]'hi4) _ (Link.mkR (x.links[k4]'hi4) (RdD.any (hd23.ext E))) (by have:=V3 (f:=Y5) (show k4 < x.links.length by omega);unfold X0 at hb2;omega)) Z (fun _ w30 e17 ho18=>?_)))
    obtain ⟨_,rfl,ho18⟩:=ho18
    have g_ho18 : w.heap.size ≤ w29.heap.size:=E.size
    replace E:=E.trans e17;replace h1:=h1.ext e17;replace h2:=h2.ext e17;replace ho11:=ho11.ext e17;replace ho13:=ho13.ext e17;replace ho15:=ho15.ext e17;replace hoC3:=hoC3.ext e17;replace hoC4:=hoC4.ext e17;replace h5:=h5.ext e17
    have z31:=e17.size
    obtain ⟨o41,rfl,sp6,hw18⟩:=Link.opO ho18
    refine Y7 (vs:=[.agg [.int .i64 ((x.links[k4]'hi4).cap),o41,.int .i64 ((x.links[k4]'hi4).credits),.int .i64 ((x.links[k4]'hi4).back),.int .i64 ((x.links[k4]'hi4).sent),.int .i64 ((x.links[k4]'hi4).got)].toArray]) (css:=[[.int .i64 ((x.links[k4]'hi4).cap),o41,.int .i64 ((x.links[k4]'hi4).credits),.int .i64 ((x.links[k4]'hi4).back),.int .i64 ((x.links[k4]'hi4).sent),.int .i64 ((x.links[k4]'hi4).got)]]) Vl Z Z ⟨⟨Z,Z⟩,trivial⟩ Z Z (fun b7 w31 e18 s7 h7=>?_)
    replace h7 : Blk w31 b7 [.int .i64 ((x.links[k4]'hi4).cap),o41,.int .i64 ((x.links[k4]'hi4).credits),.int .i64 ((x.links[k4]'hi4).back),.int .i64 ((x.links[k4]'hi4).sent),.int .i64 ((x.links[k4]'hi4).got)]:=h7
    have g_b7 : w.heap.size ≤ b7:=by have:=E.size;omega
    have y_b7:=h7.lt
    replace E:=E.trans e18;replace h1:=h1.ext e18;replace h2:=h2.ext e18;replace ho11:=ho11.ext e18;replace ho13:=ho13.ext e18;replace ho15:=ho15.ext e18;replace hoC3:=hoC3.ext e18;replace hoC4:=hoC4.ext e18;replace h5:=h5.ext e18;replace hw18:=hw18.ext e18
    have z32:=e18.size
    refine To ?_
    refine J2_X Z ?_
    refine Vt (lo:=w22.heap.size) (hi:=w28.heap.size) (lo2:=w29.heap.size) (hi2:=w31.heap.size) Vl Z Z hoC4 (Src.ofBlk h7 Z) (Link.mkO (x.links[k4]'hi4) sp6 (Own.widen hw18 (by omega) (by omega))) (by omega) (by simp only [List.length_take,show Dat.sz Worker = 8 from Z,show Dat.sz Link = 6 from Z];unfold X0 at hb2;omega) (by decide) (by omega) (by omega) (by omega) (by omega) (by omega) Z Z (fun v15 w32 m10 ho19=>?_)
    have hqb:=OwS.inn hoC4
    replace E:=E.step m10 (fun g hg=>by have:=hqb g hg;omega);replace h1:=h1.mod m10 (fun g hg=>by have:=hqb g hg;omega);replace h2:=h2.mod m10 (fun g hg=>by have:=hqb g hg;omega);replace ho11:=ho11.mod m10 (fun g hg=>by have:=hqb g hg;omega);replace ho13:=ho13.mod m10 (fun g hg=>by have:=hqb g hg;omega);replace ho15:=ho15.mod m10 (fun g hg=>by have:=hqb g hg;omega);replace hoC3:=hoC3.mod m10 (fun g hg=>by have:=hqb g hg;omega);replace h5:=h5.mod m10 (fun g hg=>by have:=hqb g hg;omega)
    have z33:=m10.size
    clear hqb
    refine B9 ?_
    refine Qa (Qb Ko Z) Z (Yj (cs':=[v9,.int .i64 x.graph.workers,.int .i64 x.graph.cap,vo3,v15,v11,v13]) Gh Z Z (RdD.one (OwS.rd ho19)) h5 (Nat.le_of_ble_eq_true Z) Z (fun w33 m11 h5'=>?_))
    replace h5:=h5'
    replace E:=E.step m11 (fun g hg=>by cases hg;omega);replace h1:=h1.mod m11 (fun g hg=>by cases hg;omega);replace h2:=h2.mod m11 (fun g hg=>by cases hg;omega);replace ho11:=ho11.mod m11 (fun g hg=>by cases hg;omega);replace ho13:=ho13.mod m11 (fun g hg=>by cases hg;omega);replace ho15:=ho15.mod m11 (fun g hg=>by cases hg;omega);replace hoC3:=hoC3.mod m11 (fun g hg=>by cases hg;omega);replace ho19:=ho19.mod m11 (fun g hg=>by cases hg;omega)
    have z34:=m11.size
    refine Qc (Q6 (Y0 (Qh [true,true,true] Z Z (Qa (Qd Z) Z (Qa (Ye Z Z (Y3 hc4n (hd3.ext E).1.1)) Z (Qa (Qf Z) Z (Qc (Q6 (Yk (k4 + 1,v15) (by simp;omega) ⟨Z,Z,Z,Z,trivial⟩ ⟨E,(by omega),h1,h2,ho11,ho13,ho15,hoC3,(by omega),(by rw [List.take_succ_eq_append_getElem (by assumption)];exact OwS.widen ho19 (by omega) (by omega)),h5⟩)))))))))
   ·have hc4n : ¬ k4 < x.links.length:=by first | (have h:=of_decide_eq_false hc4;omega) | (have h:=hc4;simp at h;omega)
    refine Yq (Q5 (Q3 ?_))
    refine Qe (Qh [true,false] Z Z (Qa (Qy Xw Z h5.at Z) Z (Q4 (cs':=[v9,.int .i64 x.graph.workers,.int .i64 x.graph.cap,vo3,vo4,v11,v13]) Xw Z Z Z (Qj (RdD.one (OwF.rd ho11)) (Qj Z (Qj Z (Qj (RdD.one (OwS.rd hoC3)) (Qj (RdD.one (OwS.rd hoC4)) (Qj ho13.one (Qj ho15.one Z))))))) h2 (Nat.le_of_ble_eq_true Z) Z (fun w34 m12 h2'=>?_))))
    replace h2:=h2'
    replace E:=E.step m12 (fun g hg=>by cases hg;omega);replace h1:=h1.mod m12 (fun g hg=>by cases hg;omega);replace ho11:=ho11.mod m12 (fun g hg=>by cases hg;omega);replace ho13:=ho13.mod m12 (fun g hg=>by cases hg;omega);replace ho15:=ho15.mod m12 (fun g hg=>by cases hg;omega);replace hoC3:=hoC3.mod m12 (fun g hg=>by cases hg;omega);replace hoC4:=hoC4.mod m12 (fun g hg=>by cases hg;omega);replace h5:=h5.mod m12 (fun g hg=>by cases hg;omega)
    have z35:=m12.size
    refine Qc (Qv (X3 Z Z (Yd Xw h2.at Z) E ?_))
    rw [List.take_of_length_le (by omega)] at hoC3 hoC4
    exact ⟨_,_,_,_,_,Z,OwC.of2 x ho11 hoC3 hoC4 ho13 ho15 ⟨⟨sp4.1.1,sp4.1.2.1,trivial⟩,⟨sp4.2.1.1,trivial⟩,trivial,trivial⟩ (by have:=E.size;omega) (by omega)⟩

set_option maxRecDepth 20000 in
theorem c_hasWorker (cx : List Value) (x : Cluster) (p : Int) (w : World) (hx : Dat.R w 0 w.heap.size cx x) (hok : ∀ l ∈ x.links,rg l.got) : Ct Tryz.prog 46 [.agg cx.toArray,.int .i64 p] w (fun v _=>v = .bool (Tu x p)):=by
 refine Ym Tryz.func46 Z Tryz.ntmps46 Z ?_
 obtain ⟨o1,o2,o3,o4,o5,rfl,hd1,hd2,hd3,hd4,hd5⟩:=Cluster.op hx
 refine Q8 [(0,.agg [o1,.int .i64 x.graph.workers,.int .i64 x.graph.cap,o2,o3,o4,o5].toArray),(1,.int .i64 p)] ⟨Z,Z,trivial⟩ ?_
 have E : Ext w w:=Ext.refl w
 refine Qe (Qh [false,true] Z Z (Y1 Z Z (fun b1 w1 e1 s1 h1=>?_)))
 have g_b1 : w.heap.size ≤ b1:=by have:=E.size;omega
 have y_b1:=h1.lt
 replace E:=E.trans e1
 have z1:=e1.size
 refine Qa (Qf Z) Z (Qc (Qe (Qh [true,false,true,true,true,true,true,true,false,true,true] Z Z (Qa (Qy Xw Z h1.at Z) Z (Qw Tryz.call69 Z (c_ClusterOk [o1,.int .i64 x.graph.workers,.int .i64 x.graph.cap,o2,o3,o4,o5] x _ (Cluster.mkR x (RdD.any (hd1.ext E)) (RdD.any (hd2.ext E)) (RdD.any (hd3.ext E)) (RdD.any (hd4.ext E)) (RdD.any (hd5.ext E))) (by first | omega | (simp only [Qi];omega) | (rw [Qi];done) | (simp only [Qi];done))) Z (fun _ w2 e2 hv=>?_))))))
 subst hv
 replace E:=E.trans e2;replace h1:=h1.ext e2
 have z2:=e2.size
 refine Qa (Qd Z) Z (Xf 7 [(0,.agg [o1,.int .i64 x.graph.workers,.int .i64 x.graph.cap,o2,o3,o4,o5].toArray),(1,.int .i64 p),(2,.pointer (some ⟨b1,0,none⟩)),(4,.bool false),(14,.bool ((Kf x) && (Yr p 0 (IntKind.i64.wrap (((x.workers.length : Nat) : Int) - 1)))))] (fun w'=>Ext w w' ∧ w2.heap.size ≤ w'.heap.size ∧ Blk w' b1 ([o1,.int .i64 x.graph.workers,.int .i64 x.graph.cap,o2,o3,o4,o5])) ?_ ?_)
 ·refine Y4 (gd:=7) Z Z (fun hg1=>?_) (fun hg1=>?_)
  ·refine Qn Z Z (Qd Z) Z (Qn Z Z (Qb Xn Z) Z (Qn Z Z (Qk Uy Z (h1.one 3 Z)) Z (Qn Z Z (Yc Tryz.underlying35 Z (hd2.ext E).len) Z (Qn Z Z (K6 Z Z Z) Z ?_))))
   refine X2 Z Z ?_
   refine Qw Tryz.call71 Z (c_within p 0 (IntKind.i64.wrap (((x.workers.length : Nat) : Int) - 1)) _ ) Z (fun _ w4 e3 hv=>?_)
   subst hv
   replace E:=E.trans e3;replace h1:=h1.ext e3
   have z3:=e3.size
   refine Qa (Qx Z Z) Z (Qr ⟨Z,Z,Z,Z,congrArg (fun b=>some (Value.bool b)) (show (Yr p 0 (IntKind.i64.wrap (((x.workers.length : Nat) : Int) - 1))) = ((Kf x) && (Yr p 0 (IntKind.i64.wrap (((x.workers.length : Nat) : Int) - 1)))) by first | (rw [hg1] <;> rfl) | (simp [hg1];done) | (simp only [Qq] <;> simp)),trivial⟩ ⟨E,(by omega),h1⟩)
  ·refine Qg Z Z Z Z (Qg Z Z Z Z (Qg Z Z Z Z (Qg Z Z Z Z (Qg Z Z Z Z ?_))))
   refine Yx Z Z Z Z ?_
   refine Qa (Q1 Z Z) Z (Qr ⟨Z,Z,Z,Z,congrArg (fun b=>some (Value.bool b)) (show false = ((Kf x) && (Yr p 0 (IntKind.i64.wrap (((x.workers.length : Nat) : Int) - 1)))) by first | (rw [hg1] <;> rfl) | (simp [hg1];done) | (simp only [Qq] <;> simp)),trivial⟩ ⟨E,(by omega),h1⟩)
 clear E h1
 rintro w3 ⟨E,z4,h1⟩
 refine Qa (Qf Z) Z (Qc (Qv (Qm Z Z E ?_)))
 rfl

set_option maxRecDepth 20000 in
theorem s_l15Start (cx : List Value) (x : Cluster) (w : World) (hx : Dat.R w 0 w.heap.size cx x) (hb : Yb x ≤ 1048576) : Ct Tryz.prog 19 [.agg cx.toArray] w (fun v w'=>∃ b o1 o2 o3 o4 o5,v = .pointer (some ⟨b,0,none⟩) ∧ OwR w' w.heap.size w'.heap.size b o1 o2 o3 o4 o5 x (Kf x)):=by
 refine Ym Tryz.func19 Z Tryz.ntmps19 Z ?_
 obtain ⟨o1,o2,o3,o4,o5,rfl,hd1,hd2,hd3,hd4,hd5⟩:=Cluster.op hx
 refine Q8 [(0,.agg [o1,.int .i64 x.graph.workers,.int .i64 x.graph.cap,o2,o3,o4,o5].toArray)] ⟨Z,trivial⟩ ?_
 have E : Ext w w:=Ext.refl w
 refine Qe (Qh [false,true] Z Z (Y1 Z Z (fun b1 w1 e1 s1 h1=>?_)))
 have g_b1 : w.heap.size ≤ b1:=by have:=E.size;omega
 have y_b1:=h1.lt
 replace E:=E.trans e1
 have z1:=e1.size
 refine Qa (Qf Z) Z (Qc (Qe (Xx Xs [(0,true),(2,true),(1,false),(3,false),(4,true),(5,false),(6,true)] (by decide +kernel) Z (fun w2 e2=>?_))))
 replace E:=E.trans e2;replace h1:=h1.ext e2
 have z2:=e2.size
 refine Qa (Qy Xw Z h1.at Z) Z (Qa (Qy Xw Z h1.at Z) Z (Qw Tryz.call56 Z (s_l14Copy [o1,.int .i64 x.graph.workers,.int .i64 x.graph.cap,o2,o3,o4,o5] x _ (Cluster.mkR x (RdD.any (hd1.ext E)) (RdD.any (hd2.ext E)) (RdD.any (hd3.ext E)) (RdD.any (hd4.ext E)) (RdD.any (hd5.ext E))) (by first | omega | (simp only [Qi];omega) | (rw [Qi];done) | (simp only [Qi];done))) Z (fun _ w3 e3 ho1=>?_)))
 obtain ⟨o6,o7,o8,o9,o10,rfl,ho1⟩:=ho1
 have g_ho1 : w.heap.size ≤ w2.heap.size:=E.size
 replace E:=E.trans e3;replace h1:=h1.ext e3
 have z3:=e3.size
 refine Qw Tryz.call57 Z (s_ClusterOk [o1,.int .i64 x.graph.workers,.int .i64 x.graph.cap,o2,o3,o4,o5] x _ (Cluster.mkR x (RdD.any (hd1.ext E)) (RdD.any (hd2.ext E)) (RdD.any (hd3.ext E)) (RdD.any (hd4.ext E)) (RdD.any (hd5.ext E)))) Z (fun _ w4 e4 hv=>?_)
 subst hv
 replace E:=E.trans e4;replace h1:=h1.ext e4;replace ho1:=ho1.ext e4
 have z4:=e4.size
 have hbl1 : ∀ w,(Instr.build 58 ([(0,.agg [o6,.int .i64 x.graph.workers,.int .i64 x.graph.cap,o7,o8,o9,o10].toArray),(1,.bool (Kf x))]).toArray).run Tryz.prog w = .ok (.agg [o6,.int .i64 x.graph.workers,.int .i64 x.graph.cap,o7,o8,o9,o10,.bool (Kf x)].toArray) w:=by clear E;obtain ⟨_,_,_,rfl⟩:=SlLen.shape (RdD.len (OwC.rd1 ho1));obtain ⟨_,_,_,rfl⟩:=SlLen.shape (RdD.len (OwC.rd2 ho1));obtain ⟨_,_,_,rfl⟩:=SlLen.shape (RdD.len (OwC.rd3 ho1));obtain ⟨_,_,_,rfl⟩:=SlLen.shape (RdD.len (OwC.rd4 ho1));obtain ⟨_,_,_,rfl⟩:=SlLen.shape (RdD.len (OwC.rd5 ho1));intro w;kernel_rfl
 refine Qa (G9 [o6,.int .i64 x.graph.workers,.int .i64 x.graph.cap,o7,o8,o9,o10,.bool (Kf x)] Z hbl1) Z (Y1 Z Z (fun b2 w5 e5 s2 h2=>?_))
 have g_b2 : w.heap.size ≤ b2:=by have:=E.size;omega
 have y_b2:=h2.lt
 replace E:=E.trans e5;replace h1:=h1.ext e5;replace ho1:=ho1.ext e5
 have z5:=e5.size
 refine Qa (Qf Z) Z (Qc (Qv (Qm Z Z E ?_)))
 exact ⟨_,_,_,_,_,_,Z,OwR.of ho1 h2 (by omega) (by have:=E.size;omega) (by have:=E.size;omega) (by omega)⟩

set_option maxRecDepth 20000 in
theorem s_l15Is (bx : Nat) (o1x o2x o3x o4x o5x : Value) (lo : Nat) (x : Cluster) (okx : Bool) (p : Int) (w : World) (hx : OwR w lo w.heap.size bx o1x o2x o3x o4x o5x x okx) : Ct Tryz.prog 89 [.pointer (some ⟨bx,0,none⟩),.int .i64 p] w (fun v _=>v = .bool (okx && Yr p 0 (IntKind.i64.wrap ((((x).workers.length : Nat) : Int) - 1)))):=by
 refine Ym Tryz.func89 Z Tryz.ntmps89 Z ?_
 obtain ⟨f1,f2,f3,h1,hl1,hw1,hw2,hw3,hw4,hw5,sp1⟩:=hx
 have y_q1:=h1.lt
 refine Q8 [(0,.pointer (some ⟨bx,0,none⟩)),(1,.int .i64 p)] ⟨Z,Z,trivial⟩ ?_
 have E : Ext w w:=Ext.refl w
 refine Qe (Qh [true] Z Z (Qa (Qf Z) Z (Qc (Qe (Qh [true,true,true,true,true,true,true,true,true,true,true,true,true,false,true,true] Z Z (Qa (Qd Z) Z (Qa (Xg Z) Z (Qa (Qb fl58_1 Z) Z (Qa (Qk Hs Z (h1.one 7 Z)) Z (Qa (Qd Z) Z (Xf 10 [(0,.pointer (some ⟨bx,0,none⟩)),(1,.int .i64 p),(4,.bool false),(19,.bool (okx && (Yr p 0 (IntKind.i64.wrap (((x.workers.length : Nat) : Int) - 1)))))] (fun w'=>Ext w w' ∧ w.heap.size ≤ w'.heap.size ∧ OwF w' lo w.heap.size o1x x.graph.nodes f1 ∧ OwF w' lo w.heap.size o2x x.workers f2 ∧ OwF w' lo w.heap.size o3x x.links f3 ∧ Own w' lo w.heap.size 5 o4x (List.flatMap (Enc.enc (α:=Token)) x.tokens) ∧ Own w' lo w.heap.size 3 o5x (List.flatMap (Enc.enc (α:=News)) x.news) ∧ Blk w' bx [o1x,.int .i64 x.graph.workers,.int .i64 x.graph.cap,o2x,o3x,o4x,o5x,.bool okx]) ?_ ?_)))))))))))
 ·refine Y4 (gd:=9) Z Z (fun hg1=>?_) (fun hg1=>?_)
  ·refine Qn Z Z (Qd Z) Z (Qn Z Z (Qd Z) Z (Qn Z Z (Xg Z) Z (Qn Z Z (Qb U7 Z) Z (Qn Z Z (Qb Xn Z) Z (Qn Z Z (Qk Uy Z (h1.one 3 Z)) Z (Qn Z Z (Yc Tryz.underlying35 Z (OwF.rd hw2).len) Z (Qn Z Z (K6 Z Z Z) Z ?_)))))))
   refine X2 Z Z ?_
   refine Qw Tryz.call106 Z (s_l01In p 0 (IntKind.i64.wrap (((x.workers.length : Nat) : Int) - 1)) _ ) Z (fun _ w2 e1 hv=>?_)
   subst hv
   replace E:=E.trans e1;replace hw1:=hw1.ext e1;replace hw2:=hw2.ext e1;replace hw3:=hw3.ext e1;replace hw4:=hw4.ext e1;replace hw5:=hw5.ext e1;replace h1:=h1.ext e1
   have z1:=e1.size
   refine Qa (Qx Z Z) Z (Qr ⟨Z,Z,Z,congrArg (fun b=>some (Value.bool b)) (show (Yr p 0 (IntKind.i64.wrap (((x.workers.length : Nat) : Int) - 1))) = (okx && (Yr p 0 (IntKind.i64.wrap (((x.workers.length : Nat) : Int) - 1)))) by first | (rw [hg1] <;> rfl) | (simp [hg1];done) | (simp only [Qq] <;> simp)),trivial⟩ ⟨E,(by omega),hw1,hw2,hw3,hw4,hw5,h1⟩)
  ·refine Qg Z Z Z Z (Qg Z Z Z Z (Qg Z Z Z Z (Qg Z Z Z Z (Qg Z Z Z Z (Qg Z Z Z Z (Qg Z Z Z Z (Qg Z Z Z Z ?_)))))))
   refine Yx Z Z Z Z ?_
   refine Qa (Q1 Z Z) Z (Qr ⟨Z,Z,Z,congrArg (fun b=>some (Value.bool b)) (show false = (okx && (Yr p 0 (IntKind.i64.wrap (((x.workers.length : Nat) : Int) - 1)))) by first | (rw [hg1] <;> rfl) | (simp [hg1];done) | (simp only [Qq] <;> simp)),trivial⟩ ⟨E,(by omega),hw1,hw2,hw3,hw4,hw5,h1⟩)
 clear E hw1 hw2 hw3 hw4 hw5 h1
 rintro w1 ⟨E,z2,hw1,hw2,hw3,hw4,hw5,h1⟩
 refine Qa (Qf Z) Z (Qc (Qv (Qm Z Z E ?_)))
 rfl

set_option maxRecDepth 20000 in
theorem s_l15Sum (bx : Nat) (o1x o2x o3x o4x o5x : Value) (lo : Nat) (x : Cluster) (okx : Bool) (p : Int) (e : Int) (n : Int) (w : World) (hx : OwR w lo w.heap.size bx o1x o2x o3x o4x o5x x okx) (hwp : 0 ≤ p ∧ p < ((x.workers.length : Nat) : Int) ∧ Int.toNat p < x.workers.length) (hep : 0 ≤ e ∧ Int.toNat e < (K3 x p).sums.length) : CtR Tryz.prog 60 [.pointer (some ⟨bx,0,none⟩),.int .i64 p,.int .i64 e,.int .i64 n] w lo w.heap.size (fun v w'=>v = .tuple #[] ∧ OwR w' lo w'.heap.size bx o1x o2x o3x o4x o5x (Yn x p (Kt (K3 x p) e n)) (okx && Bl (K3 x p) e n)):=by
 have hwa:=Gg hwp.2.2
 have hes : Int.toNat e < (x.workers[Int.toNat p]'hwp.2.2).sums.length:=hwa ▸ hep.2
 refine V0 Tryz.func60 Z Tryz.ntmps60 Z ?_
 obtain ⟨f1,f2,f3,h1,hl1,hw1,hw2,hw3,hw4,hw5,sp1⟩:=hx
 have y_q1:=h1.lt
 refine Q8 [(0,.pointer (some ⟨bx,0,none⟩)),(1,.int .i64 p),(2,.int .i64 e),(3,.int .i64 n)] ⟨Z,Z,Z,Z,trivial⟩ ?_
 have E : ModR w w lo w.heap.size:=ModR.refl w lo w.heap.size
 refine Qe ?_
 have hi1 : (Int.toNat p) < x.workers.length:=(by first | assumption | omega | (simp only [List.length_set];first | assumption | omega) | (simp only [List.getElem_set_self,List.length_set];first | assumption | omega) | (simp only [Yn,Yh,List.length_set];first | assumption | omega))
 have hK1 : OwK w f2 w lo w.heap.size o2x (x.workers.take (Int.toNat p) ++ x.workers[(Int.toNat p)] :: x.workers.drop ((Int.toNat p) + 1)):=⟨by rw [← Ub hi1];exact hw2,Kq.refl _ _⟩
 have hfl1:=OwF.in2 hw2
 obtain ⟨_,ho1,hrow1⟩:=OwK.focus hK1
 obtain ⟨o1,o2,o3,o4,o5,o6,o7,o8,rfl,sp2,hw6,hw7,hw8,hw9,hw10,hw11,hw12,hw13⟩:=Worker.opO ho1
 clear hK1 hw2
 have hl2 : (x.workers.take (Int.toNat p)).length = (Int.toNat p):=by simp;omega
 have hn1 : (Int.toNat p) + 1 + (x.workers.drop ((Int.toNat p) + 1)).length = x.workers.length:=by simp;omega
 replace hrow1 : RowR f2 w lo w.heap.size o2x (x.workers.take (Int.toNat p)) [o1,o2,o3,o4,o5,o6,o7,o8] (x.workers.drop ((Int.toNat p) + 1)):=hrow1
 refine Xx Xs [(0,true),(1,true),(2,true),(3,true),(4,true),(5,true),(6,true),(7,true),(8,true),(9,true),(10,true),(11,true),(12,true),(13,true),(14,true),(15,true),(16,true),(17,true),(18,true),(19,true),(20,true),(21,true),(22,true),(23,true),(24,true),(25,false)] (by decide +kernel) Z (fun w1 e1=>?_)
 replace E:=E.ext e1;replace hw1:=hw1.ext e1;replace hw3:=hw3.ext e1;replace hw4:=hw4.ext e1;replace hw5:=hw5.ext e1;replace h1:=h1.ext e1;replace hw6:=hw6.ext e1;replace hw7:=hw7.ext e1;replace hw8:=hw8.ext e1;replace hw9:=hw9.ext e1;replace hw10:=hw10.ext e1;replace hw11:=hw11.ext e1;replace hw12:=hw12.ext e1;replace hw13:=hw13.ext e1;replace hrow1:=hrow1.ext e1
 have z1:=e1.size
 refine Qa (Qd Z) Z (Qa (Xg Z) Z (Qa (Qb U7 Z) Z (Qa (Qb Xn Z) Z (Qa (Qk Uy Z (h1.one 3 Z)) Z (Qa (Qd Z) Z (Qa (Xk (i:=(Int.toNat p)) K5 Z Z (RowK.same1 hrow1 hl2 hn1) (by omega) (by simp;omega)) Z (Qa (Qs Vc Z) Z (Qa (Qk K0 Z ((RowK.at hrow1 hl2).one 4 Z)) Z (Qa (Qd Z) Z (Qa (Qd Z) Z (Qa (Xg Z) Z (Qa (Qb U7 Z) Z (Qa (Qb Xn Z) Z (Qa (Qk Uy Z (h1.one 3 Z)) Z (Qa (Qd Z) Z (Qa (Xk (i:=(Int.toNat p)) K5 Z Z (RowK.same1 hrow1 hl2 hn1) (by omega) (by simp;omega)) Z (Qa (Qs Vc Z) Z (Qa (Qk K0 Z ((RowK.at hrow1 hl2).one 4 Z)) Z (Qa (Qd Z) Z ?_)))))))))))))))))))
 have hi2 : (Int.toNat e) < ((x.workers[(Int.toNat p)]'hi1).sums).length:=(by first | assumption | omega | (simp only [List.length_set];first | assumption | omega) | (simp only [List.getElem_set_self,List.length_set];first | assumption | omega) | (simp only [Yn,Yh,List.length_set];first | assumption | omega))
 refine Qa (Xk (i:=(Int.toNat e)) Ux Z Z (Own.rd (by decide) hw10) (by omega) hi2) Z (Qa (Qk Yt Z (((Own.rd (by decide) hw10).get hi2).one 0 Z)) Z (Qa (Qd Z) Z (Qa (Ye Z Z Z) Z ?_)))
 have hi3 : (Int.toNat e) < ((x.workers[(Int.toNat p)]'hi1).sums).length:=(by first | assumption | omega | (simp only [List.length_set];first | assumption | omega) | (simp only [List.getElem_set_self,List.length_set];first | assumption | omega) | (simp only [Yn,Yh,List.length_set];first | assumption | omega))
 refine Qa (Xk (i:=(Int.toNat e)) Ux Z Z (Own.rd (by decide) hw10) (by omega) hi3) Z (B8 (α:=Int) (i:=(Int.toNat e)) (f:=0) (IntKind.i64.wrap ((((x.workers[(Int.toNat p)]'hi1).sums)[(Int.toNat e)]'hi2) + n)) Yt Z Z Z Z hw10 hi3 (by decide) Z (fun w2 m1 hw10'=>?_))
 have hq:=Own.blk hw10
 replace hw10:=hw10'
 have kq1:=Mod.kq (l:=f2) m1 (RowK.fpr_mem hrow1 (by simp))
 replace E:=E.mod m1 (fun g hg=>by have:=hq g hg;omega);replace hw1:=OwF.kp hw1 (Kq.kp kq1 sp1.1.1);replace hw3:=OwF.kp hw3 (Kq.kp kq1 (sp1.2.1.1).symm);replace hw4:=Own.kp hw4 (Kq.kp kq1 (sp1.2.1.2.1).symm);replace hw5:=Own.kp hw5 (Kq.kp kq1 (sp1.2.1.2.2.1).symm);replace h1:=Blk.kp h1 (Kq.kp kq1 (sp1.2.1.2.2.2.1).symm);replace hw6:=Own.modS hw6 m1 (sp2.1.2.2.2.1).symm;replace hw7:=Own.modS hw7 m1 (sp2.2.1.2.2.1).symm;replace hw8:=Own.modS hw8 m1 (sp2.2.2.1.2.1).symm;replace hw9:=Own.modS hw9 m1 (sp2.2.2.2.1.1).symm;replace hw11:=Own.modS hw11 m1 sp2.2.2.2.2.1.1;replace hw12:=Own.modS hw12 m1 sp2.2.2.2.2.1.2.1;replace hw13:=Own.modS hw13 m1 sp2.2.2.2.2.1.2.2.1;replace hrow1:=RowR.modS hrow1 m1 (by simp)
 have z2:=m1.size
 clear hq
 refine Qc (Qh [true,true,true,true,true,true,true,true,true,true,true,true,true,true,true,true,true,true,false,true,true,true,false] Z Z (Qa (Qd Z) Z (Qa (Qd Z) Z (Qa (Xg Z) Z (Qa (Qb fl58_1 Z) Z (Qa (Qk Hs Z (h1.one 7 Z)) Z (Qa (Qd Z) Z (Xf 14 [(0,.pointer (some ⟨bx,0,none⟩)),(1,.int .i64 p),(2,.int .i64 e),(3,.int .i64 n),(8,.pointer (some ⟨bx,0,none⟩)),(9,.pointer (some ⟨bx,0,none⟩)),(10,.pointer (some ⟨bx,0,none⟩)),(11,.pointer (some ⟨bx,3,none⟩)),(12,o2x),(13,.int .i64 p),(14,.pointer (some ⟨Y6 o2x,Y8 o2x + (Int.toNat p) * 8,none⟩)),(15,.pointer (some ⟨(Y6 o2x),Y8 o2x + (Int.toNat p) * 8 + 4,none⟩)),(16,o5),(17,.int .i64 e),(18,.pointer (some ⟨bx,0,none⟩)),(19,.pointer (some ⟨bx,0,none⟩)),(20,.pointer (some ⟨bx,0,none⟩)),(21,.pointer (some ⟨bx,3,none⟩)),(22,o2x),(23,.int .i64 p),(24,.pointer (some ⟨Y6 o2x,Y8 o2x + (Int.toNat p) * 8,none⟩)),(25,.pointer (some ⟨(Y6 o2x),Y8 o2x + (Int.toNat p) * 8 + 4,none⟩)),(26,o5),(27,.int .i64 e),(28,.pointer (some ⟨Y6 o5,Y8 o5 + (Int.toNat e) * 1,none⟩)),(29,.int .i64 (((x.workers[(Int.toNat p)]'hi1).sums)[(Int.toNat e)]'hi2)),(30,.int .i64 n),(31,.int .i64 (IntKind.i64.wrap ((((x.workers[(Int.toNat p)]'hi1).sums)[(Int.toNat e)]'hi2) + n))),(32,.pointer (some ⟨Y6 o5,Y8 o5 + (Int.toNat e) * 1,none⟩)),(33,.pointer (some ⟨bx,0,none⟩)),(52,.bool (okx && (Yr (List.getD (List.set ((x.workers[(Int.toNat p)]'hi1).sums) (Int.toNat e) (IntKind.i64.wrap ((((x.workers[(Int.toNat p)]'hi1).sums)[(Int.toNat e)]'hi2) + n))) (Int.toNat e) default) (-1000000) 1000000)))] (fun w'=>ModR w w' lo w.heap.size ∧ w2.heap.size ≤ w'.heap.size ∧ OwF w' lo w.heap.size o1x x.graph.nodes f1 ∧ OwF w' lo w.heap.size o3x x.links f3 ∧ Own w' lo w.heap.size 5 o4x (List.flatMap (Enc.enc (α:=Token)) x.tokens) ∧ Own w' lo w.heap.size 3 o5x (List.flatMap (Enc.enc (α:=News)) x.news) ∧ Blk w' bx [o1x,.int .i64 x.graph.workers,.int .i64 x.graph.cap,o2x,o3x,o4x,o5x,.bool okx] ∧ Own w' lo w.heap.size 5 o1 (List.flatMap (Enc.enc (α:=Record)) ((x.workers[(Int.toNat p)]'hi1).queue)) ∧ Own w' lo w.heap.size 5 o2 (List.flatMap (Enc.enc (α:=Record)) ((x.workers[(Int.toNat p)]'hi1).staged)) ∧ Own w' lo w.heap.size 5 o3 (List.flatMap (Enc.enc (α:=Record)) ((x.workers[(Int.toNat p)]'hi1).inputs)) ∧ Own w' lo w.heap.size 4 o4 (List.flatMap (Enc.enc (α:=Cell)) ((x.workers[(Int.toNat p)]'hi1).cells)) ∧ Own w' lo w.heap.size 1 o6 (List.flatMap (Enc.enc (α:=Bool)) ((x.workers[(Int.toNat p)]'hi1).black)) ∧ Own w' lo w.heap.size 1 o7 (List.flatMap (Enc.enc (α:=Bool)) ((x.workers[(Int.toNat p)]'hi1).caps)) ∧ Own w' lo w.heap.size 2 o8 (List.flatMap (Enc.enc (α:=Done)) ((x.workers[(Int.toNat p)]'hi1).dones)) ∧ RowR f2 w' lo w.heap.size o2x (x.workers.take (Int.toNat p)) [o1,o2,o3,o4,o5,o6,o7,o8] (x.workers.drop ((Int.toNat p) + 1)) ∧ Own w' lo w.heap.size 1 o5 (List.flatMap (Enc.enc (α:=Int)) (List.set ((x.workers[(Int.toNat p)]'hi1).sums) (Int.toNat e) (IntKind.i64.wrap ((((x.workers[(Int.toNat p)]'hi1).sums)[(Int.toNat e)]'hi2) + n))))) ?_ ?_))))))))
 ·refine Y4 (gd:=38) Z Z (fun hg1=>?_) (fun hg1=>?_)
  ·refine Qn Z Z (Qd Z) Z (Qn Z Z (Xg Z) Z (Qn Z Z (Qb U7 Z) Z (Qn Z Z (Qb Xn Z) Z (Qn Z Z (Qk Uy Z (h1.one 3 Z)) Z (Qn Z Z (Qd Z) Z (Qn Z Z (Xk (i:=(Int.toNat p)) K5 Z Z (RowK.same1 hrow1 hl2 hn1) (by omega) (by simp;omega)) Z (Qn Z Z (Qs Vc Z) Z (Qn Z Z (Qk K0 Z ((RowK.at hrow1 hl2).one 4 Z)) Z (Qn Z Z (Qd Z) Z ?_)))))))))
   have hi4 : (Int.toNat e) < (List.set ((x.workers[(Int.toNat p)]'hi1).sums) (Int.toNat e) (IntKind.i64.wrap ((((x.workers[(Int.toNat p)]'hi1).sums)[(Int.toNat e)]'hi2) + n))).length:=(by first | assumption | omega | (simp only [List.length_set];first | assumption | omega) | (simp only [List.getElem_set_self,List.length_set];first | assumption | omega) | (simp only [Yn,Yh,List.length_set];first | assumption | omega))
   refine Qn Z Z (Xk (i:=(Int.toNat e)) Ux Z Z (Own.rd (by decide) hw10) (by omega) hi4) Z (Qn Z Z (Qk Yt Z ((RdS.getD (Own.rd (by decide) hw10) (i:=(Int.toNat e)) hi4).one 0 Z)) Z ?_)
   refine X2 Z Z ?_
   refine Qw Tryz.call106 Z (s_l01In (List.getD (List.set ((x.workers[(Int.toNat p)]'hi1).sums) (Int.toNat e) (IntKind.i64.wrap ((((x.workers[(Int.toNat p)]'hi1).sums)[(Int.toNat e)]'hi2) + n))) (Int.toNat e) default) (-1000000) 1000000 _ ) Z (fun _ w4 e2 hv=>?_)
   subst hv
   replace E:=E.ext e2;replace hw1:=hw1.ext e2;replace hw3:=hw3.ext e2;replace hw4:=hw4.ext e2;replace hw5:=hw5.ext e2;replace h1:=h1.ext e2;replace hw6:=hw6.ext e2;replace hw7:=hw7.ext e2;replace hw8:=hw8.ext e2;replace hw9:=hw9.ext e2;replace hw11:=hw11.ext e2;replace hw12:=hw12.ext e2;replace hw13:=hw13.ext e2;replace hrow1:=hrow1.ext e2;replace hw10:=hw10.ext e2
   have z3:=e2.size
   refine Qa (Qx Z Z) Z (Qr ⟨Z,Z,Z,Z,Z,Z,Z,Z,Z,Z,Z,Z,Z,Z,Z,Z,Z,Z,Z,Z,Z,Z,Z,Z,Z,Z,Z,Z,Z,Z,congrArg (fun b=>some (Value.bool b)) (show (Yr (List.getD (List.set ((x.workers[(Int.toNat p)]'hi1).sums) (Int.toNat e) (IntKind.i64.wrap ((((x.workers[(Int.toNat p)]'hi1).sums)[(Int.toNat e)]'hi2) + n))) (Int.toNat e) default) (-1000000) 1000000) = (okx && (Yr (List.getD (List.set ((x.workers[(Int.toNat p)]'hi1).sums) (Int.toNat e) (IntKind.i64.wrap ((((x.workers[(Int.toNat p)]'hi1).sums)[(Int.toNat e)]'hi2) + n))) (Int.toNat e) default) (-1000000) 1000000)) by first | (rw [hg1] <;> rfl) | (simp [hg1];done) | (simp only [Qq] <;> simp)),trivial⟩ ⟨E,(by omega),hw1,hw3,hw4,hw5,h1,hw6,hw7,hw8,hw9,hw11,hw12,hw13,hrow1,hw10⟩)
  ·refine Qg Z Z Z Z (Qg Z Z Z Z (Qg Z Z Z Z (Qg Z Z Z Z (Qg Z Z Z Z (Qg Z Z Z Z (Qg Z Z Z Z (Qg Z Z Z Z (Qg Z Z Z Z (Qg Z Z Z Z (Qg Z Z Z Z (Qg Z Z Z Z ?_)))))))))))
   refine Yx Z Z Z Z ?_
   refine Qa (Q1 Z Z) Z (Qr ⟨Z,Z,Z,Z,Z,Z,Z,Z,Z,Z,Z,Z,Z,Z,Z,Z,Z,Z,Z,Z,Z,Z,Z,Z,Z,Z,Z,Z,Z,Z,congrArg (fun b=>some (Value.bool b)) (show false = (okx && (Yr (List.getD (List.set ((x.workers[(Int.toNat p)]'hi1).sums) (Int.toNat e) (IntKind.i64.wrap ((((x.workers[(Int.toNat p)]'hi1).sums)[(Int.toNat e)]'hi2) + n))) (Int.toNat e) default) (-1000000) 1000000)) by first | (rw [hg1] <;> rfl) | (simp [hg1];done) | (simp only [Qq] <;> simp)),trivial⟩ ⟨E,(by omega),hw1,hw3,hw4,hw5,h1,hw6,hw7,hw8,hw9,hw11,hw12,hw13,hrow1,hw10⟩)
 clear E hw1 hw3 hw4 hw5 h1 hw6 hw7 hw8 hw9 hw11 hw12 hw13 hrow1 hw10
 rintro w3 ⟨E,z4,hw1,hw3,hw4,hw5,h1,hw6,hw7,hw8,hw9,hw11,hw12,hw13,hrow1,hw10⟩
 refine Qa (Xg Z) Z (Qa (Qb fl58_1 Z) Z (Yj (cs':=[o1x,.int .i64 x.graph.workers,.int .i64 x.graph.cap,o2x,o3x,o4x,o5x,.bool (okx && (Yr (List.getD (List.set ((x.workers[(Int.toNat p)]'hi1).sums) (Int.toNat e) (IntKind.i64.wrap ((((x.workers[(Int.toNat p)]'hi1).sums)[(Int.toNat e)]'hi2) + n))) (Int.toNat e) default) (-1000000) 1000000))]) Hs Z Z Z h1 (Nat.le_of_ble_eq_true Z) Z (fun w5 m2 h1'=>?_)))
 replace h1:=h1'
 have kq2:=Mod.kq (l:=[bx]) m2 (fun g hg=>by cases hg;simp)
 replace E:=E.mod m2 (fun g hg=>by cases hg;omega);replace hw1:=OwF.kp hw1 (Kq.kp kq2 sp1.1.2.2.2.2.1);replace hw3:=OwF.kp hw3 (Kq.kp kq2 sp1.2.2.1.2.2.1);replace hw4:=Own.kp hw4 (Kq.kp kq2 sp1.2.2.2.1.2.1);replace hw5:=Own.kp hw5 (Kq.kp kq2 sp1.2.2.2.2.1.1);replace hw6:=Own.kp hw6 (Kq.kp kq2 (fun b hb=>sp1.2.1.2.2.2.1 b (RowK.fpr_mem hrow1 (by simp) b (mem_blks.1 hb))));replace hw7:=Own.kp hw7 (Kq.kp kq2 (fun b hb=>sp1.2.1.2.2.2.1 b (RowK.fpr_mem hrow1 (by simp) b (mem_blks.1 hb))));replace hw8:=Own.kp hw8 (Kq.kp kq2 (fun b hb=>sp1.2.1.2.2.2.1 b (RowK.fpr_mem hrow1 (by simp) b (mem_blks.1 hb))));replace hw9:=Own.kp hw9 (Kq.kp kq2 (fun b hb=>sp1.2.1.2.2.2.1 b (RowK.fpr_mem hrow1 (by simp) b (mem_blks.1 hb))));replace hw11:=Own.kp hw11 (Kq.kp kq2 (fun b hb=>sp1.2.1.2.2.2.1 b (RowK.fpr_mem hrow1 (by simp) b (mem_blks.1 hb))));replace hw12:=Own.kp hw12 (Kq.kp kq2 (fun b hb=>sp1.2.1.2.2.2.1 b (RowK.fpr_mem hrow1 (by simp) b (mem_blks.1 hb))));replace hw13:=Own.kp hw13 (Kq.kp kq2 (fun b hb=>sp1.2.1.2.2.2.1 b (RowK.fpr_mem hrow1 (by simp) b (mem_blks.1 hb))));replace hrow1:=RowR.kp hrow1 (Kq.kp kq2 sp1.2.1.2.2.2.1);replace hw10:=Own.kp hw10 (Kq.kp kq2 (fun b hb=>sp1.2.1.2.2.2.1 b (RowK.fpr_mem hrow1 (by simp) b (mem_blks.1 hb))))
 have z5:=m2.size
 refine Qc (Q6 (E_fall (Vk (l:=[]) (vs:=[]) Z trivial Z E ?_)))
 have hw2:=(RowK.close hrow1 (Worker.mkO (⟨(x.workers[(Int.toNat p)]'hi1).queue,(x.workers[(Int.toNat p)]'hi1).staged,(x.workers[(Int.toNat p)]'hi1).inputs,(x.workers[(Int.toNat p)]'hi1).cells,List.set ((x.workers[(Int.toNat p)]'hi1).sums) (Int.toNat e) (IntKind.i64.wrap ((((x.workers[(Int.toNat p)]'hi1).sums)[(Int.toNat e)]'hi2) + n)),(x.workers[(Int.toNat p)]'hi1).black,(x.workers[(Int.toNat p)]'hi1).caps,(x.workers[(Int.toNat p)]'hi1).dones⟩ : Worker) sp2 (Own.widen hw6 (by omega) (by omega)) (Own.widen hw7 (by omega) (by omega)) (Own.widen hw8 (by omega) (by omega)) (Own.widen hw9 (by omega) (by omega)) (Own.widen hw10 (by omega) (by omega)) (Own.widen hw11 (by omega) (by omega)) (Own.widen hw12 (by omega) (by omega)) (Own.widen hw13 (by omega) (by omega)))).1
 clear hrow1
 rw [← V4 hi1] at hw2
 clear hfl1
 rw [sum_x hwp.2.2 hes,sum_k hwp.2.2 hes]
 exact ⟨Z,⟨f1,f2,f3,h1,(by omega),(OwF.widen hw1 (Nat.le_refl _) (by omega)),(OwF.widen hw2 (Nat.le_refl _) (by omega)),(OwF.widen hw3 (Nat.le_refl _) (by omega)),(Own.widen hw4 (by omega) (by omega)),(Own.widen hw5 (by omega) (by omega)),sp1⟩⟩

set_option maxHeartbeats 4000000 in
set_option maxRecDepth 20000 in
theorem c_PickMove (cx : List Value) (x : Cluster) (p : Int) (w : World) (hx : Dat.R w 0 w.heap.size cx x) (hb : Yb x ≤ 1048576) (hok : ∀ l ∈ x.links,rg l.got) (hgw : rg x.graph.workers) : Ct Tryz.prog 13 [.agg cx.toArray,.int .i64 p] w (fun v w'=>∃ q00 q01 q02 q03 q04,v = .tuple [.agg [q00,.int .i64 ((((Qp x p).1).graph).workers),.int .i64 ((((Qp x p).1).graph).cap),q01,q02,q03,q04].toArray,.bool ((Qp x p).2)].toArray ∧ OwC w' w.heap.size w'.heap.size q00 q01 q02 q03 q04 ((Qp x p).1)):=by
 refine Ym Tryz.func13 Z Tryz.ntmps13 Z ?_
 obtain ⟨o1,o2,o3,o4,o5,rfl,hd1,hd2,hd3,hd4,hd5⟩:=Cluster.op hx
 refine Q8 [(0,.agg [o1,.int .i64 x.graph.workers,.int .i64 x.graph.cap,o2,o3,o4,o5].toArray),(1,.int .i64 p)] ⟨Z,Z,trivial⟩ ?_
 have E : Ext w w:=Ext.refl w
 refine Qe (Qh [false,false,true] Z Z (Y1 Z Z (fun b1 w1 e1 s1 h1=>?_)))
 have g_b1 : w.heap.size ≤ b1:=by have:=E.size;omega
 have y_b1:=h1.lt
 replace E:=E.trans e1
 have z1:=e1.size
 refine Yo Xw Z (fun b2 w2 e2 s2 h2=>?_)
 have g_b2 : w.heap.size ≤ b2:=by have:=E.size;omega
 have y_b2:=h2.lt
 replace E:=E.trans e2;replace h1:=h1.ext e2
 have z2:=e2.size
 refine Qa (Qf Z) Z (Qc (Qe (Qh [true,false,false,false] Z Z (Qa (Qy Xw Z h1.at Z) Z (Qw Tryz.call26 Z (c_copyCluster [o1,.int .i64 x.graph.workers,.int .i64 x.graph.cap,o2,o3,o4,o5] x _ (Cluster.mkR x (RdD.any (hd1.ext E)) (RdD.any (hd2.ext E)) (RdD.any (hd3.ext E)) (RdD.any (hd4.ext E)) (RdD.any (hd5.ext E))) (by first | omega | (simp only [Qi];omega) | (rw [Qi];done) | (simp only [Qi];done))) Z (fun _ w3 e3 ho1=>?_))))))
 obtain ⟨o6,o7,o8,o9,o10,rfl,ho1⟩:=ho1
 have g_ho1 : w.heap.size ≤ w2.heap.size:=E.size
 replace E:=E.trans e3;replace h1:=h1.ext e3;replace h2:=h2.ext e3
 have z3:=e3.size
 refine Yo Xw Z (fun b3 w4 e4 s3 h3=>?_)
 have g_b3 : w.heap.size ≤ b3:=by have:=E.size;omega
 have y_b3:=h3.lt
 replace E:=E.trans e4;replace h1:=h1.ext e4;replace h2:=h2.ext e4;replace ho1:=ho1.ext e4
 have z4:=e4.size
 refine Q4 (cs':=[o6,.int .i64 x.graph.workers,.int .i64 x.graph.cap,o7,o8,o9,o10]) Xw Z Z Z (Qj (RdD.one (OwC.rd1 ho1)) (Qj Z (Qj Z (Qj (RdD.one (OwC.rd2 ho1)) (Qj (RdD.one (OwC.rd3 ho1)) (Qj (RdD.one (OwC.rd4 ho1)) (Qj (RdD.one (OwC.rd5 ho1)) Z))))))) h3 (Nat.le_of_ble_eq_true Z) Z (fun w5 m1 h3'=>?_)
 replace h3:=h3'
 replace E:=E.step m1 (fun g hg=>by cases hg;omega);replace h1:=h1.mod m1 (fun g hg=>by cases hg;omega);replace h2:=h2.mod m1 (fun g hg=>by cases hg;omega);replace ho1:=ho1.mod m1 (fun g hg=>by cases hg;omega)
 have z5:=m1.size
 refine Qc (Qe (Qe (Qh [true,true,false,true,true,true,true,true,true,true,true,true,true,true] Z Z (Qa (Qy Xw Z h1.at Z) Z (Qa (Qd Z) Z (Qw Tryz.call46 Z (c_hasWorker [o1,.int .i64 x.graph.workers,.int .i64 x.graph.cap,o2,o3,o4,o5] x p _ (Cluster.mkR x (RdD.any (hd1.ext E)) (RdD.any (hd2.ext E)) (RdD.any (hd3.ext E)) (RdD.any (hd4.ext E)) (RdD.any (hd5.ext E))) (by first | omega | (simp only [Qi];omega) | (rw [Qi];done) | (simp only [Qi];done))) Z (fun _ w6 e5 hv=>?_)))))))
 subst hv
 replace E:=E.trans e5;replace h1:=h1.ext e5;replace h2:=h2.ext e5;replace ho1:=ho1.ext e5;replace h3:=h3.ext e5
 have z6:=e5.size
 refine Qa (Yy Z) Z (Qa (Qd Z) Z (Xf 9 [(0,.agg [o1,.int .i64 x.graph.workers,.int .i64 x.graph.cap,o2,o3,o4,o5].toArray),(1,.int .i64 p),(2,.pointer (some ⟨b1,0,none⟩)),(4,.pointer (some ⟨b2,0,none⟩)),(5,.bool false),(6,.pointer (some ⟨b3,0,none⟩)),(14,.agg [o1,.int .i64 x.graph.workers,.int .i64 x.graph.cap,o2,o3,o4,o5].toArray),(15,.agg [o6,.int .i64 x.graph.workers,.int .i64 x.graph.cap,o7,o8,o9,o10].toArray),(29,.bool ((!(Tu x p)) || (((((List.getD x.workers (Int.toNat p) default).staged).length : Nat) : Int) == 0)))] (fun w'=>w6 = w') ?_ ?_))
 ·refine Y4 (gd:=20) Z Z (fun hg1=>?_) (fun hg1=>?_)
  ·refine Qg Z Z Z Z (Qg Z Z Z Z (Qg Z Z Z Z (Qg Z Z Z Z (Qg Z Z Z Z (Qg Z Z Z Z (Qg Z Z Z Z (Qg Z Z Z Z (Qa (Qx Z Z) Z (Qr ⟨Z,Z,Z,Z,Z,Z,Z,Z,congrArg (fun b=>some (Value.bool b)) (show true = ((!(Tu x p)) || (((((List.getD x.workers (Int.toNat p) default).staged).length : Nat) : Int) == 0)) by first | (rw [hg1] <;> rfl) | (simp [hg1];done) | (simp only [Qq] <;> simp)),trivial⟩ Z)))))))))
  ·have hhw:=Ba hd2.1.1 (by simpa using hg1)
   refine Qn Z Z (Qb Xn Z) Z (Qn Z Z (Qk Uy Z (h1.one 3 Z)) Z (Qn Z Z (Qd Z) Z ?_))
   have hi1 : (Int.toNat p) < x.workers.length:=(by first | assumption | omega | (simp only [List.length_set];first | assumption | omega) | (simp only [List.getElem_set_self,List.length_set];first | assumption | omega) | (simp only [Yn,Yh,List.length_set];first | assumption | omega))
   obtain ⟨_,hr1,ha1⟩:=RdD.getD hd2 hi1
   obtain ⟨o11,o12,o13,o14,o15,o16,o17,o18,rfl,hd6,hd7,hd8,hd9,hd10,hd11,hd12,hd13⟩:=Worker.op hr1
   replace ha1 : At w (Y6 o2) (Y8 o2 + (Int.toNat p) * 8) [o11,o12,o13,o14,o15,o16,o17,o18]:=ha1
   refine Qn Z Z (Xk (i:=(Int.toNat p)) K5 Z Z (hd2.ext E).1 (by omega) hi1) Z (Qn Z Z (Qs Un Z) Z (Qn Z Z (Qk Xq Z ((ha1.ext E).one 1 Z)) Z (Qn Z Z (Yc Tryz.underlying66 Z (hd7.ext E).len) Z (Qn Z Z (Xm Z Z) Z (Qa (Q1 Z Z) Z (Qr ⟨Z,Z,Z,Z,Z,Z,Z,Z,congrArg (fun b=>some (Value.bool b)) (show (((((List.getD x.workers (Int.toNat p) default).staged).length : Nat) : Int) == 0) = ((!(Tu x p)) || (((((List.getD x.workers (Int.toNat p) default).staged).length : Nat) : Int) == 0)) by first | (rw [hg1] <;> rfl) | (simp [hg1];done) | (simp only [Qq] <;> simp)),trivial⟩ Z))))))
 rintro _ rfl
 refine Qc (Qt Z (fun hc1=>?_) (fun hc1=>?_))
 ·refine Qe (Qh [true,false,true] Z Z (Qa (Qy Xw Z h3.at Z) Z (Q4 (cs':=[o6,.int .i64 x.graph.workers,.int .i64 x.graph.cap,o7,o8,o9,o10]) Xw Z Z Z (Qj (RdD.one (OwC.rd1 ho1)) (Qj Z (Qj Z (Qj (RdD.one (OwC.rd2 ho1)) (Qj (RdD.one (OwC.rd3 ho1)) (Qj (RdD.one (OwC.rd4 ho1)) (Qj (RdD.one (OwC.rd5 ho1)) Z))))))) h2 (Nat.le_of_ble_eq_true Z) Z (fun w8 m2 h2'=>?_))))
  replace h2:=h2'
  replace E:=E.step m2 (fun g hg=>by cases hg;omega);replace h1:=h1.mod m2 (fun g hg=>by cases hg;omega);replace ho1:=ho1.mod m2 (fun g hg=>by cases hg;omega);replace h3:=h3.mod m2 (fun g hg=>by cases hg;omega)
  have z7:=m2.size
  refine Qa (Qf Z) Z (Qc (Qv (Vk (l:=[.cell 4 40,.tmp 5]) (vs:=[.agg [o6,.int .i64 x.graph.workers,.int .i64 x.graph.cap,o7,o8,o9,o10].toArray,.bool false]) Z ⟨.cell Z (Yd Xw h2.at Z),.tmp Z,trivial⟩ Z E ?_)))
  rw [Qp,if_neg (mv_no hc1)]
  exact ⟨_,_,_,_,_,Z,(OwC.widen ho1 (by have:=E.size;omega) (by omega))⟩
 ·have hms:=mv_yes hc1
  have hhw:=Ba hd2.1.1 hms.1
  have hcl:=Am (cnt:=Q7) hhw.2.2.2
  have hb2:=hb;unfold Yb at hb2
  have hi2 : (Int.toNat p) < x.workers.length:=(by first | assumption | omega | (simp only [List.length_set];first | assumption | omega) | (simp only [List.getElem_set_self,List.length_set];first | assumption | omega) | (simp only [Yn,Yh,List.length_set];first | assumption | omega))
  obtain ⟨_,hr2,ha2⟩:=RdD.get hd2 hi2
  obtain ⟨o19,o20,o21,o22,o23,o24,o25,o26,rfl,hd14,hd15,hd16,hd17,hd18,hd19,hd20,hd21⟩:=Worker.op hr2
  replace ha2 : At w (Y6 o2) (Y8 o2 + (Int.toNat p) * 8) [o19,o20,o21,o22,o23,o24,o25,o26]:=ha2
  refine Qo (Qe (Qh [true,true,true,true,true,false,true,true,true,true,false,false,false,false,true] Z Z (Qa (Qb Xn Z) Z (Qa (Qk Uy Z (h1.one 3 Z)) Z (Qa (Qd Z) Z (Qa (Xk (i:=(Int.toNat p)) K5 Z Z (hd2.ext E).1 (by omega) hi2) Z (Qa (Qy X8 Z (ha2.ext E) Z) Z (Qw Tryz.call47 Z (c_Unstaged [o19,o20,o21,o22,o23,o24,o25,o26] (x.workers[(Int.toNat p)]'hi2) _ (Worker.mkR (x.workers[(Int.toNat p)]'hi2) (RdD.any (hd14.ext E)) (RdD.any (hd15.ext E)) (RdD.any (hd16.ext E)) (RdD.any (hd17.ext E)) (RdD.any (hd18.ext E)) (RdD.any (hd19.ext E)) (RdD.any (hd20.ext E)) (RdD.any (hd21.ext E))) (by omega)) Z (fun _ w9 e6 ho2=>?_)))))))))
  obtain ⟨_,rfl,ho3⟩:=ho2
  have g_ho2 : w.heap.size ≤ w6.heap.size:=E.size
  replace E:=E.trans e6;replace h1:=h1.ext e6;replace h2:=h2.ext e6;replace ho1:=ho1.ext e6;replace h3:=h3.ext e6
  have z8:=e6.size
  obtain ⟨o27,o28,o29,o30,o31,o32,o33,o34,rfl,sp1,hw1,hw2,hw3,hw4,hw5,hw6,hw7,hw8⟩:=Worker.opO ho3
  refine Qa (Qd Z) Z (Qa (Kz Z Z) Z (Qa (Kz Z Z) Z (Qa (Kz Z Z) Z (Yo X8 Z (fun b4 w10 e7 s4 h4=>?_)))))
  have g_b4 : w.heap.size ≤ b4:=by have:=E.size;omega
  have y_b4:=h4.lt
  replace E:=E.trans e7;replace h1:=h1.ext e7;replace h2:=h2.ext e7;replace ho1:=ho1.ext e7;replace h3:=h3.ext e7;replace hw1:=hw1.ext e7;replace hw2:=hw2.ext e7;replace hw3:=hw3.ext e7;replace hw4:=hw4.ext e7;replace hw5:=hw5.ext e7;replace hw6:=hw6.ext e7;replace hw7:=hw7.ext e7;replace hw8:=hw8.ext e7
  have z9:=e7.size
  refine Yo Ul Z (fun b5 w11 e8 s5 h5=>?_)
  have g_b5 : w.heap.size ≤ b5:=by have:=E.size;omega
  have y_b5:=h5.lt
  replace E:=E.trans e8;replace h1:=h1.ext e8;replace h2:=h2.ext e8;replace ho1:=ho1.ext e8;replace h3:=h3.ext e8;replace hw1:=hw1.ext e8;replace hw2:=hw2.ext e8;replace hw3:=hw3.ext e8;replace hw4:=hw4.ext e8;replace hw5:=hw5.ext e8;replace hw6:=hw6.ext e8;replace hw7:=hw7.ext e8;replace hw8:=hw8.ext e8;replace h4:=h4.ext e8
  have z10:=e8.size
  refine Q4 (cs':=[o27,o28,o29,o30,o31,o32,o33,o34]) X8 Z Z Z (Qj hw1.one (Qj hw2.one (Qj hw3.one (Qj hw4.one (Qj hw5.one (Qj hw6.one (Qj hw7.one (Qj hw8.one Z)))))))) h4 (Nat.le_of_ble_eq_true Z) Z (fun w12 m3 h4'=>?_)
  replace h4:=h4'
  replace E:=E.step m3 (fun g hg=>by cases hg;omega);replace h1:=h1.mod m3 (fun g hg=>by cases hg;omega);replace h2:=h2.mod m3 (fun g hg=>by cases hg;omega);replace ho1:=ho1.mod m3 (fun g hg=>by cases hg;omega);replace h3:=h3.mod m3 (fun g hg=>by cases hg;omega);replace hw1:=hw1.mod m3 (fun g hg=>by cases hg;omega);replace hw2:=hw2.mod m3 (fun g hg=>by cases hg;omega);replace hw3:=hw3.mod m3 (fun g hg=>by cases hg;omega);replace hw4:=hw4.mod m3 (fun g hg=>by cases hg;omega);replace hw5:=hw5.mod m3 (fun g hg=>by cases hg;omega);replace hw6:=hw6.mod m3 (fun g hg=>by cases hg;omega);replace hw7:=hw7.mod m3 (fun g hg=>by cases hg;omega);replace hw8:=hw8.mod m3 (fun g hg=>by cases hg;omega);replace h5:=h5.mod m3 (fun g hg=>by cases hg;omega)
  have z11:=m3.size
  refine Q4 (cs':=[.int .i64 (((Q9 (x.workers[(Int.toNat p)]'hi2)).2.1).op),.int .i64 ((((Q9 (x.workers[(Int.toNat p)]'hi2)).2.1).stamp).epoch),.int .i64 ((((Q9 (x.workers[(Int.toNat p)]'hi2)).2.1).stamp).turn),.int .i64 (((Q9 (x.workers[(Int.toNat p)]'hi2)).2.1).key),.int .i64 (((Q9 (x.workers[(Int.toNat p)]'hi2)).2.1).val)]) Ul Z Z Z Z h5 (Nat.le_of_ble_eq_true Z) Z (fun w13 m4 h5'=>?_)
  replace h5:=h5'
  replace E:=E.step m4 (fun g hg=>by cases hg;omega);replace h1:=h1.mod m4 (fun g hg=>by cases hg;omega);replace h2:=h2.mod m4 (fun g hg=>by cases hg;omega);replace ho1:=ho1.mod m4 (fun g hg=>by cases hg;omega);replace h3:=h3.mod m4 (fun g hg=>by cases hg;omega);replace hw1:=hw1.mod m4 (fun g hg=>by cases hg;omega);replace hw2:=hw2.mod m4 (fun g hg=>by cases hg;omega);replace hw3:=hw3.mod m4 (fun g hg=>by cases hg;omega);replace hw4:=hw4.mod m4 (fun g hg=>by cases hg;omega);replace hw5:=hw5.mod m4 (fun g hg=>by cases hg;omega);replace hw6:=hw6.mod m4 (fun g hg=>by cases hg;omega);replace hw7:=hw7.mod m4 (fun g hg=>by cases hg;omega);replace hw8:=hw8.mod m4 (fun g hg=>by cases hg;omega);replace h4:=h4.mod m4 (fun g hg=>by cases hg;omega)
  have z12:=m4.size
  refine Qa (Qf Z) Z (Qc (Qe (Qh [true,true,true,true,true,false,true] Z Z (Qa (Qb Tf Z) Z (Qa (Qk Yt Z (h5.one 3 Z)) Z (Qa (Qb Ue Z) Z (Qa (Qb Vf Z) Z (Qa (Qk Yt Z (h1.one 1 Z)) Z (Qw Tryz.call48 Z (c_OwnerOf (((Q9 (x.workers[(Int.toNat p)]'hi2)).2.1).key) x.graph.workers _ hgw) Z (fun _ w14 e9 hv=>?_))))))))))
  subst hv
  replace E:=E.trans e9;replace h1:=h1.ext e9;replace h2:=h2.ext e9;replace ho1:=ho1.ext e9;replace h3:=h3.ext e9;replace hw1:=hw1.ext e9;replace hw2:=hw2.ext e9;replace hw3:=hw3.ext e9;replace hw4:=hw4.ext e9;replace hw5:=hw5.ext e9;replace hw6:=hw6.ext e9;replace hw7:=hw7.ext e9;replace hw8:=hw8.ext e9;replace h4:=h4.ext e9;replace h5:=h5.ext e9
  have z13:=e9.size
  refine Qa (Qf Z) Z (Qc (Qe (Qe (Qh [true,true,true] Z Z (Qa (Qd Z) Z (Qa (Qd Z) Z (Qa (Xm Z Z) Z (Qc (Qt Z (fun hc2=>?_) (fun hc2=>?_))))))))))
  ·refine Qe (Xx Xs [(0,true),(1,true),(2,true),(3,true),(4,true),(5,false),(6,true),(7,false)] (by decide +kernel) Z (fun w15 e10=>?_))
   replace E:=E.trans e10;replace h1:=h1.ext e10;replace h2:=h2.ext e10;replace ho1:=ho1.ext e10;replace h3:=h3.ext e10;replace hw1:=hw1.ext e10;replace hw2:=hw2.ext e10;replace hw3:=hw3.ext e10;replace hw4:=hw4.ext e10;replace hw5:=hw5.ext e10;replace hw6:=hw6.ext e10;replace hw7:=hw7.ext e10;replace hw8:=hw8.ext e10;replace h4:=h4.ext e10;replace h5:=h5.ext e10
   have z14:=e10.size
   refine Qa (Qb Xn Z) Z (Qa (Qk Uy Z (h3.one 3 Z)) Z (Qa (Qd Z) Z (Qa (Qy X8 Z h4.at Z) Z (Qa (Qy Ul Z h5.at Z) Z (Qw Tryz.call49 Z (c_Kept [o27,o28,o29,o30,o31,o32,o33,o34] ((Q9 (x.workers[(Int.toNat p)]'hi2)).1) ((Q9 (x.workers[(Int.toNat p)]'hi2)).2.1) _ (Worker.mkR ((Q9 (x.workers[(Int.toNat p)]'hi2)).1) (RdD.any (Own.rdD hw1)) (RdD.any (Own.rdD hw2)) (RdD.any (Own.rdD hw3)) (RdD.any (Own.rdD hw4)) (RdD.any (Own.rdD hw5)) (RdD.any (Own.rdD hw6)) (RdD.any (Own.rdD hw7)) (RdD.any (Own.rdD hw8))) (Nat.le_trans (B2 _) (by omega))) Z (fun _ w16 e11 ho4=>?_))))))
   obtain ⟨_,rfl,ho4⟩:=ho4
   have g_ho4 : w.heap.size ≤ w15.heap.size:=E.size
   replace E:=E.trans e11;replace h1:=h1.ext e11;replace h2:=h2.ext e11;replace ho1:=ho1.ext e11;replace h3:=h3.ext e11;replace hw1:=hw1.ext e11;replace hw2:=hw2.ext e11;replace hw3:=hw3.ext e11;replace hw4:=hw4.ext e11;replace hw5:=hw5.ext e11;replace hw6:=hw6.ext e11;replace hw7:=hw7.ext e11;replace hw8:=hw8.ext e11;replace h4:=h4.ext e11;replace h5:=h5.ext e11
   have z15:=e11.size
   obtain ⟨o35,o36,o37,o38,o39,o40,o41,o42,rfl,sp2,hw9,hw10,hw11,hw12,hw13,hw14,hw15,hw16⟩:=Worker.opO ho4
   have hi3 : (Int.toNat p) < x.workers.length:=(by first | assumption | omega | (simp only [List.length_set];first | assumption | omega) | (simp only [List.getElem_set_self,List.length_set];first | assumption | omega) | (simp only [Yn,Yh,List.length_set];first | assumption | omega))
   refine Qa (Xk (i:=(Int.toNat p)) K5 Z Z (OwC.rd2 ho1).1 (by omega) hi3) Z ?_
   have hqb1:=OwC.blk2 ho1
   have hqb2:=OwC.blk3 ho1
   refine Ga Z Z (OwC.setW (lo2:=w15.heap.size) (hi2:=w16.heap.size) X8 ho1 hi3 (Worker.mkO (T4 ((Q9 (x.workers[(Int.toNat p)]'hi2)).1) ((Q9 (x.workers[(Int.toNat p)]'hi2)).2.1)) sp2 (Own.widen hw9 (by omega) (by omega)) (Own.widen hw10 (by omega) (by omega)) (Own.widen hw11 (by omega) (by omega)) (Own.widen hw12 (by omega) (by omega)) (Own.widen hw13 (by omega) (by omega)) (Own.widen hw14 (by omega) (by omega)) (Own.widen hw15 (by omega) (by omega)) (Own.widen hw16 (by omega) (by omega))) (by omega) (by omega) (by omega)) (fun w17 m5 ho1'=>?_)
   replace ho1:=ho1'
   replace E:=E.step m5 (fun g hg=>by have:=hqb1 g hg;omega);replace h1:=h1.mod m5 (fun g hg=>by have:=hqb1 g hg;omega);replace h2:=h2.mod m5 (fun g hg=>by have:=hqb1 g hg;omega);replace h3:=h3.mod m5 (fun g hg=>by have:=hqb1 g hg;omega);replace hw1:=hw1.mod m5 (fun g hg=>by have:=hqb1 g hg;omega);replace hw2:=hw2.mod m5 (fun g hg=>by have:=hqb1 g hg;omega);replace hw3:=hw3.mod m5 (fun g hg=>by have:=hqb1 g hg;omega);replace hw4:=hw4.mod m5 (fun g hg=>by have:=hqb1 g hg;omega);replace hw5:=hw5.mod m5 (fun g hg=>by have:=hqb1 g hg;omega);replace hw6:=hw6.mod m5 (fun g hg=>by have:=hqb1 g hg;omega);replace hw7:=hw7.mod m5 (fun g hg=>by have:=hqb1 g hg;omega);replace hw8:=hw8.mod m5 (fun g hg=>by have:=hqb1 g hg;omega);replace h4:=h4.mod m5 (fun g hg=>by have:=hqb1 g hg;omega);replace h5:=h5.mod m5 (fun g hg=>by have:=hqb1 g hg;omega)
   have z16:=m5.size
   refine Qc (Qe (Qh [true,false,true] Z Z (Qa (Qy Xw Z h3.at Z) Z (Q4 (cs':=[o6,.int .i64 x.graph.workers,.int .i64 x.graph.cap,o7,o8,o9,o10]) Xw Z Z Z (Qj (RdD.one (OwC.rd1 ho1)) (Qj Z (Qj Z (Qj (RdD.one (OwC.rd2 ho1)) (Qj (RdD.one (OwC.rd3 ho1)) (Qj (RdD.one (OwC.rd4 ho1)) (Qj (RdD.one (OwC.rd5 ho1)) Z))))))) h2 (Nat.le_of_ble_eq_true Z) Z (fun w18 m6 h2'=>?_)))))
   replace h2:=h2'
   replace E:=E.step m6 (fun g hg=>by cases hg;omega);replace h1:=h1.mod m6 (fun g hg=>by cases hg;omega);replace ho1:=ho1.mod m6 (fun g hg=>by cases hg;omega);replace h3:=h3.mod m6 (fun g hg=>by cases hg;omega);replace hw1:=hw1.mod m6 (fun g hg=>by cases hg;omega);replace hw2:=hw2.mod m6 (fun g hg=>by cases hg;omega);replace hw3:=hw3.mod m6 (fun g hg=>by cases hg;omega);replace hw4:=hw4.mod m6 (fun g hg=>by cases hg;omega);replace hw5:=hw5.mod m6 (fun g hg=>by cases hg;omega);replace hw6:=hw6.mod m6 (fun g hg=>by cases hg;omega);replace hw7:=hw7.mod m6 (fun g hg=>by cases hg;omega);replace hw8:=hw8.mod m6 (fun g hg=>by cases hg;omega);replace h4:=h4.mod m6 (fun g hg=>by cases hg;omega);replace h5:=h5.mod m6 (fun g hg=>by cases hg;omega)
   have z17:=m6.size
   refine Qa (Qf Z) Z (Qc (Qv (Vk (l:=[.cell 4 40,.tmp 5]) (vs:=[.agg [o6,.int .i64 x.graph.workers,.int .i64 x.graph.cap,o7,o8,o9,o10].toArray,.bool true]) Z ⟨.cell Z (Yd Xw h2.at Z),.tmp Z,trivial⟩ Z E ?_)))
   rw [mv_k hhw hms hc2]
   exact ⟨_,_,_,_,_,Z,(OwC.widen ho1 (by have:=E.size;omega) (by omega))⟩
  ·have hmv:=move_in (k:=((Q9 (x.workers[Int.toNat p]'hhw.2.2.2)).2.1).key) hhw
   have hcm:=Am (cnt:=Y5) hmv.2
   refine Qo (Qe (Qh [true,true,true,true,false,true] Z Z (Qa (Qb Ue Z) Z (Qa (Qy Uq Z (h1.part 0 [o1,.int .i64 x.graph.workers,.int .i64 x.graph.cap] Z) Z) Z (Qa (Qd Z) Z (Qa (Qd Z) Z (Qw Tryz.call50 Z (c_LinkPlace [o1,.int .i64 x.graph.workers,.int .i64 x.graph.cap] x.graph p (Ql (((Q9 (x.workers[(Int.toNat p)]'hi2)).2.1).key) x.graph.workers) _ (Graph.mkR x.graph (RdD.any (hd1.ext E)))) Z (fun _ w19 e12 hv=>?_))))))))
   subst hv
   replace E:=E.trans e12;replace h1:=h1.ext e12;replace h2:=h2.ext e12;replace ho1:=ho1.ext e12;replace h3:=h3.ext e12;replace hw1:=hw1.ext e12;replace hw2:=hw2.ext e12;replace hw3:=hw3.ext e12;replace hw4:=hw4.ext e12;replace hw5:=hw5.ext e12;replace hw6:=hw6.ext e12;replace hw7:=hw7.ext e12;replace hw8:=hw8.ext e12;replace h4:=h4.ext e12;replace h5:=h5.ext e12
   have z18:=e12.size
   refine Qa (Qf Z) Z (Qc (Qe ?_))
   have hi4 : (Int.toNat (Qu x.graph p (Ql (((Q9 (x.workers[(Int.toNat p)]'hi2)).2.1).key) x.graph.workers))) < x.links.length:=(by first | assumption | omega | (simp only [List.length_set];first | assumption | omega) | (simp only [List.getElem_set_self,List.length_set];first | assumption | omega) | (simp only [Yn,Yh,List.length_set];first | assumption | omega))
   obtain ⟨_,hr3,ha3⟩:=RdD.get hd3 hi4
   obtain ⟨o43,rfl,hd22⟩:=Link.op hr3
   replace ha3 : At w (Y6 o3) (Y8 o3 + (Int.toNat (Qu x.graph p (Ql (((Q9 (x.workers[(Int.toNat p)]'hi2)).2.1).key) x.graph.workers))) * 6) [.int .i64 ((x.links[(Int.toNat (Qu x.graph p (Ql (((Q9 (x.workers[(Int.toNat p)]'hi2)).2.1).key) x.graph.workers)))]'hi4).cap),o43,.int .i64 ((x.links[(Int.toNat (Qu x.graph p (Ql (((Q9 (x.workers[(Int.toNat p)]'hi2)).2.1).key) x.graph.workers)))]'hi4).credits),.int .i64 ((x.links[(Int.toNat (Qu x.graph p (Ql (((Q9 (x.workers[(Int.toNat p)]'hi2)).2.1).key) x.graph.workers)))]'hi4).back),.int .i64 ((x.links[(Int.toNat (Qu x.graph p (Ql (((Q9 (x.workers[(Int.toNat p)]'hi2)).2.1).key) x.graph.workers)))]'hi4).sent),.int .i64 ((x.links[(Int.toNat (Qu x.graph p (Ql (((Q9 (x.workers[(Int.toNat p)]'hi2)).2.1).key) x.graph.workers)))]'hi4).got)]:=ha3
   refine S_regF Xs [] 10 12 [] [(0,true),(1,true),(2,true),(3,true),(4,true),(5,true)] [(6,false),(7,true),(8,true),(9,true)] [(11,false),(12,true)] (fun b=>.pointer (some ⟨b,0,none⟩)) (z:=[.int .i64 0,.slice none 0 0,.int .i64 0,.int .i64 0,.int .i64 0,.int .i64 0]) (by decide +kernel) Z Z Z Z Z Z Z [(0,.agg [o1,.int .i64 x.graph.workers,.int .i64 x.graph.cap,o2,o3,o4,o5].toArray),(1,.int .i64 p),(2,.pointer (some ⟨b1,0,none⟩)),(4,.pointer (some ⟨b2,0,none⟩)),(5,.bool false),(6,.pointer (some ⟨b3,0,none⟩)),(7,.pointer (some ⟨b4,0,none⟩)),(8,.pointer (some ⟨b5,0,none⟩)),(9,.bool ((Q9 (x.workers[(Int.toNat p)]'hi2)).2.2)),(10,.int .i64 (Ql (((Q9 (x.workers[(Int.toNat p)]'hi2)).2.1).key) x.graph.workers)),(11,.int .i64 (Qu x.graph p (Ql (((Q9 (x.workers[(Int.toNat p)]'hi2)).2.1).key) x.graph.workers))),(14,.agg [o1,.int .i64 x.graph.workers,.int .i64 x.graph.cap,o2,o3,o4,o5].toArray),(15,.agg [o6,.int .i64 x.graph.workers,.int .i64 x.graph.cap,o7,o8,o9,o10].toArray),(29,.bool ((!(Tu x p)) || (((((List.getD x.workers (Int.toNat p) default).staged).length : Nat) : Int) == 0))),(31,.tuple [.agg [o27,o28,o29,o30,o31,o32,o33,o34].toArray,.agg (Enc.enc ((Q9 (x.workers[(Int.toNat p)]'hi2)).2.1)).toArray,.bool ((Q9 (x.workers[(Int.toNat p)]'hi2)).2.2)].toArray),(32,.pointer (some ⟨b1,3,none⟩)),(33,o2),(34,.int .i64 p),(35,.pointer (some ⟨Y6 o2,Y8 o2 + (Int.toNat p) * 8,none⟩)),(36,.agg [o19,o20,o21,o22,o23,o24,o25,o26].toArray),(37,.tuple [.agg [o27,o28,o29,o30,o31,o32,o33,o34].toArray,.agg (Enc.enc ((Q9 (x.workers[(Int.toNat p)]'hi2)).2.1)).toArray,.bool ((Q9 (x.workers[(Int.toNat p)]'hi2)).2.2)].toArray),(38,.agg [o27,o28,o29,o30,o31,o32,o33,o34].toArray),(39,.agg (Enc.enc ((Q9 (x.workers[(Int.toNat p)]'hi2)).2.1)).toArray),(40,.bool ((Q9 (x.workers[(Int.toNat p)]'hi2)).2.2)),(41,.pointer (some ⟨b5,3,none⟩)),(42,.int .i64 (((Q9 (x.workers[(Int.toNat p)]'hi2)).2.1).key)),(43,.pointer (some ⟨b1,0,none⟩)),(44,.pointer (some ⟨b1,1,none⟩)),(45,.int .i64 x.graph.workers),(46,.int .i64 (Ql (((Q9 (x.workers[(Int.toNat p)]'hi2)).2.1).key) x.graph.workers)),(47,.int .i64 (Ql (((Q9 (x.workers[(Int.toNat p)]'hi2)).2.1).key) x.graph.workers)),(48,.int .i64 p),(49,.bool ((Ql (((Q9 (x.workers[(Int.toNat p)]'hi2)).2.1).key) x.graph.workers) == p)),(58,.pointer (some ⟨b1,0,none⟩)),(59,.agg [o1,.int .i64 x.graph.workers,.int .i64 x.graph.cap].toArray),(60,.int .i64 p),(61,.int .i64 (Ql (((Q9 (x.workers[(Int.toNat p)]'hi2)).2.1).key) x.graph.workers)),(62,.int .i64 (Qu x.graph p (Ql (((Q9 (x.workers[(Int.toNat p)]'hi2)).2.1).key) x.graph.workers))),(64,.pointer (some ⟨b1,4,none⟩)),(65,o3),(66,.int .i64 (Qu x.graph p (Ql (((Q9 (x.workers[(Int.toNat p)]'hi2)).2.1).key) x.graph.workers))),(67,.pointer (some ⟨Y6 o3,Y8 o3 + (Int.toNat (Qu x.graph p (Ql (((Q9 (x.workers[(Int.toNat p)]'hi2)).2.1).key) x.graph.workers))) * 6,none⟩)),(68,.agg [.int .i64 ((x.links[(Int.toNat (Qu x.graph p (Ql (((Q9 (x.workers[(Int.toNat p)]'hi2)).2.1).key) x.graph.workers)))]'hi4).cap),o43,.int .i64 ((x.links[(Int.toNat (Qu x.graph p (Ql (((Q9 (x.workers[(Int.toNat p)]'hi2)).2.1).key) x.graph.workers)))]'hi4).credits),.int .i64 ((x.links[(Int.toNat (Qu x.graph p (Ql (((Q9 (x.workers[(Int.toNat p)]'hi2)).2.1).key) x.graph.workers)))]'hi4).back),.int .i64 ((x.links[(Int.toNat (Qu x.graph p (Ql (((Q9 (x.workers[(Int.toNat p)]'hi2)).2.1).key) x.graph.workers)))]'hi4).sent),.int .i64 ((x.links[(Int.toNat (Qu x.graph p (Ql (((Q9 (x.workers[(Int.toNat p)]'hi2)).2.1).key) x.graph.workers)))]'hi4).got)].toArray),(69,.agg (Enc.enc ((Q9 (x.workers[(Int.toNat p)]'hi2)).2.1)).toArray)] [] Z trivial (fun w'=>Ext w w' ∧ w19.heap.size ≤ w'.heap.size ∧ Blk w' b1 ([o1,.int .i64 x.graph.workers,.int .i64 x.graph.cap,o2,o3,o4,o5]) ∧ Blk w' b2 [.slice none 0 0,.int .i64 0,.int .i64 0,.slice none 0 0,.slice none 0 0,.slice none 0 0,.slice none 0 0] ∧ OwC w' w2.heap.size w3.heap.size o6 o7 o8 o9 o10 x ∧ Blk w' b3 [o6,.int .i64 x.graph.workers,.int .i64 x.graph.cap,o7,o8,o9,o10] ∧ Own w' w6.heap.size w9.heap.size 5 o27 (List.flatMap (Enc.enc (α:=Record)) (((Q9 (x.workers[(Int.toNat p)]'hi2)).1).queue)) ∧ Own w' w6.heap.size w9.heap.size 5 o28 (List.flatMap (Enc.enc (α:=Record)) (((Q9 (x.workers[(Int.toNat p)]'hi2)).1).staged)) ∧ Own w' w6.heap.size w9.heap.size 5 o29 (List.flatMap (Enc.enc (α:=Record)) (((Q9 (x.workers[(Int.toNat p)]'hi2)).1).inputs)) ∧ Own w' w6.heap.size w9.heap.size 4 o30 (List.flatMap (Enc.enc (α:=Cell)) (((Q9 (x.workers[(Int.toNat p)]'hi2)).1).cells)) ∧ Own w' w6.heap.size w9.heap.size 1 o31 (List.flatMap (Enc.enc (α:=Int)) (((Q9 (x.workers[(Int.toNat p)]'hi2)).1).sums)) ∧ Own w' w6.heap.size w9.heap.size 1 o32 (List.flatMap (Enc.enc (α:=Bool)) (((Q9 (x.workers[(Int.toNat p)]'hi2)).1).black)) ∧ Own w' w6.heap.size w9.heap.size 1 o33 (List.flatMap (Enc.enc (α:=Bool)) (((Q9 (x.workers[(Int.toNat p)]'hi2)).1).caps)) ∧ Own w' w6.heap.size w9.heap.size 2 o34 (List.flatMap (Enc.enc (α:=Done)) (((Q9 (x.workers[(Int.toNat p)]'hi2)).1).dones)) ∧ Blk w' b4 [o27,o28,o29,o30,o31,o32,o33,o34] ∧ Blk w' b5 [.int .i64 (((Q9 (x.workers[(Int.toNat p)]'hi2)).2.1).op),.int .i64 ((((Q9 (x.workers[(Int.toNat p)]'hi2)).2.1).stamp).epoch),.int .i64 ((((Q9 (x.workers[(Int.toNat p)]'hi2)).2.1).stamp).turn),.int .i64 (((Q9 (x.workers[(Int.toNat p)]'hi2)).2.1).key),.int .i64 (((Q9 (x.workers[(Int.toNat p)]'hi2)).2.1).val)]) (T7 X4) (fun w20 e13=>?_) (fun w20 hphi_w20=>?_)
   ·replace E:=E.trans e13;replace h1:=h1.ext e13;replace h2:=h2.ext e13;replace ho1:=ho1.ext e13;replace h3:=h3.ext e13;replace hw1:=hw1.ext e13;replace hw2:=hw2.ext e13;replace hw3:=hw3.ext e13;replace hw4:=hw4.ext e13;replace hw5:=hw5.ext e13;replace hw6:=hw6.ext e13;replace hw7:=hw7.ext e13;replace hw8:=hw8.ext e13;replace h4:=h4.ext e13;replace h5:=h5.ext e13
    have z19:=e13.size
    refine Qa (Qb Ko Z) Z (Qa (Qk Gh Z (h1.one 4 Z)) Z (Qa (Qd Z) Z (Qa (Xk (i:=(Int.toNat (Qu x.graph p (Ql (((Q9 (x.workers[(Int.toNat p)]'hi2)).2.1).key) x.graph.workers)))) Vl Z Z (hd3.ext E).1 (by omega) hi4) Z (Qa (Qy X4 Z (ha3.ext E) Z) Z (Qa (Qy Ul Z h5.at Z) Z (Qr ⟨Z,Z,Z,Z,Z,Z,Z,Z,Z,Z,Z,Z,Z,Z,Z,Z,Z,Z,Z,Z,Z,Z,Z,Z,Z,Z,Z,Z,Z,Z,Z,Z,Z,Z,Z,Z,Z,Z,Z,Z,Z,Z,Z,Z,trivial⟩ ⟨E,(by omega),h1,h2,ho1,h3,hw1,hw2,hw3,hw4,hw5,hw6,hw7,hw8,h4,h5⟩))))))
   clear E h1 h2 ho1 h3 hw1 hw2 hw3 hw4 hw5 hw6 hw7 hw8 h4 h5
   obtain ⟨E,z20,h1,h2,ho1,h3,hw1,hw2,hw3,hw4,hw5,hw6,hw7,hw8,h4,h5⟩:=hphi_w20
   refine JI_un Z (fun w21 e14=>?_) Z
   replace E:=E.trans e14;replace h1:=h1.ext e14;replace h2:=h2.ext e14;replace ho1:=ho1.ext e14;replace h3:=h3.ext e14;replace hw1:=hw1.ext e14;replace hw2:=hw2.ext e14;replace hw3:=hw3.ext e14;replace hw4:=hw4.ext e14;replace hw5:=hw5.ext e14;replace hw6:=hw6.ext e14;replace hw7:=hw7.ext e14;replace hw8:=hw8.ext e14;replace h4:=h4.ext e14;replace h5:=h5.ext e14
   have z21:=e14.size
   refine Qw Tryz.call51 Z (c_SendOn [.int .i64 ((x.links[(Int.toNat (Qu x.graph p (Ql (((Q9 (x.workers[(Int.toNat p)]'hi2)).2.1).key) x.graph.workers)))]'hi4).cap),o43,.int .i64 ((x.links[(Int.toNat (Qu x.graph p (Ql (((Q9 (x.workers[(Int.toNat p)]'hi2)).2.1).key) x.graph.workers)))]'hi4).credits),.int .i64 ((x.links[(Int.toNat (Qu x.graph p (Ql (((Q9 (x.workers[(Int.toNat p)]'hi2)).2.1).key) x.graph.workers)))]'hi4).back),.int .i64 ((x.links[(Int.toNat (Qu x.graph p (Ql (((Q9 (x.workers[(Int.toNat p)]'hi2)).2.1).key) x.graph.workers)))]'hi4).sent),.int .i64 ((x.links[(Int.toNat (Qu x.graph p (Ql (((Q9 (x.workers[(Int.toNat p)]'hi2)).2.1).key) x.graph.workers)))]'hi4).got)] (x.links[(Int.toNat (Qu x.graph p (Ql (((Q9 (x.workers[(Int.toNat p)]'hi2)).2.1).key) x.graph.workers)))]'hi4) ((Q9 (x.workers[(Int.toNat p)]'hi2)).2.1) _ (Link.mkR (x.links[(Int.toNat (Qu x.graph p (Ql (((Q9 (x.workers[(Int.toNat p)]'hi2)).2.1).key) x.graph.workers)))]'hi4) (RdD.any (hd22.ext E))) (by omega) (hok _ (List.getElem_mem _))) Z (fun _ w22 e15 ho5=>?_)
   obtain ⟨_,rfl,ho6⟩:=ho5
   have g_ho5 : w.heap.size ≤ w21.heap.size:=E.size
   replace E:=E.trans e15;replace h1:=h1.ext e15;replace h2:=h2.ext e15;replace ho1:=ho1.ext e15;replace h3:=h3.ext e15;replace hw1:=hw1.ext e15;replace hw2:=hw2.ext e15;replace hw3:=hw3.ext e15;replace hw4:=hw4.ext e15;replace hw5:=hw5.ext e15;replace hw6:=hw6.ext e15;replace hw7:=hw7.ext e15;replace hw8:=hw8.ext e15;replace h4:=h4.ext e15;replace h5:=h5.ext e15
   have z22:=e15.size
   obtain ⟨o44,rfl,sp3,hw17⟩:=Link.opO ho6
   refine Da ?_
   refine JI_seg 3 Z ?_
   refine Qa (Qd Z) Z (Qa (Kz Z Z) Z (Qa (Kz Z Z) Z (JI_go (JI_end Z (fun b6 w23 e16 g1 y1 h6 hI1=>?_)))))
   have hI1_0 : b6 < w21.heap.size ∨ w22.heap.size ≤ b6:=hI1 (_,_) (by simp)
   replace E:=E.trans e16;replace h1:=h1.ext e16;replace h2:=h2.ext e16;replace ho1:=ho1.ext e16;replace h3:=h3.ext e16;replace hw1:=hw1.ext e16;replace hw2:=hw2.ext e16;replace hw3:=hw3.ext e16;replace hw4:=hw4.ext e16;replace hw5:=hw5.ext e16;replace hw6:=hw6.ext e16;replace hw7:=hw7.ext e16;replace hw8:=hw8.ext e16;replace h4:=h4.ext e16;replace h5:=h5.ext e16;replace hw17:=hw17.ext e16
   have z23:=e16.size
   have g_b6 : w.heap.size ≤ b6:=by have:=E.size;omega
   have y_b6:=h6.lt
   refine J2_sub [(0,.agg [o1,.int .i64 x.graph.workers,.int .i64 x.graph.cap,o2,o3,o4,o5].toArray),(1,.int .i64 p),(2,.pointer (some ⟨b1,0,none⟩)),(4,.pointer (some ⟨b2,0,none⟩)),(5,.bool false),(6,.pointer (some ⟨b3,0,none⟩)),(7,.pointer (some ⟨b4,0,none⟩)),(8,.pointer (some ⟨b5,0,none⟩)),(9,.bool ((Q9 (x.workers[(Int.toNat p)]'hi2)).2.2)),(10,.int .i64 (Ql (((Q9 (x.workers[(Int.toNat p)]'hi2)).2.1).key) x.graph.workers)),(11,.int .i64 (Qu x.graph p (Ql (((Q9 (x.workers[(Int.toNat p)]'hi2)).2.1).key) x.graph.workers))),(12,.pointer (some ⟨b6,0,none⟩)),(14,.agg [o1,.int .i64 x.graph.workers,.int .i64 x.graph.cap,o2,o3,o4,o5].toArray),(15,.agg [o6,.int .i64 x.graph.workers,.int .i64 x.graph.cap,o7,o8,o9,o10].toArray),(29,.bool ((!(Tu x p)) || (((((List.getD x.workers (Int.toNat p) default).staged).length : Nat) : Int) == 0))),(31,.tuple [.agg [o27,o28,o29,o30,o31,o32,o33,o34].toArray,.agg (Enc.enc ((Q9 (x.workers[(Int.toNat p)]'hi2)).2.1)).toArray,.bool ((Q9 (x.workers[(Int.toNat p)]'hi2)).2.2)].toArray),(32,.pointer (some ⟨b1,3,none⟩)),(33,o2),(34,.int .i64 p),(35,.pointer (some ⟨Y6 o2,Y8 o2 + (Int.toNat p) * 8,none⟩)),(36,.agg [o19,o20,o21,o22,o23,o24,o25,o26].toArray),(37,.tuple [.agg [o27,o28,o29,o30,o31,o32,o33,o34].toArray,.agg (Enc.enc ((Q9 (x.workers[(Int.toNat p)]'hi2)).2.1)).toArray,.bool ((Q9 (x.workers[(Int.toNat p)]'hi2)).2.2)].toArray),(38,.agg [o27,o28,o29,o30,o31,o32,o33,o34].toArray),(39,.agg (Enc.enc ((Q9 (x.workers[(Int.toNat p)]'hi2)).2.1)).toArray),(40,.bool ((Q9 (x.workers[(Int.toNat p)]'hi2)).2.2)),(41,.pointer (some ⟨b5,3,none⟩)),(42,.int .i64 (((Q9 (x.workers[(Int.toNat p)]'hi2)).2.1).key)),(43,.pointer (some ⟨b1,0,none⟩)),(44,.pointer (some ⟨b1,1,none⟩)),(45,.int .i64 x.graph.workers),(46,.int .i64 (Ql (((Q9 (x.workers[(Int.toNat p)]'hi2)).2.1).key) x.graph.workers)),(47,.int .i64 (Ql (((Q9 (x.workers[(Int.toNat p)]'hi2)).2.1).key) x.graph.workers)),(48,.int .i64 p),(49,.bool ((Ql (((Q9 (x.workers[(Int.toNat p)]'hi2)).2.1).key) x.graph.workers) == p)),(58,.pointer (some ⟨b1,0,none⟩)),(59,.agg [o1,.int .i64 x.graph.workers,.int .i64 x.graph.cap].toArray),(60,.int .i64 p),(61,.int .i64 (Ql (((Q9 (x.workers[(Int.toNat p)]'hi2)).2.1).key) x.graph.workers)),(62,.int .i64 (Qu x.graph p (Ql (((Q9 (x.workers[(Int.toNat p)]'hi2)).2.1).key) x.graph.workers))),(63,.tuple [.agg [.int .i64 (((Yf (x.links[(Int.toNat (Qu x.graph p (Ql (((Q9 (x.workers[(Int.toNat p)]'hi2)).2.1).key) x.graph.workers)))]'hi4) ((Q9 (x.workers[(Int.toNat p)]'hi2)).2.1)).1).cap),o44,.int .i64 (((Yf (x.links[(Int.toNat (Qu x.graph p (Ql (((Q9 (x.workers[(Int.toNat p)]'hi2)).2.1).key) x.graph.workers)))]'hi4) ((Q9 (x.workers[(Int.toNat p)]'hi2)).2.1)).1).credits),.int .i64 (((Yf (x.links[(Int.toNat (Qu x.graph p (Ql (((Q9 (x.workers[(Int.toNat p)]'hi2)).2.1).key) x.graph.workers)))]'hi4) ((Q9 (x.workers[(Int.toNat p)]'hi2)).2.1)).1).back),.int .i64 (((Yf (x.links[(Int.toNat (Qu x.graph p (Ql (((Q9 (x.workers[(Int.toNat p)]'hi2)).2.1).key) x.graph.workers)))]'hi4) ((Q9 (x.workers[(Int.toNat p)]'hi2)).2.1)).1).sent),.int .i64 (((Yf (x.links[(Int.toNat (Qu x.graph p (Ql (((Q9 (x.workers[(Int.toNat p)]'hi2)).2.1).key) x.graph.workers)))]'hi4) ((Q9 (x.workers[(Int.toNat p)]'hi2)).2.1)).1).got)].toArray,.bool ((Yf (x.links[(Int.toNat (Qu x.graph p (Ql (((Q9 (x.workers[(Int.toNat p)]'hi2)).2.1).key) x.graph.workers)))]'hi4) ((Q9 (x.workers[(Int.toNat p)]'hi2)).2.1)).2)].toArray),(64,.pointer (some ⟨b1,4,none⟩)),(65,o3),(66,.int .i64 (Qu x.graph p (Ql (((Q9 (x.workers[(Int.toNat p)]'hi2)).2.1).key) x.graph.workers))),(67,.pointer (some ⟨Y6 o3,Y8 o3 + (Int.toNat (Qu x.graph p (Ql (((Q9 (x.workers[(Int.toNat p)]'hi2)).2.1).key) x.graph.workers))) * 6,none⟩)),(68,.agg [.int .i64 ((x.links[(Int.toNat (Qu x.graph p (Ql (((Q9 (x.workers[(Int.toNat p)]'hi2)).2.1).key) x.graph.workers)))]'hi4).cap),o43,.int .i64 ((x.links[(Int.toNat (Qu x.graph p (Ql (((Q9 (x.workers[(Int.toNat p)]'hi2)).2.1).key) x.graph.workers)))]'hi4).credits),.int .i64 ((x.links[(Int.toNat (Qu x.graph p (Ql (((Q9 (x.workers[(Int.toNat p)]'hi2)).2.1).key) x.graph.workers)))]'hi4).back),.int .i64 ((x.links[(Int.toNat (Qu x.graph p (Ql (((Q9 (x.workers[(Int.toNat p)]'hi2)).2.1).key) x.graph.workers)))]'hi4).sent),.int .i64 ((x.links[(Int.toNat (Qu x.graph p (Ql (((Q9 (x.workers[(Int.toNat p)]'hi2)).2.1).key) x.graph.workers)))]'hi4).got)].toArray),(69,.agg (Enc.enc ((Q9 (x.workers[(Int.toNat p)]'hi2)).2.1)).toArray),(70,.tuple [.agg [.int .i64 (((Yf (x.links[(Int.toNat (Qu x.graph p (Ql (((Q9 (x.workers[(Int.toNat p)]'hi2)).2.1).key) x.graph.workers)))]'hi4) ((Q9 (x.workers[(Int.toNat p)]'hi2)).2.1)).1).cap),o44,.int .i64 (((Yf (x.links[(Int.toNat (Qu x.graph p (Ql (((Q9 (x.workers[(Int.toNat p)]'hi2)).2.1).key) x.graph.workers)))]'hi4) ((Q9 (x.workers[(Int.toNat p)]'hi2)).2.1)).1).credits),.int .i64 (((Yf (x.links[(Int.toNat (Qu x.graph p (Ql (((Q9 (x.workers[(Int.toNat p)]'hi2)).2.1).key) x.graph.workers)))]'hi4) ((Q9 (x.workers[(Int.toNat p)]'hi2)).2.1)).1).back),.int .i64 (((Yf (x.links[(Int.toNat (Qu x.graph p (Ql (((Q9 (x.workers[(Int.toNat p)]'hi2)).2.1).key) x.graph.workers)))]'hi4) ((Q9 (x.workers[(Int.toNat p)]'hi2)).2.1)).1).sent),.int .i64 (((Yf (x.links[(Int.toNat (Qu x.graph p (Ql (((Q9 (x.workers[(Int.toNat p)]'hi2)).2.1).key) x.graph.workers)))]'hi4) ((Q9 (x.workers[(Int.toNat p)]'hi2)).2.1)).1).got)].toArray,.bool ((Yf (x.links[(Int.toNat (Qu x.graph p (Ql (((Q9 (x.workers[(Int.toNat p)]'hi2)).2.1).key) x.graph.workers)))]'hi4) ((Q9 (x.workers[(Int.toNat p)]'hi2)).2.1)).2)].toArray),(71,.agg [.int .i64 (((Yf (x.links[(Int.toNat (Qu x.graph p (Ql (((Q9 (x.workers[(Int.toNat p)]'hi2)).2.1).key) x.graph.workers)))]'hi4) ((Q9 (x.workers[(Int.toNat p)]'hi2)).2.1)).1).cap),o44,.int .i64 (((Yf (x.links[(Int.toNat (Qu x.graph p (Ql (((Q9 (x.workers[(Int.toNat p)]'hi2)).2.1).key) x.graph.workers)))]'hi4) ((Q9 (x.workers[(Int.toNat p)]'hi2)).2.1)).1).credits),.int .i64 (((Yf (x.links[(Int.toNat (Qu x.graph p (Ql (((Q9 (x.workers[(Int.toNat p)]'hi2)).2.1).key) x.graph.workers)))]'hi4) ((Q9 (x.workers[(Int.toNat p)]'hi2)).2.1)).1).back),.int .i64 (((Yf (x.links[(Int.toNat (Qu x.graph p (Ql (((Q9 (x.workers[(Int.toNat p)]'hi2)).2.1).key) x.graph.workers)))]'hi4) ((Q9 (x.workers[(Int.toNat p)]'hi2)).2.1)).1).sent),.int .i64 (((Yf (x.links[(Int.toNat (Qu x.graph p (Ql (((Q9 (x.workers[(Int.toNat p)]'hi2)).2.1).key) x.graph.workers)))]'hi4) ((Q9 (x.workers[(Int.toNat p)]'hi2)).2.1)).1).got)].toArray),(72,.bool ((Yf (x.links[(Int.toNat (Qu x.graph p (Ql (((Q9 (x.workers[(Int.toNat p)]'hi2)).2.1).key) x.graph.workers)))]'hi4) ((Q9 (x.workers[(Int.toNat p)]'hi2)).2.1)).2))] ⟨Z,Z,Z,Z,Z,Z,Z,Z,Z,Z,Z,Z,Z,Z,Z,Z,Z,Z,Z,Z,Z,Z,Z,Z,Z,Z,Z,Z,Z,Z,Z,Z,Z,Z,Z,Z,Z,Z,Z,Z,Z,Z,Z,Z,Z,Z,Z,Z,Z,trivial⟩ ?_
   refine J2_of Z ?_
   refine Q4 (cs':=[.int .i64 (((Yf (x.links[(Int.toNat (Qu x.graph p (Ql (((Q9 (x.workers[(Int.toNat p)]'hi2)).2.1).key) x.graph.workers)))]'hi4) ((Q9 (x.workers[(Int.toNat p)]'hi2)).2.1)).1).cap),o44,.int .i64 (((Yf (x.links[(Int.toNat (Qu x.graph p (Ql (((Q9 (x.workers[(Int.toNat p)]'hi2)).2.1).key) x.graph.workers)))]'hi4) ((Q9 (x.workers[(Int.toNat p)]'hi2)).2.1)).1).credits),.int .i64 (((Yf (x.links[(Int.toNat (Qu x.graph p (Ql (((Q9 (x.workers[(Int.toNat p)]'hi2)).2.1).key) x.graph.workers)))]'hi4) ((Q9 (x.workers[(Int.toNat p)]'hi2)).2.1)).1).back),.int .i64 (((Yf (x.links[(Int.toNat (Qu x.graph p (Ql (((Q9 (x.workers[(Int.toNat p)]'hi2)).2.1).key) x.graph.workers)))]'hi4) ((Q9 (x.workers[(Int.toNat p)]'hi2)).2.1)).1).sent),.int .i64 (((Yf (x.links[(Int.toNat (Qu x.graph p (Ql (((Q9 (x.workers[(Int.toNat p)]'hi2)).2.1).key) x.graph.workers)))]'hi4) ((Q9 (x.workers[(Int.toNat p)]'hi2)).2.1)).1).got)]) X4 Z Z Z (Qj Z (Qj hw17.one (Qj Z (Qj Z (Qj Z (Qj Z Z)))))) h6 (Nat.le_of_ble_eq_true Z) Z (fun w24 m7 h6'=>?_)
   replace h6:=h6'
   replace E:=E.step m7 (fun g hg=>by cases hg;omega);replace h1:=h1.mod m7 (fun g hg=>by cases hg;omega);replace h2:=h2.mod m7 (fun g hg=>by cases hg;omega);replace ho1:=ho1.mod m7 (fun g hg=>by cases hg;omega);replace h3:=h3.mod m7 (fun g hg=>by cases hg;omega);replace hw1:=hw1.mod m7 (fun g hg=>by cases hg;omega);replace hw2:=hw2.mod m7 (fun g hg=>by cases hg;omega);replace hw3:=hw3.mod m7 (fun g hg=>by cases hg;omega);replace hw4:=hw4.mod m7 (fun g hg=>by cases hg;omega);replace hw5:=hw5.mod m7 (fun g hg=>by cases hg;omega);replace hw6:=hw6.mod m7 (fun g hg=>by cases hg;omega);replace hw7:=hw7.mod m7 (fun g hg=>by cases hg;omega);replace hw8:=hw8.mod m7 (fun g hg=>by cases hg;omega);replace h4:=h4.mod m7 (fun g hg=>by cases hg;omega);replace h5:=h5.mod m7 (fun g hg=>by cases hg;omega);replace hw17:=hw17.mod m7 (fun g hg=>by cases hg;omega)
   have z24:=m7.size
   refine Qa (Qf Z) Z (Qc (Qe (Qe (Qh [true,true] Z Z (Qa (Qd Z) Z (Qa (Yy Z) Z (Qc (Qt Z (fun hc3=>?_) (fun hc3=>?_)))))))))
   ·refine Qe (Qh [true,false,true] Z Z (Qa (Qy Xw Z h3.at Z) Z (Q4 (cs':=[o6,.int .i64 x.graph.workers,.int .i64 x.graph.cap,o7,o8,o9,o10]) Xw Z Z Z (Qj (RdD.one (OwC.rd1 ho1)) (Qj Z (Qj Z (Qj (RdD.one (OwC.rd2 ho1)) (Qj (RdD.one (OwC.rd3 ho1)) (Qj (RdD.one (OwC.rd4 ho1)) (Qj (RdD.one (OwC.rd5 ho1)) Z))))))) h2 (Nat.le_of_ble_eq_true Z) Z (fun w25 m8 h2'=>?_))))
    replace h2:=h2'
    replace E:=E.step m8 (fun g hg=>by cases hg;omega);replace h1:=h1.mod m8 (fun g hg=>by cases hg;omega);replace ho1:=ho1.mod m8 (fun g hg=>by cases hg;omega);replace h3:=h3.mod m8 (fun g hg=>by cases hg;omega);replace hw1:=hw1.mod m8 (fun g hg=>by cases hg;omega);replace hw2:=hw2.mod m8 (fun g hg=>by cases hg;omega);replace hw3:=hw3.mod m8 (fun g hg=>by cases hg;omega);replace hw4:=hw4.mod m8 (fun g hg=>by cases hg;omega);replace hw5:=hw5.mod m8 (fun g hg=>by cases hg;omega);replace hw6:=hw6.mod m8 (fun g hg=>by cases hg;omega);replace hw7:=hw7.mod m8 (fun g hg=>by cases hg;omega);replace hw8:=hw8.mod m8 (fun g hg=>by cases hg;omega);replace h4:=h4.mod m8 (fun g hg=>by cases hg;omega);replace h5:=h5.mod m8 (fun g hg=>by cases hg;omega);replace hw17:=hw17.mod m8 (fun g hg=>by cases hg;omega);replace h6:=h6.mod m8 (fun g hg=>by cases hg;omega)
    have z25:=m8.size
    refine Qa (Qf Z) Z (Qc (Qv (Vk (l:=[.cell 4 40,.tmp 5]) (vs:=[.agg [o6,.int .i64 x.graph.workers,.int .i64 x.graph.cap,o7,o8,o9,o10].toArray,.bool false]) Z ⟨.cell Z (Yd Xw h2.at Z),.tmp Z,trivial⟩ Z E ?_)))
    rw [mv_f hhw hms hmv.2 hc2 (by simpa using hc3)]
    exact ⟨_,_,_,_,_,Z,(OwC.widen ho1 (by have:=E.size;omega) (by omega))⟩
   ·refine Qo (Qe (Qh [true,true,true,true,true,false] Z Z (Qa (Qb Ko Z) Z (Qa (Qk Gh Z (h3.one 4 Z)) Z (Qa (Qd Z) Z (Qa (Qy X4 Z h6.at Z) Z ?_))))))
    have hi5 : (Int.toNat (Qu x.graph p (Ql (((Q9 (x.workers[(Int.toNat p)]'hi2)).2.1).key) x.graph.workers))) < x.links.length:=(by first | assumption | omega | (simp only [List.length_set];first | assumption | omega) | (simp only [List.getElem_set_self,List.length_set];first | assumption | omega) | (simp only [Yn,Yh,List.length_set];first | assumption | omega))
    refine Qa (Xk (i:=(Int.toNat (Qu x.graph p (Ql (((Q9 (x.workers[(Int.toNat p)]'hi2)).2.1).key) x.graph.workers)))) Vl Z Z (OwC.rd3 ho1).1 (by omega) hi5) Z ?_
    have hqb3:=OwC.blk2 ho1
    have hqb4:=OwC.blk3 ho1
    refine Ga Z Z (OwC.setL (lo2:=w21.heap.size) (hi2:=w24.heap.size) X4 ho1 hi5 (Link.mkO ((Yf (x.links[(Int.toNat (Qu x.graph p (Ql (((Q9 (x.workers[(Int.toNat p)]'hi2)).2.1).key) x.graph.workers)))]'hi4) ((Q9 (x.workers[(Int.toNat p)]'hi2)).2.1)).1) sp3 (Own.widen hw17 (by omega) (by omega))) (by omega) (by omega) (by omega)) (fun w26 m9 ho1'=>?_)
    replace ho1:=ho1'
    replace E:=E.step m9 (fun g hg=>by have:=hqb4 g hg;omega);replace h1:=h1.mod m9 (fun g hg=>by have:=hqb4 g hg;omega);replace h2:=h2.mod m9 (fun g hg=>by have:=hqb4 g hg;omega);replace h3:=h3.mod m9 (fun g hg=>by have:=hqb4 g hg;omega);replace hw1:=hw1.mod m9 (fun g hg=>by have:=hqb4 g hg;omega);replace hw2:=hw2.mod m9 (fun g hg=>by have:=hqb4 g hg;omega);replace hw3:=hw3.mod m9 (fun g hg=>by have:=hqb4 g hg;omega);replace hw4:=hw4.mod m9 (fun g hg=>by have:=hqb4 g hg;omega);replace hw5:=hw5.mod m9 (fun g hg=>by have:=hqb4 g hg;omega);replace hw6:=hw6.mod m9 (fun g hg=>by have:=hqb4 g hg;omega);replace hw7:=hw7.mod m9 (fun g hg=>by have:=hqb4 g hg;omega);replace hw8:=hw8.mod m9 (fun g hg=>by have:=hqb4 g hg;omega);replace h4:=h4.mod m9 (fun g hg=>by have:=hqb4 g hg;omega);replace h5:=h5.mod m9 (fun g hg=>by have:=hqb4 g hg;omega);replace h6:=h6.mod m9 (fun g hg=>by have:=hqb4 g hg;omega)
    have z26:=m9.size
    refine Qc (Qe (Xx Xs [(0,true),(1,true),(2,true),(3,true),(4,true),(5,true),(6,true),(7,false),(8,true),(9,false)] (by decide +kernel) Z (fun w27 e17=>?_)))
    replace E:=E.trans e17;replace h1:=h1.ext e17;replace h2:=h2.ext e17;replace ho1:=ho1.ext e17;replace h3:=h3.ext e17;replace hw1:=hw1.ext e17;replace hw2:=hw2.ext e17;replace hw3:=hw3.ext e17;replace hw4:=hw4.ext e17;replace hw5:=hw5.ext e17;replace hw6:=hw6.ext e17;replace hw7:=hw7.ext e17;replace hw8:=hw8.ext e17;replace h4:=h4.ext e17;replace h5:=h5.ext e17;replace h6:=h6.ext e17
    have z27:=e17.size
    refine Qa (Qb Xn Z) Z (Qa (Qk Uy Z (h3.one 3 Z)) Z (Qa (Qd Z) Z (Qa (Qy X8 Z h4.at Z) Z (Qa (Qb U6 Z) Z (Qa (Qs V9 Z) Z (Qa (Qk Yt Z (h5.one 1 Z)) Z (Qw Tryz.call52 Z (c_SentAway [o27,o28,o29,o30,o31,o32,o33,o34] ((Q9 (x.workers[(Int.toNat p)]'hi2)).1) ((((Q9 (x.workers[(Int.toNat p)]'hi2)).2.1).stamp).epoch) _ (Worker.mkR ((Q9 (x.workers[(Int.toNat p)]'hi2)).1) (RdD.any (Own.rdD hw1)) (RdD.any (Own.rdD hw2)) (RdD.any (Own.rdD hw3)) (RdD.any (Own.rdD hw4)) (RdD.any (Own.rdD hw5)) (RdD.any (Own.rdD hw6)) (RdD.any (Own.rdD hw7)) (RdD.any (Own.rdD hw8))) (Nat.le_trans (B2 _) (by omega))) Z (fun _ w28 e18 ho7=>?_))))))))
    obtain ⟨_,rfl,ho7⟩:=ho7
    have g_ho7 : w.heap.size ≤ w27.heap.size:=E.size
    replace E:=E.trans e18;replace h1:=h1.ext e18;replace h2:=h2.ext e18;replace ho1:=ho1.ext e18;replace h3:=h3.ext e18;replace hw1:=hw1.ext e18;replace hw2:=hw2.ext e18;replace hw3:=hw3.ext e18;replace hw4:=hw4.ext e18;replace hw5:=hw5.ext e18;replace hw6:=hw6.ext e18;replace hw7:=hw7.ext e18;replace hw8:=hw8.ext e18;replace h4:=h4.ext e18;replace h5:=h5.ext e18;replace h6:=h6.ext e18
    have z28:=e18.size
    obtain ⟨o45,o46,o47,o48,o49,o50,o51,o52,rfl,sp4,hw18,hw19,hw20,hw21,hw22,hw23,hw24,hw25⟩:=Worker.opO ho7
    have hi6 : (Int.toNat p) < (({ x with links:=x.links.set (Int.toNat (Qu x.graph p (Ql (((Q9 (x.workers[(Int.toNat p)]'hi2)).2.1).key) x.graph.workers))) ((Yf (x.links[(Int.toNat (Qu x.graph p (Ql (((Q9 (x.workers[(Int.toNat p)]'hi2)).2.1).key) x.graph.workers)))]'hi4) ((Q9 (x.workers[(Int.toNat p)]'hi2)).2.1)).1) }).workers).length:=(by first | assumption | omega | (simp only [List.length_set];first | assumption | omega) | (simp only [List.getElem_set_self,List.length_set];first | assumption | omega) | (simp only [Yn,Yh,List.length_set];first | assumption | omega))
    refine Qa (Xk (i:=(Int.toNat p)) K5 Z Z (OwC.rd2 ho1).1 (by omega) hi6) Z (Ga Z Z (OwC.setW (lo2:=w27.heap.size) (hi2:=w28.heap.size) X8 ho1 hi6 (Worker.mkO (Tr ((Q9 (x.workers[(Int.toNat p)]'hi2)).1) ((((Q9 (x.workers[(Int.toNat p)]'hi2)).2.1).stamp).epoch)) sp4 (Own.widen hw18 (by omega) (by omega)) (Own.widen hw19 (by omega) (by omega)) (Own.widen hw20 (by omega) (by omega)) (Own.widen hw21 (by omega) (by omega)) (Own.widen hw22 (by omega) (by omega)) (Own.widen hw23 (by omega) (by omega)) (Own.widen hw24 (by omega) (by omega)) (Own.widen hw25 (by omega) (by omega))) (by omega) (by omega) (by omega)) (fun w29 m10 ho1'=>?_))
    replace ho1:=ho1'
    replace E:=E.step m10 (fun g hg=>by have:=hqb3 g hg;omega);replace h1:=h1.mod m10 (fun g hg=>by have:=hqb3 g hg;omega);replace h2:=h2.mod m10 (fun g hg=>by have:=hqb3 g hg;omega);replace h3:=h3.mod m10 (fun g hg=>by have:=hqb3 g hg;omega);replace hw1:=hw1.mod m10 (fun g hg=>by have:=hqb3 g hg;omega);replace hw2:=hw2.mod m10 (fun g hg=>by have:=hqb3 g hg;omega);replace hw3:=hw3.mod m10 (fun g hg=>by have:=hqb3 g hg;omega);replace hw4:=hw4.mod m10 (fun g hg=>by have:=hqb3 g hg;omega);replace hw5:=hw5.mod m10 (fun g hg=>by have:=hqb3 g hg;omega);replace hw6:=hw6.mod m10 (fun g hg=>by have:=hqb3 g hg;omega);replace hw7:=hw7.mod m10 (fun g hg=>by have:=hqb3 g hg;omega);replace hw8:=hw8.mod m10 (fun g hg=>by have:=hqb3 g hg;omega);replace h4:=h4.mod m10 (fun g hg=>by have:=hqb3 g hg;omega);replace h5:=h5.mod m10 (fun g hg=>by have:=hqb3 g hg;omega);replace h6:=h6.mod m10 (fun g hg=>by have:=hqb3 g hg;omega)
    have z29:=m10.size
    refine Qc (Qe (Qh [true,false,true] Z Z (Qa (Qy Xw Z h3.at Z) Z (Q4 (cs':=[o6,.int .i64 x.graph.workers,.int .i64 x.graph.cap,o7,o8,o9,o10]) Xw Z Z Z (Qj (RdD.one (OwC.rd1 ho1)) (Qj Z (Qj Z (Qj (RdD.one (OwC.rd2 ho1)) (Qj (RdD.one (OwC.rd3 ho1)) (Qj (RdD.one (OwC.rd4 ho1)) (Qj (RdD.one (OwC.rd5 ho1)) Z))))))) h2 (Nat.le_of_ble_eq_true Z) Z (fun w30 m11 h2'=>?_)))))
    replace h2:=h2'
    replace E:=E.step m11 (fun g hg=>by cases hg;omega);replace h1:=h1.mod m11 (fun g hg=>by cases hg;omega);replace ho1:=ho1.mod m11 (fun g hg=>by cases hg;omega);replace h3:=h3.mod m11 (fun g hg=>by cases hg;omega);replace hw1:=hw1.mod m11 (fun g hg=>by cases hg;omega);replace hw2:=hw2.mod m11 (fun g hg=>by cases hg;omega);replace hw3:=hw3.mod m11 (fun g hg=>by cases hg;omega);replace hw4:=hw4.mod m11 (fun g hg=>by cases hg;omega);replace hw5:=hw5.mod m11 (fun g hg=>by cases hg;omega);replace hw6:=hw6.mod m11 (fun g hg=>by cases hg;omega);replace hw7:=hw7.mod m11 (fun g hg=>by cases hg;omega);replace hw8:=hw8.mod m11 (fun g hg=>by cases hg;omega);replace h4:=h4.mod m11 (fun g hg=>by cases hg;omega);replace h5:=h5.mod m11 (fun g hg=>by cases hg;omega);replace h6:=h6.mod m11 (fun g hg=>by cases hg;omega)
    have z30:=m11.size
    refine Qa (Qf Z) Z (Qc (Qv (Vk (l:=[.cell 4 40,.tmp 5]) (vs:=[.agg [o6,.int .i64 x.graph.workers,.int .i64 x.graph.cap,o7,o8,o9,o10].toArray,.bool true]) Z ⟨.cell Z (Yd Xw h2.at Z),.tmp Z,trivial⟩ Z E ?_)))
    rw [mv_t hhw hms hmv.2 hc2 (by simpa using hc3)]
    exact ⟨_,_,_,_,_,Z,(OwC.widen ho1 (by have:=E.size;omega) (by omega))⟩

end Go.Proofs.YtjpoipdddpmeiaaGreat
