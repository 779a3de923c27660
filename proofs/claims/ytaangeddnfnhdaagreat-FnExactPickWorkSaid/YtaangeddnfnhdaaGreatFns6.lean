/- What the functions that the laws call come to: a contract each; no condition. -/
import Derived.Test.YtaangeddnfnhdaaGreatFns5
namespace Go.Proofs.YtaangeddnfnhdaaGreat
open Go Go.Proofs.YtaangeddnfnhdaaGreat.X Go.Proofs
set_option maxHeartbeats 4000000 in
set_option maxRecDepth 20000 in
theorem c_copyCluster (cx : List Value) (x : Cluster) (w : World) (hx : Dat.R w 0 w.heap.size cx x) (hb : Yg x ≤ 1048576) : Ct Tryz.prog 23 [.agg cx.toArray] w (fun v w'=>∃ o1 o2 o3 o4 o5,v = .agg [o1,.int .i64 x.graph.workers,.int .i64 x.graph.cap,o2,o3,o4,o5].toArray ∧ OwC w' w.heap.size w'.heap.size o1 o2 o3 o4 o5 x):=by
 have hb2:=hb
 unfold Yg at hb2
 refine Yh Tryz.func23 Z Tryz.ntmps23 Z ?_
 obtain ⟨o1,o2,o3,o4,o5,rfl,hd1,hd2,hd3,hd4,hd5⟩:=Cluster.op hx
 refine Q7 [(0,.agg [o1,.int .i64 x.graph.workers,.int .i64 x.graph.cap,o2,o3,o4,o5].toArray)] ⟨Z,trivial⟩ ?_
 have E : Ext w w:=Ext.refl w
 refine Qf (Qh [false,false] Z Z (Y1 Z Z (fun b1 w1 e1 s1 h1=>?_)))
 have g_b1 : w.heap.size ≤ b1:=by have:=E.size;omega
 have y_b1:=h1.lt
 replace E:=E.trans e1
 have z1:=e1.size
 refine Yk X5 Z (fun b2 w2 e2 s2 h2=>?_)
 have g_b2 : w.heap.size ≤ b2:=by have:=E.size;omega
 have y_b2:=h2.lt
 replace E:=E.trans e2;replace h1:=h1.ext e2
 have z2:=e2.size
 refine Qd (Qf (S_regF Xi [] 10 3 [] [(0,true),(1,true),(3,true),(4,true),(6,true),(7,true)] [(2,false),(5,false),(8,false),(9,true)] [(11,false)] (fun b=>.pointer (some ⟨b,0,none⟩)) (z:=[.slice none 0 0,.int .i64 0,.int .i64 0,.slice none 0 0,.slice none 0 0,.slice none 0 0,.slice none 0 0]) (by decide +kernel) Z Z Z Z Z Z Z [(0,.agg [o1,.int .i64 x.graph.workers,.int .i64 x.graph.cap,o2,o3,o4,o5].toArray),(1,.pointer (some ⟨b1,0,none⟩)),(2,.pointer (some ⟨b2,0,none⟩)),(8,.pointer (some ⟨b1,0,none⟩)),(9,.agg [o1,.int .i64 x.graph.workers,.int .i64 x.graph.cap].toArray),(11,.pointer (some ⟨b1,5,none⟩)),(12,o4),(14,.pointer (some ⟨b1,6,none⟩)),(15,o5)] [] Z trivial (fun w'=>Ext w w' ∧ w2.heap.size ≤ w'.heap.size ∧ Blk w' b1 ([o1,.int .i64 x.graph.workers,.int .i64 x.graph.cap,o2,o3,o4,o5]) ∧ Blk w' b2 [.slice none 0 0,.int .i64 0,.int .i64 0,.slice none 0 0,.slice none 0 0,.slice none 0 0,.slice none 0 0]) (Bm X5) (fun w3 e3=>?_) (fun w3 hphi_w3=>?_)))
 ·replace E:=E.trans e3;replace h1:=h1.ext e3;replace h2:=h2.ext e3
  have z3:=e3.size
  refine Qa (Qb Ur Z) Z (Qa (Qt Km Z (h1.part 0 [o1,.int .i64 x.graph.workers,.int .i64 x.graph.cap] Z) Z) Z (Qa (Qb Vk Z) Z (Qa (Qj Cu Z (h1.one 5 Z)) Z (Qa (Qb Hn Z) Z (Qa (Qj B7 Z (h1.one 6 Z)) Z (Qp ⟨Z,Z,Z,Z,Z,Z,Z,Z,Z,trivial⟩ ⟨E,(by omega),h1,h2⟩))))))
 clear E h1 h2
 obtain ⟨E,z4,h1,h2⟩:=hphi_w3
 refine Fb Z (fun w4 e4=>?_) Z
 replace E:=E.trans e4;replace h1:=h1.ext e4;replace h2:=h2.ext e4
 have z5:=e4.size
 refine Qv Tryz.call54 Z (c_copyGraph [o1,.int .i64 x.graph.workers,.int .i64 x.graph.cap] x.graph _ (Graph.mkR x.graph (RdD.any (hd1.ext E))) (by omega)) Z (fun _ w5 e5 ho1=>?_)
 obtain ⟨o6,rfl,ho1⟩:=ho1
 have g_ho1 : w.heap.size ≤ w4.heap.size:=E.size
 replace E:=E.trans e5;replace h1:=h1.ext e5;replace h2:=h2.ext e5
 have z6:=e5.size
 refine Bf ?_
 refine Fb Z (fun w6 e6=>?_) Z
 replace E:=E.trans e6;replace h1:=h1.ext e6;replace h2:=h2.ext e6;replace ho1:=ho1.ext e6
 have z7:=e6.size
 refine Gn Hg Z Z (Own.nil w6 w6.heap.size w6.heap.size 5) ⟨_,_,Z⟩ (RdS.src (hd4.rd.ext E)) (Xe _) (by simp only [Yb,List.length_nil];simp only [Enc.sz];omega) (by decide) (by omega) (by omega) Z (fun v1 w7 e7 ho2 hb_ho2=>?_)
 replace E:=E.trans e7;replace h1:=h1.ext e7;replace h2:=h2.ext e7;replace ho1:=ho1.ext e7
 have z8:=e7.size
 have g_ho2 : w.heap.size ≤ w6.heap.size:=by have:=E.size;omega
 replace ho2 : Own w7 w6.heap.size w7.heap.size 5 v1 (List.flatMap (Enc.enc (α:=Token)) x.tokens):=ho2
 refine Bf ?_
 refine Fb Z (fun w8 e8=>?_) Z
 replace E:=E.trans e8;replace h1:=h1.ext e8;replace h2:=h2.ext e8;replace ho1:=ho1.ext e8;replace ho2:=ho2.ext e8
 have z9:=e8.size
 refine Gn Cs Z Z (Own.nil w8 w8.heap.size w8.heap.size 3) ⟨_,_,Z⟩ (RdS.src (hd5.rd.ext E)) (Xe _) (by simp only [Yb,List.length_nil];simp only [Enc.sz];omega) (by decide) (by omega) (by omega) Z (fun v2 w9 e9 ho3 hb_ho3=>?_)
 replace E:=E.trans e9;replace h1:=h1.ext e9;replace h2:=h2.ext e9;replace ho1:=ho1.ext e9;replace ho2:=ho2.ext e9
 have z10:=e9.size
 have g_ho3 : w.heap.size ≤ w8.heap.size:=by have:=E.size;omega
 replace ho3 : Own w9 w8.heap.size w9.heap.size 3 v2 (List.flatMap (Enc.enc (α:=News)) x.news):=ho3
 refine Bf ?_
 refine JI_seg 1 Z ?_
 have hbl1 : ∀ w,(Instr.build 40 ([(0,.agg [o6,.int .i64 x.graph.workers,.int .i64 x.graph.cap].toArray),(3,v1),(4,v2)]).toArray).run Tryz.prog w = .ok (.agg [o6,.int .i64 x.graph.workers,.int .i64 x.graph.cap,.slice none 0 0,.slice none 0 0,v1,v2].toArray) w:=by clear E;obtain ⟨_,_,_,rfl⟩:=SlLen.shape ho1.rd.len;obtain ⟨_,_,_,rfl⟩:=Own.shape ho2;obtain ⟨_,_,_,rfl⟩:=Own.shape ho3;intro w;kernel_rfl
 refine Qa (Gz [o6,.int .i64 x.graph.workers,.int .i64 x.graph.cap,.slice none 0 0,.slice none 0 0,v1,v2] Z hbl1) Z (JI_go (JI_end Z (fun b3 w10 e10 g1 y1 h3 hI1=>?_)))
 have hI1_0 : b3 < w4.heap.size ∨ w5.heap.size ≤ b3:=hI1 (_,_) (by simp)
 have hI1_1 : b3 < w6.heap.size ∨ w7.heap.size ≤ b3:=hI1 (_,_) (by simp)
 have hI1_2 : b3 < w8.heap.size ∨ w9.heap.size ≤ b3:=hI1 (_,_) (by simp)
 replace E:=E.trans e10;replace h1:=h1.ext e10;replace h2:=h2.ext e10;replace ho1:=ho1.ext e10;replace ho2:=ho2.ext e10;replace ho3:=ho3.ext e10
 have z11:=e10.size
 have g_b3 : w.heap.size ≤ b3:=by have:=E.size;omega
 have y_b3:=h3.lt
 refine J2_sub [(0,.agg [o1,.int .i64 x.graph.workers,.int .i64 x.graph.cap,o2,o3,o4,o5].toArray),(1,.pointer (some ⟨b1,0,none⟩)),(2,.pointer (some ⟨b2,0,none⟩)),(3,.pointer (some ⟨b3,0,none⟩)),(8,.pointer (some ⟨b1,0,none⟩)),(9,.agg [o1,.int .i64 x.graph.workers,.int .i64 x.graph.cap].toArray),(10,.agg [o6,.int .i64 x.graph.workers,.int .i64 x.graph.cap].toArray),(11,.pointer (some ⟨b1,5,none⟩)),(12,o4),(13,v1),(14,.pointer (some ⟨b1,6,none⟩)),(15,o5),(16,v2),(17,.agg [o6,.int .i64 x.graph.workers,.int .i64 x.graph.cap,.slice none 0 0,.slice none 0 0,v1,v2].toArray)] ⟨Z,Z,Z,Z,Z,Z,Z,Z,Z,Z,Z,Z,Z,Z,trivial⟩ ?_
 refine J2_of Z ?_
 refine Q6 (cs':=[o6,.int .i64 x.graph.workers,.int .i64 x.graph.cap,.slice none 0 0,.slice none 0 0,v1,v2]) X5 Z Z Z (Qk (RdD.one (OwS.rd ho1)) (Qk Z (Qk Z (Qk Z (Qk Z (Qk ho2.one (Qk ho3.one Z))))))) h3 (Nat.le_of_ble_eq_true Z) Z (fun w11 m1 h3'=>?_)
 replace h3:=h3'
 replace E:=E.step m1 (fun g hg=>by cases hg;omega);replace h1:=h1.mod m1 (fun g hg=>by cases hg;omega);replace h2:=h2.mod m1 (fun g hg=>by cases hg;omega);replace ho1:=ho1.mod m1 (fun g hg=>by cases hg;omega);replace ho2:=ho2.mod m1 (fun g hg=>by cases hg;omega);replace ho3:=ho3.mod m1 (fun g hg=>by cases hg;omega)
 have z12:=m1.size
 refine Qd (Qf (Qf (Qh [true,true,true,true] Z Z (Qa (Qb Kh Z) Z (Qa (Qj Gh Z (h1.one 3 Z)) Z (Qa (Ya Tryz.underlying35 Z (hd2.ext E).len) Z (Qa (Qc Z) Z (Qd (Q0 (Ym (fun (xq : Nat × Value)=>let ⟨k3,vo3⟩:=xq;[(1,.pointer (some ⟨b1,0,none⟩)),(2,.pointer (some ⟨b2,0,none⟩)),(3,.pointer (some ⟨b3,0,none⟩)),(19,o2),(20,.int .i64 ((x.workers.length : Nat) : Int)),(21,.int .i64 ((k3 : Nat) : Int))]) (fun (xq : Nat × Value) w'=>let ⟨k3,vo3⟩:=xq;Ext w w' ∧ w11.heap.size ≤ w'.heap.size ∧ Blk w' b1 ([o1,.int .i64 x.graph.workers,.int .i64 x.graph.cap,o2,o3,o4,o5]) ∧ Blk w' b2 [.slice none 0 0,.int .i64 0,.int .i64 0,.slice none 0 0,.slice none 0 0,.slice none 0 0,.slice none 0 0] ∧ OwS w' w4.heap.size w5.heap.size o6 x.graph.nodes ∧ Own w' w6.heap.size w7.heap.size 5 v1 (List.flatMap (Enc.enc (α:=Token)) x.tokens) ∧ Own w' w8.heap.size w9.heap.size 3 v2 (List.flatMap (Enc.enc (α:=News)) x.news) ∧ k3 ≤ x.workers.length ∧ OwS w' w11.heap.size w'.heap.size vo3 (x.workers.take k3) ∧ Blk w' b3 [o6,.int .i64 x.graph.workers,.int .i64 x.graph.cap,vo3,.slice none 0 0,v1,v2]) (fun (xq : Nat × Value)=>let ⟨k3,vo3⟩:=xq;x.workers.length - k3) (0,.slice none 0 0) ⟨Z,Z,Z,Z,Z,Z,trivial⟩ ⟨E,Nat.le_refl _,h1,h2,ho1,ho2,ho3,Nat.zero_le _,(OwS.nil _ _ _),h3⟩ ?_))))))))))
 clear E h1 h2 ho1 ho2 ho3 h3
 rintro ⟨k3,vo3⟩ w12 ⟨E,z13,h1,h2,ho1,ho2,ho3,hk3,hoC3,h3⟩
 refine Q7 [(1,.pointer (some ⟨b1,0,none⟩)),(2,.pointer (some ⟨b2,0,none⟩)),(3,.pointer (some ⟨b3,0,none⟩)),(19,o2),(20,.int .i64 ((x.workers.length : Nat) : Int)),(21,.int .i64 ((k3 : Nat) : Int))] ⟨Z,Z,Z,Z,Z,Z,trivial⟩ ?_
 refine Qf (Qh [true] Z Z (Qa (Yf Z Z) Z (Qd (Qf (Qs Z (fun hc1=>?_) (fun hc1=>?_))))))
 ·have hc1n : k3 < x.workers.length:=by first | (have h:=of_decide_eq_true hc1;omega) | (have h:=hc1;simp at h;omega)
  refine Qn (Qf (Q0 (Qf (Qh [true,true,false,false] Z Z ?_))))
  have hi1 : k3 < x.workers.length:=(by first | assumption | omega | (simp only [List.length_set];first | assumption | omega))
  obtain ⟨_,hr1,ha1⟩:=RdD.get hd2 hi1
  obtain ⟨o7,o8,o9,o10,o11,o12,o13,o14,rfl,hd6,hd7,hd8,hd9,hd10,hd11,hd12,hd13⟩:=Worker.op hr1
  replace ha1 : At w (Xf o2) (Xm o2 + k3 * 8) [o7,o8,o9,o10,o11,o12,o13,o14]:=ha1
  refine Qa (Q1 (i:=k3) U8 Z Z (hd2.ext E).1 hi1) Z (Qa (Qt Kw Z (ha1.ext E) Z) Z (Yk Kw Z (fun b4 w13 e11 s3 h4=>?_)))
  have g_b4 : w.heap.size ≤ b4:=by have:=E.size;omega
  have y_b4:=h4.lt
  replace E:=E.trans e11;replace h1:=h1.ext e11;replace h2:=h2.ext e11;replace ho1:=ho1.ext e11;replace ho2:=ho2.ext e11;replace ho3:=ho3.ext e11;replace hoC3:=hoC3.ext e11;replace h3:=h3.ext e11
  have z14:=e11.size
  refine Q6 (cs':=[o7,o8,o9,o10,o11,o12,o13,o14]) Kw Z Z Z (Qk (RdD.one (hd6.ext E)) (Qk (RdD.one (hd7.ext E)) (Qk (RdD.one (hd8.ext E)) (Qk (RdD.one (hd9.ext E)) (Qk (RdD.one (hd10.ext E)) (Qk (RdD.one (hd11.ext E)) (Qk (RdD.one (hd12.ext E)) (Qk (RdD.one (hd13.ext E)) Z)))))))) h4 (Nat.le_of_ble_eq_true Z) Z (fun w14 m2 h4'=>?_)
  replace h4:=h4'
  replace E:=E.step m2 (fun g hg=>by cases hg;omega);replace h1:=h1.mod m2 (fun g hg=>by cases hg;omega);replace h2:=h2.mod m2 (fun g hg=>by cases hg;omega);replace ho1:=ho1.mod m2 (fun g hg=>by cases hg;omega);replace ho2:=ho2.mod m2 (fun g hg=>by cases hg;omega);replace ho3:=ho3.mod m2 (fun g hg=>by cases hg;omega);replace hoC3:=hoC3.mod m2 (fun g hg=>by cases hg;omega);replace h3:=h3.mod m2 (fun g hg=>by cases hg;omega)
  have z15:=m2.size
  refine Qd (Hp Xi [5] [(0,true),(1,true),(2,true),(3,false),(4,false)] [(5,false),(6,true),(7,false)] (by decide +kernel) Z Z (fun w15 e12=>?_))
  replace E:=E.trans e12;replace h1:=h1.ext e12;replace h2:=h2.ext e12;replace ho1:=ho1.ext e12;replace ho2:=ho2.ext e12;replace ho3:=ho3.ext e12;replace hoC3:=hoC3.ext e12;replace h3:=h3.ext e12;replace h4:=h4.ext e12
  have z16:=e12.size
  refine Qa (Qb Kh Z) Z (Qa (Qj Gh Z (h3.one 3 Z)) Z (Qa (Qt Kw Z h4.at Z) Z (Qv Tryz.call55 Z (c_copyWorker [o7,o8,o9,o10,o11,o12,o13,o14] (x.workers[k3]'hi1) _ (Worker.mkR (x.workers[k3]'hi1) (RdD.any (hd6.ext E)) (RdD.any (hd7.ext E)) (RdD.any (hd8.ext E)) (RdD.any (hd9.ext E)) (RdD.any (hd10.ext E)) (RdD.any (hd11.ext E)) (RdD.any (hd12.ext E)) (RdD.any (hd13.ext E))) (by have:=Gf (f:=Yd) (show k3 < x.workers.length by omega);unfold X1 at hb2;omega)) Z (fun _ w16 e13 ho4=>?_))))
  obtain ⟨_,rfl,ho4⟩:=ho4
  have g_ho4 : w.heap.size ≤ w15.heap.size:=E.size
  replace E:=E.trans e13;replace h1:=h1.ext e13;replace h2:=h2.ext e13;replace ho1:=ho1.ext e13;replace ho2:=ho2.ext e13;replace ho3:=ho3.ext e13;replace hoC3:=hoC3.ext e13;replace h3:=h3.ext e13;replace h4:=h4.ext e13
  have z17:=e13.size
  obtain ⟨o15,o16,o17,o18,o19,o20,o21,o22,rfl,sp1,hw1,hw2,hw3,hw4,hw5,hw6,hw7,hw8⟩:=Worker.opO ho4
  refine Yz (vs:=[.agg [o15,o16,o17,o18,o19,o20,o21,o22].toArray]) (css:=[[o15,o16,o17,o18,o19,o20,o21,o22]]) U8 Z Z ⟨⟨Z,Z⟩,trivial⟩ Z Z (fun b5 w17 e14 s4 h5=>?_)
  replace h5 : Blk w17 b5 [o15,o16,o17,o18,o19,o20,o21,o22]:=h5
  have g_b5 : w.heap.size ≤ b5:=by have:=E.size;omega
  have y_b5:=h5.lt
  replace E:=E.trans e14;replace h1:=h1.ext e14;replace h2:=h2.ext e14;replace ho1:=ho1.ext e14;replace ho2:=ho2.ext e14;replace ho3:=ho3.ext e14;replace hoC3:=hoC3.ext e14;replace h3:=h3.ext e14;replace h4:=h4.ext e14;replace hw1:=hw1.ext e14;replace hw2:=hw2.ext e14;replace hw3:=hw3.ext e14;replace hw4:=hw4.ext e14;replace hw5:=hw5.ext e14;replace hw6:=hw6.ext e14;replace hw7:=hw7.ext e14;replace hw8:=hw8.ext e14
  have z18:=e14.size
  refine Gb ?_
  refine Bt Z ?_
  refine V1 (lo:=w11.heap.size) (hi:=w12.heap.size) (lo2:=w15.heap.size) (hi2:=w17.heap.size) U8 Z Z hoC3 (Src.ofBlk h5 Z) (Worker.mkO (x.workers[k3]'hi1) sp1 (Own.widen hw1 (by omega) (by omega)) (Own.widen hw2 (by omega) (by omega)) (Own.widen hw3 (by omega) (by omega)) (Own.widen hw4 (by omega) (by omega)) (Own.widen hw5 (by omega) (by omega)) (Own.widen hw6 (by omega) (by omega)) (Own.widen hw7 (by omega) (by omega)) (Own.widen hw8 (by omega) (by omega))) (by omega) (by simp only [List.length_take,show Dat.sz Worker = 8 from Z,show Dat.sz Link = 6 from Z];unfold X1 at hb2;omega) (by decide) (by omega) (by omega) (by omega) (by omega) (by omega) Z Z (fun v3 w18 m3 ho5=>?_)
  have hqb:=OwS.inn hoC3
  replace E:=E.step m3 (fun g hg=>by have:=hqb g hg;omega);replace h1:=h1.mod m3 (fun g hg=>by have:=hqb g hg;omega);replace h2:=h2.mod m3 (fun g hg=>by have:=hqb g hg;omega);replace ho1:=ho1.mod m3 (fun g hg=>by have:=hqb g hg;omega);replace ho2:=ho2.mod m3 (fun g hg=>by have:=hqb g hg;omega);replace ho3:=ho3.mod m3 (fun g hg=>by have:=hqb g hg;omega);replace h3:=h3.mod m3 (fun g hg=>by have:=hqb g hg;omega);replace h4:=h4.mod m3 (fun g hg=>by have:=hqb g hg;omega)
  have z19:=m3.size
  clear hqb
  refine T3 ?_
  refine Qa (Qb Kh Z) Z (Yj (cs':=[o6,.int .i64 x.graph.workers,.int .i64 x.graph.cap,v3,.slice none 0 0,v1,v2]) Gh Z Z (RdD.one (OwS.rd ho5)) h3 (Nat.le_of_ble_eq_true Z) Z (fun w19 m4 h3'=>?_))
  replace h3:=h3'
  replace E:=E.step m4 (fun g hg=>by cases hg;omega);replace h1:=h1.mod m4 (fun g hg=>by cases hg;omega);replace h2:=h2.mod m4 (fun g hg=>by cases hg;omega);replace ho1:=ho1.mod m4 (fun g hg=>by cases hg;omega);replace ho2:=ho2.mod m4 (fun g hg=>by cases hg;omega);replace ho3:=ho3.mod m4 (fun g hg=>by cases hg;omega);replace h4:=h4.mod m4 (fun g hg=>by cases hg;omega);replace ho5:=ho5.mod m4 (fun g hg=>by cases hg;omega)
  have z20:=m4.size
  refine Qd (Q4 (Yr (Qh [true,true] Z Z (Qa (Q8 Z Z (Yt hc1n (hd2.ext E).1.1)) Z (Qa (Qc Z) Z (Qd (Q4 (Yc (k3 + 1,v3) (by simp;omega) ⟨Z,Z,Z,Z,Z,Z,trivial⟩ ⟨E,(by omega),h1,h2,ho1,ho2,ho3,(by omega),(by rw [List.take_succ_eq_append_getElem (by assumption)];exact OwS.widen ho5 (by omega) (by omega)),h3⟩))))))))
 ·have hc1n : ¬ k3 < x.workers.length:=by first | (have h:=of_decide_eq_false hc1;omega) | (have h:=hc1;simp at h;omega)
  refine Yn (Q5 (Q3 ?_))
  refine Qf (Qf (Qh [true,true,true,true] Z Z (Qa (Qb Uk Z) Z (Qa (Qj H2 Z (h1.one 4 Z)) Z (Qa (Ya Tryz.underlying36 Z (hd3.ext E).len) Z (Qa (Qc Z) Z (Qd (Q0 (Ym (fun (xq : Nat × Value)=>let ⟨k4,vo4⟩:=xq;[(2,.pointer (some ⟨b2,0,none⟩)),(3,.pointer (some ⟨b3,0,none⟩)),(34,o3),(35,.int .i64 ((x.links.length : Nat) : Int)),(36,.int .i64 ((k4 : Nat) : Int))]) (fun (xq : Nat × Value) w'=>let ⟨k4,vo4⟩:=xq;Ext w w' ∧ w12.heap.size ≤ w'.heap.size ∧ Blk w' b1 ([o1,.int .i64 x.graph.workers,.int .i64 x.graph.cap,o2,o3,o4,o5]) ∧ Blk w' b2 [.slice none 0 0,.int .i64 0,.int .i64 0,.slice none 0 0,.slice none 0 0,.slice none 0 0,.slice none 0 0] ∧ OwS w' w4.heap.size w5.heap.size o6 x.graph.nodes ∧ Own w' w6.heap.size w7.heap.size 5 v1 (List.flatMap (Enc.enc (α:=Token)) x.tokens) ∧ Own w' w8.heap.size w9.heap.size 3 v2 (List.flatMap (Enc.enc (α:=News)) x.news) ∧ OwS w' w11.heap.size w12.heap.size vo3 (x.workers.take k3) ∧ k4 ≤ x.links.length ∧ OwS w' w12.heap.size w'.heap.size vo4 (x.links.take k4) ∧ Blk w' b3 [o6,.int .i64 x.graph.workers,.int .i64 x.graph.cap,vo3,vo4,v1,v2]) (fun (xq : Nat × Value)=>let ⟨k4,vo4⟩:=xq;x.links.length - k4) (0,.slice none 0 0) ⟨Z,Z,Z,Z,Z,trivial⟩ ⟨E,Nat.le_refl _,h1,h2,ho1,ho2,ho3,hoC3,Nat.zero_le _,(OwS.nil _ _ _),h3⟩ ?_)))))))))
  clear E h1 h2 ho1 ho2 ho3 hoC3 h3
  rintro ⟨k4,vo4⟩ w20 ⟨E,z21,h1,h2,ho1,ho2,ho3,hoC3,hk4,hoC4,h3⟩
  refine Q7 [(2,.pointer (some ⟨b2,0,none⟩)),(3,.pointer (some ⟨b3,0,none⟩)),(34,o3),(35,.int .i64 ((x.links.length : Nat) : Int)),(36,.int .i64 ((k4 : Nat) : Int))] ⟨Z,Z,Z,Z,Z,trivial⟩ ?_
  refine Qf (Qh [true] Z Z (Qa (Yf Z Z) Z (Qd (Qf (Qs Z (fun hc2=>?_) (fun hc2=>?_))))))
  ·have hc2n : k4 < x.links.length:=by first | (have h:=of_decide_eq_true hc2;omega) | (have h:=hc2;simp at h;omega)
   refine Qn (Qf (Q0 (Qf (Qh [true,true,false,false] Z Z ?_))))
   have hi2 : k4 < x.links.length:=(by first | assumption | omega | (simp only [List.length_set];first | assumption | omega))
   obtain ⟨_,hr2,ha2⟩:=RdD.get hd3 hi2
   obtain ⟨o23,rfl,hd14⟩:=Link.op hr2
   replace ha2 : At w (Xf o3) (Xm o3 + k4 * 6) [.int .i64 ((x.links[k4]'hi2).cap),o23,.int .i64 ((x.links[k4]'hi2).credits),.int .i64 ((x.links[k4]'hi2).back),.int .i64 ((x.links[k4]'hi2).sent),.int .i64 ((x.links[k4]'hi2).got)]:=ha2
   refine Qa (Q1 (i:=k4) Gg Z Z (hd3.ext E).1 hi2) Z (Qa (Qt Ua Z (ha2.ext E) Z) Z (Yk Ua Z (fun b6 w21 e15 s5 h6=>?_)))
   have g_b6 : w.heap.size ≤ b6:=by have:=E.size;omega
   have y_b6:=h6.lt
   replace E:=E.trans e15;replace h1:=h1.ext e15;replace h2:=h2.ext e15;replace ho1:=ho1.ext e15;replace ho2:=ho2.ext e15;replace ho3:=ho3.ext e15;replace hoC3:=hoC3.ext e15;replace hoC4:=hoC4.ext e15;replace h3:=h3.ext e15
   have z22:=e15.size
   refine Q6 (cs':=[.int .i64 ((x.links[k4]'hi2).cap),o23,.int .i64 ((x.links[k4]'hi2).credits),.int .i64 ((x.links[k4]'hi2).back),.int .i64 ((x.links[k4]'hi2).sent),.int .i64 ((x.links[k4]'hi2).got)]) Ua Z Z Z (Qk Z (Qk (RdD.one (hd14.ext E)) (Qk Z (Qk Z (Qk Z (Qk Z Z)))))) h6 (Nat.le_of_ble_eq_true Z) Z (fun w22 m5 h6'=>?_)
   replace h6:=h6'
   replace E:=E.step m5 (fun g hg=>by cases hg;omega);replace h1:=h1.mod m5 (fun g hg=>by cases hg;omega);replace h2:=h2.mod m5 (fun g hg=>by cases hg;omega);replace ho1:=ho1.mod m5 (fun g hg=>by cases hg;omega);replace ho2:=ho2.mod m5 (fun g hg=>by cases hg;omega);replace ho3:=ho3.mod m5 (fun g hg=>by cases hg;omega);replace hoC3:=hoC3.mod m5 (fun g hg=>by cases hg;omega);replace hoC4:=hoC4.mod m5 (fun g hg=>by cases hg;omega);replace h3:=h3.mod m5 (fun g hg=>by cases hg;omega)
   have z23:=m5.size
   refine Qd (Hp Xi [5] [(0,true),(1,true),(2,true),(3,false),(4,false)] [(5,false),(6,true),(7,false)] (by decide +kernel) Z Z (fun w23 e16=>?_))
   replace E:=E.trans e16;replace h1:=h1.ext e16;replace h2:=h2.ext e16;replace ho1:=ho1.ext e16;replace ho2:=ho2.ext e16;replace ho3:=ho3.ext e16;replace hoC3:=hoC3.ext e16;replace hoC4:=hoC4.ext e16;replace h3:=h3.ext e16;replace h6:=h6.ext e16
   have z24:=e16.size
   refine Qa (Qb Uk Z) Z (Qa (Qj H2 Z (h3.one 4 Z)) Z (Qa (Qt Ua Z h6.at Z) Z (Qv Tryz.call56 Z (c_copyLink [.int .i64 ((x.links[k4]'hi2).cap),o23,.int .i64 ((x.links[k4]'hi2).credits),.int .i64 ((x.links[k4]'hi2).back),.int .i64 ((x.links[k4]'hi2).sent),.int .i64 ((x.links[k4]'hi2).got)] (x.links[k4]'hi2) _ (Link.mkR (x.links[k4]'hi2) (RdD.any (hd14.ext E))) (by have:=Gf (f:=Xl) (show k4 < x.links.length by omega);unfold X1 at hb2;omega)) Z (fun _ w24 e17 ho6=>?_))))
   obtain ⟨_,rfl,ho6⟩:=ho6
   have g_ho6 : w.heap.size ≤ w23.heap.size:=E.size
   replace E:=E.trans e17;replace h1:=h1.ext e17;replace h2:=h2.ext e17;replace ho1:=ho1.ext e17;replace ho2:=ho2.ext e17;replace ho3:=ho3.ext e17;replace hoC3:=hoC3.ext e17;replace hoC4:=hoC4.ext e17;replace h3:=h3.ext e17;replace h6:=h6.ext e17
   have z25:=e17.size
   obtain ⟨o24,rfl,sp2,hw9⟩:=Link.opO ho6
   refine Yz (vs:=[.agg [.int .i64 ((x.links[k4]'hi2).cap),o24,.int .i64 ((x.links[k4]'hi2).credits),.int .i64 ((x.links[k4]'hi2).back),.int .i64 ((x.links[k4]'hi2).sent),.int .i64 ((x.links[k4]'hi2).got)].toArray]) (css:=[[.int .i64 ((x.links[k4]'hi2).cap),o24,.int .i64 ((x.links[k4]'hi2).credits),.int .i64 ((x.links[k4]'hi2).back),.int .i64 ((x.links[k4]'hi2).sent),.int .i64 ((x.links[k4]'hi2).got)]]) Gg Z Z ⟨⟨Z,Z⟩,trivial⟩ Z Z (fun b7 w25 e18 s6 h7=>?_)
   replace h7 : Blk w25 b7 [.int .i64 ((x.links[k4]'hi2).cap),o24,.int .i64 ((x.links[k4]'hi2).credits),.int .i64 ((x.links[k4]'hi2).back),.int .i64 ((x.links[k4]'hi2).sent),.int .i64 ((x.links[k4]'hi2).got)]:=h7
   have g_b7 : w.heap.size ≤ b7:=by have:=E.size;omega
   have y_b7:=h7.lt
   replace E:=E.trans e18;replace h1:=h1.ext e18;replace h2:=h2.ext e18;replace ho1:=ho1.ext e18;replace ho2:=ho2.ext e18;replace ho3:=ho3.ext e18;replace hoC3:=hoC3.ext e18;replace hoC4:=hoC4.ext e18;replace h3:=h3.ext e18;replace h6:=h6.ext e18;replace hw9:=hw9.ext e18
   have z26:=e18.size
   refine Gb ?_
   refine Bt Z ?_
   refine V1 (lo:=w12.heap.size) (hi:=w20.heap.size) (lo2:=w23.heap.size) (hi2:=w25.heap.size) Gg Z Z hoC4 (Src.ofBlk h7 Z) (Link.mkO (x.links[k4]'hi2) sp2 (Own.widen hw9 (by omega) (by omega))) (by omega) (by simp only [List.length_take,show Dat.sz Worker = 8 from Z,show Dat.sz Link = 6 from Z];unfold X1 at hb2;omega) (by decide) (by omega) (by omega) (by omega) (by omega) (by omega) Z Z (fun v4 w26 m6 ho7=>?_)
   have hqb:=OwS.inn hoC4
   replace E:=E.step m6 (fun g hg=>by have:=hqb g hg;omega);replace h1:=h1.mod m6 (fun g hg=>by have:=hqb g hg;omega);replace h2:=h2.mod m6 (fun g hg=>by have:=hqb g hg;omega);replace ho1:=ho1.mod m6 (fun g hg=>by have:=hqb g hg;omega);replace ho2:=ho2.mod m6 (fun g hg=>by have:=hqb g hg;omega);replace ho3:=ho3.mod m6 (fun g hg=>by have:=hqb g hg;omega);replace hoC3:=hoC3.mod m6 (fun g hg=>by have:=hqb g hg;omega);replace h3:=h3.mod m6 (fun g hg=>by have:=hqb g hg;omega);replace h6:=h6.mod m6 (fun g hg=>by have:=hqb g hg;omega)
   have z27:=m6.size
   clear hqb
   refine T3 ?_
   refine Qa (Qb Uk Z) Z (Yj (cs':=[o6,.int .i64 x.graph.workers,.int .i64 x.graph.cap,vo3,v4,v1,v2]) H2 Z Z (RdD.one (OwS.rd ho7)) h3 (Nat.le_of_ble_eq_true Z) Z (fun w27 m7 h3'=>?_))
   replace h3:=h3'
   replace E:=E.step m7 (fun g hg=>by cases hg;omega);replace h1:=h1.mod m7 (fun g hg=>by cases hg;omega);replace h2:=h2.mod m7 (fun g hg=>by cases hg;omega);replace ho1:=ho1.mod m7 (fun g hg=>by cases hg;omega);replace ho2:=ho2.mod m7 (fun g hg=>by cases hg;omega);replace ho3:=ho3.mod m7 (fun g hg=>by cases hg;omega);replace hoC3:=hoC3.mod m7 (fun g hg=>by cases hg;omega);replace h6:=h6.mod m7 (fun g hg=>by cases hg;omega);replace ho7:=ho7.mod m7 (fun g hg=>by cases hg;omega)
   have z28:=m7.size
   refine Qd (Q4 (Yr (Qh [true,true] Z Z (Qa (Q8 Z Z (Yt hc2n (hd3.ext E).1.1)) Z (Qa (Qc Z) Z (Qd (Q4 (Yc (k4 + 1,v4) (by simp;omega) ⟨Z,Z,Z,Z,Z,trivial⟩ ⟨E,(by omega),h1,h2,ho1,ho2,ho3,hoC3,(by omega),(by rw [List.take_succ_eq_append_getElem (by assumption)];exact OwS.widen ho7 (by omega) (by omega)),h3⟩))))))))
  ·have hc2n : ¬ k4 < x.links.length:=by first | (have h:=of_decide_eq_false hc2;omega) | (have h:=hc2;simp at h;omega)
   refine Yn (Q5 (Q3 ?_))
   refine Qf (Qh [true,false] Z Z (Qa (Qt X5 Z h3.at Z) Z (Q6 (cs':=[o6,.int .i64 x.graph.workers,.int .i64 x.graph.cap,vo3,vo4,v1,v2]) X5 Z Z Z (Qk (RdD.one (OwS.rd ho1)) (Qk Z (Qk Z (Qk (RdD.one (OwS.rd hoC3)) (Qk (RdD.one (OwS.rd hoC4)) (Qk ho2.one (Qk ho3.one Z))))))) h2 (Nat.le_of_ble_eq_true Z) Z (fun w28 m8 h2'=>?_))))
   replace h2:=h2'
   replace E:=E.step m8 (fun g hg=>by cases hg;omega);replace h1:=h1.mod m8 (fun g hg=>by cases hg;omega);replace ho1:=ho1.mod m8 (fun g hg=>by cases hg;omega);replace ho2:=ho2.mod m8 (fun g hg=>by cases hg;omega);replace ho3:=ho3.mod m8 (fun g hg=>by cases hg;omega);replace hoC3:=hoC3.mod m8 (fun g hg=>by cases hg;omega);replace hoC4:=hoC4.mod m8 (fun g hg=>by cases hg;omega);replace h3:=h3.mod m8 (fun g hg=>by cases hg;omega)
   have z29:=m8.size
   refine Qd (Qw (Kk Z Z (Yi X5 h2.at Z) E ?_))
   rw [List.take_of_length_le (by omega)] at hoC3 hoC4
   exact ⟨_,_,_,_,_,Z,OwC.of x ho1 hoC3 hoC4 ho2 ho3 (by have:=E.size;omega) (by omega)⟩

set_option maxHeartbeats 4000000 in
set_option maxRecDepth 20000 in
theorem s_l14Copy (cx : List Value) (x : Cluster) (w : World) (hx : Dat.R w 0 w.heap.size cx x) (hb : Yg x ≤ 1048576) : Ct Tryz.prog 44 [.agg cx.toArray] w (fun v w'=>∃ o1 o2 o3 o4 o5,v = .agg [o1,.int .i64 x.graph.workers,.int .i64 x.graph.cap,o2,o3,o4,o5].toArray ∧ OwC w' w.heap.size w'.heap.size o1 o2 o3 o4 o5 x):=by
 have hb2:=hb
 unfold Yg at hb2
 refine Yh Tryz.func44 Z Tryz.ntmps44 Z ?_
 obtain ⟨o1,o2,o3,o4,o5,rfl,hd1,hd2,hd3,hd4,hd5⟩:=Cluster.op hx
 refine Q7 [(0,.agg [o1,.int .i64 x.graph.workers,.int .i64 x.graph.cap,o2,o3,o4,o5].toArray)] ⟨Z,trivial⟩ ?_
 have E : Ext w w:=Ext.refl w
 refine Qf (Qh [false,false] Z Z (Y1 Z Z (fun b1 w1 e1 s1 h1=>?_)))
 have g_b1 : w.heap.size ≤ b1:=by have:=E.size;omega
 have y_b1:=h1.lt
 replace E:=E.trans e1
 have z1:=e1.size
 refine Yk X5 Z (fun b2 w2 e2 s2 h2=>?_)
 have g_b2 : w.heap.size ≤ b2:=by have:=E.size;omega
 have y_b2:=h2.lt
 replace E:=E.trans e2;replace h1:=h1.ext e2
 have z2:=e2.size
 refine Qd (Qf (S_regQ Xi [(0,true),(1,true),(4,true),(5,true),(8,true),(9,true)] [⟨2,8,0,[],false,none,some (fun w0 w v f=>∃ o,v = .agg [o,.int .i64 x.graph.workers,.int .i64 x.graph.cap].toArray ∧ OwF w w0.heap.size w.heap.size o x.graph.nodes f)⟩,⟨3,9,5,[],true,none,none⟩,⟨6,12,5,List.flatMap (Enc.enc (α:=Token)) x.tokens,false,some (3,9),none⟩,⟨7,13,3,[],true,none,none⟩,⟨10,16,3,List.flatMap (Enc.enc (α:=News)) x.news,false,some (7,13),none⟩] ⟨12,3,0,[],false,none,some (fun _ w v f=>∃ b,v = .pointer (some ⟨b,0,none⟩) ∧ Blk w b [.slice none 0 0,.int .i64 0,.int .i64 0,.slice none 0 0,.slice none 0 0,.slice none 0 0,.slice none 0 0] ∧ f = [b])⟩ [(11,true),(13,false)] [(11,true),(12,false),(13,false)] (by kernel_rfl) (by kernel_rfl) Z Z Z [(0,.agg [o1,.int .i64 x.graph.workers,.int .i64 x.graph.cap,o2,o3,o4,o5].toArray),(1,.pointer (some ⟨b1,0,none⟩)),(2,.pointer (some ⟨b2,0,none⟩)),(6,.pointer (some ⟨b1,0,none⟩)),(7,.agg [o1,.int .i64 x.graph.workers,.int .i64 x.graph.cap].toArray),(10,.pointer (some ⟨b1,5,none⟩)),(11,o4),(14,.pointer (some ⟨b1,6,none⟩)),(15,o5)] (fun w'=>Ext w w' ∧ w2.heap.size ≤ w'.heap.size ∧ Blk w' b1 ([o1,.int .i64 x.graph.workers,.int .i64 x.graph.cap,o2,o3,o4,o5]) ∧ Blk w' b2 [.slice none 0 0,.int .i64 0,.int .i64 0,.slice none 0 0,.slice none 0 0,.slice none 0 0,.slice none 0 0]) (fun w3 e3=>?_) (fun w3 hphi_w3=>?_)))
 ·replace E:=E.trans e3;replace h1:=h1.ext e3;replace h2:=h2.ext e3
  have z3:=e3.size
  refine Qa (Qb Ur Z) Z (Qa (Qt Km Z (h1.part 0 [o1,.int .i64 x.graph.workers,.int .i64 x.graph.cap] Z) Z) Z (Qa (Qb Vk Z) Z (Qa (Qj Cu Z (h1.one 5 Z)) Z (Qa (Qb Hn Z) Z (Qa (Qj B7 Z (h1.one 6 Z)) Z (Qp ⟨Z,Z,Z,Z,Z,Z,Z,Z,Z,trivial⟩ ⟨E,(by omega),h1,h2⟩))))))
 clear E h1 h2
 obtain ⟨E,z4,h1,h2⟩:=hphi_w3
 refine ⟨⟨⟨_,Z,Z,Z,Z,?_⟩,⟨_,Z,Z,Z,Z,?_⟩,⟨_,Z,Z,Z,Z,?_⟩,⟨_,Z,Z,Z,Z,?_⟩,⟨_,Z,Z,Z,Z,?_⟩,⟨_,Z,Z,Z,Z,?_⟩,trivial⟩,?_,?_⟩
 ·exact step_callX Tryz.call86 rfl (fun wX eX=>by have E:=E.trans eX;exact Ct.mono (s_l08Copy [o1,.int .i64 x.graph.workers,.int .i64 x.graph.cap] x.graph _ (Graph.mkR x.graph (RdD.any (hd1.ext E))) (by omega)) fun v w' e h=>by obtain ⟨o,rfl,h⟩:=h;obtain ⟨f,h⟩:=OwS.owf h;exact ⟨f,⟨o,rfl,h.widen eX.size (Nat.le_refl _)⟩,h.in2⟩)
 ·exact Vl Hg
 ·exact Vm Hg Z (fun _ eX=>RdS.src (RdS.ext (hd4.rd.ext E) eX)) (Xe _) (by simp only [Yb,List.length_nil];simp only [Enc.sz];omega) (by decide)
 ·exact Vl Cs
 ·exact Vm Cs Z (fun _ eX=>RdS.src (RdS.ext (hd5.rd.ext E) eX)) (Xe _) (by simp only [Yb,List.length_nil];simp only [Enc.sz];omega) (by decide)
 ·exact step_box X5
 ·intro w4 e4
  intro v1 f1 ho1 v2 f2 ho2 v3 f3 ho3 v4 f4 ho4 v5 f5 ho5 v6 f6 ho6 sp1
  obtain ⟨_,_,eX,⟨v1,rfl,ho1⟩,_⟩:=ho1;replace ho1:=OwF.widen (OwF.ext ho1 eX) (Nat.le_refl _) eX.size
  obtain ⟨ho2,rfl⟩:=ho2
  obtain ⟨ho3,rfl⟩:=ho3
  obtain ⟨ho4,rfl⟩:=ho4
  obtain ⟨ho5,rfl⟩:=ho5
  obtain ⟨_,_,eX,⟨v6,rfl,ho6,rfl⟩,f6b⟩:=ho6;replace ho6:=Blk.ext ho6 eX;replace f6b:=And.intro (f6b v6 (by simp)).1 ho6.lt;clear eX
  replace sp1 : DjL [f1,(Kr v3),(Kr v5),[v6]]:=sp1
  have g_sp1 : w.heap.size ≤ w3.heap.size:=E.size
  replace E:=E.trans e4;replace h1:=h1.ext e4;replace h2:=h2.ext e4
  have z5:=e4.size
  clear ho2
  replace ho3 : Own w4 w3.heap.size w4.heap.size 5 v3 (List.flatMap (Enc.enc (α:=Token)) x.tokens):=ho3
  clear ho4
  replace ho5 : Own w4 w3.heap.size w4.heap.size 3 v5 (List.flatMap (Enc.enc (α:=News)) x.news):=ho5
  have g_v6 : w.heap.size ≤ v6:=by have:=E.size;omega
  have y_v6:=ho6.lt
  refine J_sub [(0,.agg [o1,.int .i64 x.graph.workers,.int .i64 x.graph.cap,o2,o3,o4,o5].toArray),(1,.pointer (some ⟨b1,0,none⟩)),(2,.pointer (some ⟨b2,0,none⟩)),(3,.pointer (some ⟨v6,0,none⟩)),(6,.pointer (some ⟨b1,0,none⟩)),(7,.agg [o1,.int .i64 x.graph.workers,.int .i64 x.graph.cap].toArray),(8,.agg [v1,.int .i64 x.graph.workers,.int .i64 x.graph.cap].toArray),(10,.pointer (some ⟨b1,5,none⟩)),(11,o4),(12,v3),(14,.pointer (some ⟨b1,6,none⟩)),(15,o5),(16,v5)] ⟨Z,Z,Z,Z,Z,Z,Z,Z,Z,Z,Z,Z,Z,trivial⟩ ?_
  have hbl1 : ∀ w,(Instr.build 40 ([(0,.agg [v1,.int .i64 x.graph.workers,.int .i64 x.graph.cap].toArray),(3,v3),(4,v5)]).toArray).run Tryz.prog w = .ok (.agg [v1,.int .i64 x.graph.workers,.int .i64 x.graph.cap,.slice none 0 0,.slice none 0 0,v3,v5].toArray) w:=by clear E;obtain ⟨_,_,_,rfl⟩:=SlLen.shape (RdD.len (OwF.rd ho1));obtain ⟨_,_,_,rfl⟩:=Own.shape ho3;obtain ⟨_,_,_,rfl⟩:=Own.shape ho5;intro w;kernel_rfl
  refine Qa (Gz [v1,.int .i64 x.graph.workers,.int .i64 x.graph.cap,.slice none 0 0,.slice none 0 0,v3,v5] Z hbl1) Z (Q6 (cs':=[v1,.int .i64 x.graph.workers,.int .i64 x.graph.cap,.slice none 0 0,.slice none 0 0,v3,v5]) X5 Z Z Z (Qk (RdD.one (OwF.rd ho1)) (Qk Z (Qk Z (Qk Z (Qk Z (Qk ho3.one (Qk ho5.one Z))))))) ho6 (Nat.le_of_ble_eq_true Z) Z (fun w5 m1 ho6'=>?_))
  replace ho6:=ho6'
  have kq1:=Mod.kq (l:=[v6]) m1 (fun g hg=>by cases hg;simp)
  replace E:=E.step m1 (fun g hg=>by cases hg;omega);replace h1:=h1.mod m1 (fun g hg=>by cases hg;omega);replace h2:=h2.mod m1 (fun g hg=>by cases hg;omega);replace ho1:=OwF.kp ho1 (Kq.kp kq1 sp1.1.2.2.1);replace ho3:=Own.kp ho3 (Kq.kp kq1 sp1.2.1.2.1);replace ho5:=Own.kp ho5 (Kq.kp kq1 sp1.2.2.1.1)
  have z6:=m1.size
  refine Qd (Qf (Qf (Qh [true] Z Z (Qa (Qe Z) Z (Qd (Q0 (Ym (fun (xq : Nat × Value)=>let ⟨k3,vo3⟩:=xq;[(1,.pointer (some ⟨b1,0,none⟩)),(2,.pointer (some ⟨b2,0,none⟩)),(3,.pointer (some ⟨v6,0,none⟩)),(4,.int .i64 ((k3 : Nat) : Int))]) (fun (xq : Nat × Value) w'=>let ⟨k3,vo3⟩:=xq;Ext w w' ∧ w5.heap.size ≤ w'.heap.size ∧ Blk w' b1 ([o1,.int .i64 x.graph.workers,.int .i64 x.graph.cap,o2,o3,o4,o5]) ∧ Blk w' b2 [.slice none 0 0,.int .i64 0,.int .i64 0,.slice none 0 0,.slice none 0 0,.slice none 0 0,.slice none 0 0] ∧ OwF w' w3.heap.size w4.heap.size v1 x.graph.nodes f1 ∧ Own w' w3.heap.size w4.heap.size 5 v3 (List.flatMap (Enc.enc (α:=Token)) x.tokens) ∧ Own w' w3.heap.size w4.heap.size 3 v5 (List.flatMap (Enc.enc (α:=News)) x.news) ∧ k3 ≤ x.workers.length ∧ OwS w' w5.heap.size w'.heap.size vo3 (x.workers.take k3) ∧ Blk w' v6 [v1,.int .i64 x.graph.workers,.int .i64 x.graph.cap,vo3,.slice none 0 0,v3,v5]) (fun (xq : Nat × Value)=>let ⟨k3,vo3⟩:=xq;x.workers.length - k3) (0,.slice none 0 0) ⟨Z,Z,Z,Z,trivial⟩ ⟨E,Nat.le_refl _,h1,h2,ho1,ho3,ho5,Nat.zero_le _,(OwS.nil _ _ _),ho6⟩ ?_)))))))
  clear E h1 h2 ho1 ho3 ho5 ho6
  rintro ⟨k3,vo3⟩ w6 ⟨E,z7,h1,h2,ho1,ho3,ho5,hk3,hoC3,ho6⟩
  refine Q7 [(1,.pointer (some ⟨b1,0,none⟩)),(2,.pointer (some ⟨b2,0,none⟩)),(3,.pointer (some ⟨v6,0,none⟩)),(4,.int .i64 ((k3 : Nat) : Int))] ⟨Z,Z,Z,Z,trivial⟩ ?_
  refine Qf (Qf (Qh [true,true,true,true,true] Z Z (Qa (Qc Z) Z (Qa (Qb Kh Z) Z (Qa (Qj Gh Z (h1.one 3 Z)) Z (Qa (Ya Tryz.underlying35 Z (hd2.ext E).len) Z (Qa (Yf Z Z) Z (Qd (Qs Z (fun hc1=>?_) (fun hc1=>?_))))))))))
  ·have hc1n : k3 < x.workers.length:=by first | (have h:=of_decide_eq_true hc1;omega) | (have h:=hc1;simp at h;omega)
   refine Qn (Qf (Q0 (Hp Xi [9] [(0,true),(1,true),(2,true),(3,true),(4,true),(5,true),(6,true),(7,false),(8,false)] [(9,false),(10,true),(11,false)] (by decide +kernel) Z Z (fun w7 e5=>?_))))
   replace E:=E.trans e5;replace h1:=h1.ext e5;replace h2:=h2.ext e5;replace ho1:=ho1.ext e5;replace ho3:=ho3.ext e5;replace ho5:=ho5.ext e5;replace hoC3:=hoC3.ext e5;replace ho6:=ho6.ext e5
   have z8:=e5.size
   refine Qa (Qb Kh Z) Z (Qa (Qj Gh Z (ho6.one 3 Z)) Z (Qa (Qb Kh Z) Z (Qa (Qj Gh Z (h1.one 3 Z)) Z (Qa (Qc Z) Z ?_))))
   have hi1 : k3 < x.workers.length:=(by first | assumption | omega | (simp only [List.length_set];first | assumption | omega))
   obtain ⟨_,hr1,ha1⟩:=RdD.get hd2 hi1
   obtain ⟨o6,o7,o8,o9,o10,o11,o12,o13,rfl,hd6,hd7,hd8,hd9,hd10,hd11,hd12,hd13⟩:=Worker.op hr1
   replace ha1 : At w (Xf o2) (Xm o2 + k3 * 8) [o6,o7,o8,o9,o10,o11,o12,o13]:=ha1
   refine Qa (Q1 (i:=k3) U8 Z Z (hd2.ext E).1 hi1) Z (Qa (Qt Kw Z (ha1.ext E) Z) Z (Qv Tryz.call87 Z (s_l12Copy [o6,o7,o8,o9,o10,o11,o12,o13] (x.workers[k3]'hi1) _ (Worker.mkR (x.workers[k3]'hi1) (RdD.any (hd6.ext E)) (RdD.any (hd7.ext E)) (RdD.any (hd8.ext E)) (RdD.any (hd9.ext E)) (RdD.any (hd10.ext E)) (RdD.any (hd11.ext E)) (RdD.any (hd12.ext E)) (RdD.any (hd13.ext E))) (by have:=Gf (f:=Yd) (show k3 < x.workers.length by omega);unfold X1 at hb2;omega)) Z (fun _ w8 e6 ho7=>?_)))
   obtain ⟨_,rfl,ho7⟩:=ho7
   have g_ho7 : w.heap.size ≤ w7.heap.size:=E.size
   replace E:=E.trans e6;replace h1:=h1.ext e6;replace h2:=h2.ext e6;replace ho1:=ho1.ext e6;replace ho3:=ho3.ext e6;replace ho5:=ho5.ext e6;replace hoC3:=hoC3.ext e6;replace ho6:=ho6.ext e6
   have z9:=e6.size
   obtain ⟨o14,o15,o16,o17,o18,o19,o20,o21,rfl,sp2,hw1,hw2,hw3,hw4,hw5,hw6,hw7,hw8⟩:=Worker.opO ho7
   refine Yz (vs:=[.agg [o14,o15,o16,o17,o18,o19,o20,o21].toArray]) (css:=[[o14,o15,o16,o17,o18,o19,o20,o21]]) U8 Z Z ⟨⟨Z,Z⟩,trivial⟩ Z Z (fun b3 w9 e7 s3 h3=>?_)
   replace h3 : Blk w9 b3 [o14,o15,o16,o17,o18,o19,o20,o21]:=h3
   have g_b3 : w.heap.size ≤ b3:=by have:=E.size;omega
   have y_b3:=h3.lt
   replace E:=E.trans e7;replace h1:=h1.ext e7;replace h2:=h2.ext e7;replace ho1:=ho1.ext e7;replace ho3:=ho3.ext e7;replace ho5:=ho5.ext e7;replace hoC3:=hoC3.ext e7;replace ho6:=ho6.ext e7;replace hw1:=hw1.ext e7;replace hw2:=hw2.ext e7;replace hw3:=hw3.ext e7;replace hw4:=hw4.ext e7;replace hw5:=hw5.ext e7;replace hw6:=hw6.ext e7;replace hw7:=hw7.ext e7;replace hw8:=hw8.ext e7
   have z10:=e7.size
   refine Gb ?_
   refine Bt Z ?_
   refine V1 (lo:=w5.heap.size) (hi:=w6.heap.size) (lo2:=w7.heap.size) (hi2:=w9.heap.size) U8 Z Z hoC3 (Src.ofBlk h3 Z) (Worker.mkO (x.workers[k3]'hi1) sp2 (Own.widen hw1 (by omega) (by omega)) (Own.widen hw2 (by omega) (by omega)) (Own.widen hw3 (by omega) (by omega)) (Own.widen hw4 (by omega) (by omega)) (Own.widen hw5 (by omega) (by omega)) (Own.widen hw6 (by omega) (by omega)) (Own.widen hw7 (by omega) (by omega)) (Own.widen hw8 (by omega) (by omega))) (by omega) (by simp only [List.length_take,show Dat.sz Worker = 8 from Z,show Dat.sz Link = 6 from Z];unfold X1 at hb2;omega) (by decide) (by omega) (by omega) (by omega) (by omega) (by omega) Z Z (fun v7 w10 m2 ho8=>?_)
   have hqb:=OwS.inn hoC3
   replace E:=E.step m2 (fun g hg=>by have:=hqb g hg;omega);replace h1:=h1.mod m2 (fun g hg=>by have:=hqb g hg;omega);replace h2:=h2.mod m2 (fun g hg=>by have:=hqb g hg;omega);replace ho1:=ho1.mod m2 (fun g hg=>by have:=hqb g hg;omega);replace ho3:=ho3.mod m2 (fun g hg=>by have:=hqb g hg;omega);replace ho5:=ho5.mod m2 (fun g hg=>by have:=hqb g hg;omega);replace ho6:=ho6.mod m2 (fun g hg=>by have:=hqb g hg;omega)
   have z11:=m2.size
   clear hqb
   refine T3 ?_
   refine Qa (Qb Kh Z) Z (Yj (cs':=[v1,.int .i64 x.graph.workers,.int .i64 x.graph.cap,v7,.slice none 0 0,v3,v5]) Gh Z Z (RdD.one (OwS.rd ho8)) ho6 (Nat.le_of_ble_eq_true Z) Z (fun w11 m3 ho6'=>?_))
   replace ho6:=ho6'
   have kq2:=Mod.kq (l:=[v6]) m3 (fun g hg=>by cases hg;simp)
   replace E:=E.step m3 (fun g hg=>by cases hg;omega);replace h1:=h1.mod m3 (fun g hg=>by cases hg;omega);replace h2:=h2.mod m3 (fun g hg=>by cases hg;omega);replace ho1:=OwF.kp ho1 (Kq.kp kq2 sp1.1.2.2.1);replace ho3:=Own.kp ho3 (Kq.kp kq2 sp1.2.1.2.1);replace ho5:=Own.kp ho5 (Kq.kp kq2 sp1.2.2.1.1);replace ho8:=ho8.mod m3 (fun g hg=>by cases hg;omega)
   have z12:=m3.size
   refine Qd (Q4 (Yr (Qh [true,true,true] Z Z (Qa (Qc Z) Z (Qa (Q8 Z Z (Yt hc1n (hd2.ext E).1.1)) Z (Qa (Qe Z) Z (Qd (Q4 (Yc (k3 + 1,v7) (by simp;omega) ⟨Z,Z,Z,Z,trivial⟩ ⟨E,(by omega),h1,h2,ho1,ho3,ho5,(by omega),(by rw [List.take_succ_eq_append_getElem (by assumption)];exact OwS.widen ho8 (by omega) (by omega)),ho6⟩)))))))))
  ·have hc1n : ¬ k3 < x.workers.length:=by first | (have h:=of_decide_eq_false hc1;omega) | (have h:=hc1;simp at h;omega)
   refine Yn (Q5 (Q3 ?_))
   refine Qf (Qf (Qh [true] Z Z (Qa (Qe Z) Z (Qd (Q0 (Ym (fun (xq : Nat × Value)=>let ⟨k4,vo4⟩:=xq;[(1,.pointer (some ⟨b1,0,none⟩)),(2,.pointer (some ⟨b2,0,none⟩)),(3,.pointer (some ⟨v6,0,none⟩)),(5,.int .i64 ((k4 : Nat) : Int))]) (fun (xq : Nat × Value) w'=>let ⟨k4,vo4⟩:=xq;Ext w w' ∧ w6.heap.size ≤ w'.heap.size ∧ Blk w' b1 ([o1,.int .i64 x.graph.workers,.int .i64 x.graph.cap,o2,o3,o4,o5]) ∧ Blk w' b2 [.slice none 0 0,.int .i64 0,.int .i64 0,.slice none 0 0,.slice none 0 0,.slice none 0 0,.slice none 0 0] ∧ OwF w' w3.heap.size w4.heap.size v1 x.graph.nodes f1 ∧ Own w' w3.heap.size w4.heap.size 5 v3 (List.flatMap (Enc.enc (α:=Token)) x.tokens) ∧ Own w' w3.heap.size w4.heap.size 3 v5 (List.flatMap (Enc.enc (α:=News)) x.news) ∧ OwS w' w5.heap.size w6.heap.size vo3 (x.workers.take k3) ∧ k4 ≤ x.links.length ∧ OwS w' w6.heap.size w'.heap.size vo4 (x.links.take k4) ∧ Blk w' v6 [v1,.int .i64 x.graph.workers,.int .i64 x.graph.cap,vo3,vo4,v3,v5]) (fun (xq : Nat × Value)=>let ⟨k4,vo4⟩:=xq;x.links.length - k4) (0,.slice none 0 0) ⟨Z,Z,Z,Z,trivial⟩ ⟨E,Nat.le_refl _,h1,h2,ho1,ho3,ho5,hoC3,Nat.zero_le _,(OwS.nil _ _ _),ho6⟩ ?_))))))
   clear E h1 h2 ho1 ho3 ho5 hoC3 ho6
   rintro ⟨k4,vo4⟩ w12 ⟨E,z13,h1,h2,ho1,ho3,ho5,hoC3,hk4,hoC4,ho6⟩
   refine Q7 [(1,.pointer (some ⟨b1,0,none⟩)),(2,.pointer (some ⟨b2,0,none⟩)),(3,.pointer (some ⟨v6,0,none⟩)),(5,.int .i64 ((k4 : Nat) : Int))] ⟨Z,Z,Z,Z,trivial⟩ ?_
   refine Qf (Qf (Qh [true,true,true,true,true] Z Z (Qa (Qc Z) Z (Qa (Qb Uk Z) Z (Qa (Qj H2 Z (h1.one 4 Z)) Z (Qa (Ya Tryz.underlying36 Z (hd3.ext E).len) Z (Qa (Yf Z Z) Z (Qd (Qs Z (fun hc2=>?_) (fun hc2=>?_))))))))))
   ·have hc2n : k4 < x.links.length:=by first | (have h:=of_decide_eq_true hc2;omega) | (have h:=hc2;simp at h;omega)
    refine Qn (Qf (Q0 (Hp Xi [9] [(0,true),(1,true),(2,true),(3,true),(4,true),(5,true),(6,true),(7,false),(8,false)] [(9,false),(10,true),(11,false)] (by decide +kernel) Z Z (fun w13 e8=>?_))))
    replace E:=E.trans e8;replace h1:=h1.ext e8;replace h2:=h2.ext e8;replace ho1:=ho1.ext e8;replace ho3:=ho3.ext e8;replace ho5:=ho5.ext e8;replace hoC3:=hoC3.ext e8;replace hoC4:=hoC4.ext e8;replace ho6:=ho6.ext e8
    have z14:=e8.size
    refine Qa (Qb Uk Z) Z (Qa (Qj H2 Z (ho6.one 4 Z)) Z (Qa (Qb Uk Z) Z (Qa (Qj H2 Z (h1.one 4 Z)) Z (Qa (Qc Z) Z ?_))))
    have hi2 : k4 < x.links.length:=(by first | assumption | omega | (simp only [List.length_set];first | assumption | omega))
    obtain ⟨_,hr2,ha2⟩:=RdD.get hd3 hi2
    obtain ⟨o22,rfl,hd14⟩:=Link.op hr2
    replace ha2 : At w (Xf o3) (Xm o3 + k4 * 6) [.int .i64 ((x.links[k4]'hi2).cap),o22,.int .i64 ((x.links[k4]'hi2).credits),.int .i64 ((x.links[k4]'hi2).back),.int .i64 ((x.links[k4]'hi2).sent),.int .i64 ((x.links[k4]'hi2).got)]:=ha2
    refine Qa (Q1 (i:=k4) Gg Z Z (hd3.ext E).1 hi2) Z (Qa (Qt Ua Z (ha2.ext E) Z) Z (Qv Tryz.call88 Z (s_l06Copy [.int .i64 ((x.links[k4]'hi2).cap),o22,.int .i64 ((x.links[k4]'hi2).credits),.int .i64 ((x.links[k4]'hi2).back),.int .i64 ((x.links[k4]'hi2).sent),.int .i64 ((x.links[k4]'hi2).got)] (x.links[k4]'hi2) _ (Link.mkR (x.links[k4]'hi2) (RdD.any (hd14.ext E))) (by have:=Gf (f:=Xl) (show k4 < x.links.length by omega);unfold X1 at hb2;omega)) Z (fun _ w14 e9 ho9=>?_)))
    obtain ⟨_,rfl,ho9⟩:=ho9
    have g_ho9 : w.heap.size ≤ w13.heap.size:=E.size
    replace E:=E.trans e9;replace h1:=h1.ext e9;replace h2:=h2.ext e9;replace ho1:=ho1.ext e9;replace ho3:=ho3.ext e9;replace ho5:=ho5.ext e9;replace hoC3:=hoC3.ext e9;replace hoC4:=hoC4.ext e9;replace ho6:=ho6.ext e9
    have z15:=e9.size
    obtain ⟨o23,rfl,sp3,hw9⟩:=Link.opO ho9
    refine Yz (vs:=[.agg [.int .i64 ((x.links[k4]'hi2).cap),o23,.int .i64 ((x.links[k4]'hi2).credits),.int .i64 ((x.links[k4]'hi2).back),.int .i64 ((x.links[k4]'hi2).sent),.int .i64 ((x.links[k4]'hi2).got)].toArray]) (css:=[[.int .i64 ((x.links[k4]'hi2).cap),o23,.int .i64 ((x.links[k4]'hi2).credits),.int .i64 ((x.links[k4]'hi2).back),.int .i64 ((x.links[k4]'hi2).sent),.int .i64 ((x.links[k4]'hi2).got)]]) Gg Z Z ⟨⟨Z,Z⟩,trivial⟩ Z Z (fun b4 w15 e10 s4 h4=>?_)
    replace h4 : Blk w15 b4 [.int .i64 ((x.links[k4]'hi2).cap),o23,.int .i64 ((x.links[k4]'hi2).credits),.int .i64 ((x.links[k4]'hi2).back),.int .i64 ((x.links[k4]'hi2).sent),.int .i64 ((x.links[k4]'hi2).got)]:=h4
    have g_b4 : w.heap.size ≤ b4:=by have:=E.size;omega
    have y_b4:=h4.lt
    replace E:=E.trans e10;replace h1:=h1.ext e10;replace h2:=h2.ext e10;replace ho1:=ho1.ext e10;replace ho3:=ho3.ext e10;replace ho5:=ho5.ext e10;replace hoC3:=hoC3.ext e10;replace hoC4:=hoC4.ext e10;replace ho6:=ho6.ext e10;replace hw9:=hw9.ext e10
    have z16:=e10.size
    refine Gb ?_
    refine Bt Z ?_
    refine V1 (lo:=w6.heap.size) (hi:=w12.heap.size) (lo2:=w13.heap.size) (hi2:=w15.heap.size) Gg Z Z hoC4 (Src.ofBlk h4 Z) (Link.mkO (x.links[k4]'hi2) sp3 (Own.widen hw9 (by omega) (by omega))) (by omega) (by simp only [List.length_take,show Dat.sz Worker = 8 from Z,show Dat.sz Link = 6 from Z];unfold X1 at hb2;omega) (by decide) (by omega) (by omega) (by omega) (by omega) (by omega) Z Z (fun v8 w16 m4 ho10=>?_)
    have hqb:=OwS.inn hoC4
    replace E:=E.step m4 (fun g hg=>by have:=hqb g hg;omega);replace h1:=h1.mod m4 (fun g hg=>by have:=hqb g hg;omega);replace h2:=h2.mod m4 (fun g hg=>by have:=hqb g hg;omega);replace ho1:=ho1.mod m4 (fun g hg=>by have:=hqb g hg;omega);replace ho3:=ho3.mod m4 (fun g hg=>by have:=hqb g hg;omega);replace ho5:=ho5.mod m4 (fun g hg=>by have:=hqb g hg;omega);replace hoC3:=hoC3.mod m4 (fun g hg=>by have:=hqb g hg;omega);replace ho6:=ho6.mod m4 (fun g hg=>by have:=hqb g hg;omega)
    have z17:=m4.size
    clear hqb
    refine T3 ?_
    refine Qa (Qb Uk Z) Z (Yj (cs':=[v1,.int .i64 x.graph.workers,.int .i64 x.graph.cap,vo3,v8,v3,v5]) H2 Z Z (RdD.one (OwS.rd ho10)) ho6 (Nat.le_of_ble_eq_true Z) Z (fun w17 m5 ho6'=>?_))
    replace ho6:=ho6'
    have kq3:=Mod.kq (l:=[v6]) m5 (fun g hg=>by cases hg;simp)
    replace E:=E.step m5 (fun g hg=>by cases hg;omega);replace h1:=h1.mod m5 (fun g hg=>by cases hg;omega);replace h2:=h2.mod m5 (fun g hg=>by cases hg;omega);replace ho1:=OwF.kp ho1 (Kq.kp kq3 sp1.1.2.2.1);replace ho3:=Own.kp ho3 (Kq.kp kq3 sp1.2.1.2.1);replace ho5:=Own.kp ho5 (Kq.kp kq3 sp1.2.2.1.1);replace hoC3:=hoC3.mod m5 (fun g hg=>by cases hg;omega);replace ho10:=ho10.mod m5 (fun g hg=>by cases hg;omega)
    have z18:=m5.size
    refine Qd (Q4 (Yr (Qh [true,true,true] Z Z (Qa (Qc Z) Z (Qa (Q8 Z Z (Yt hc2n (hd3.ext E).1.1)) Z (Qa (Qe Z) Z (Qd (Q4 (Yc (k4 + 1,v8) (by simp;omega) ⟨Z,Z,Z,Z,trivial⟩ ⟨E,(by omega),h1,h2,ho1,ho3,ho5,hoC3,(by omega),(by rw [List.take_succ_eq_append_getElem (by assumption)];exact OwS.widen ho10 (by omega) (by omega)),ho6⟩)))))))))
   ·have hc2n : ¬ k4 < x.links.length:=by first | (have h:=of_decide_eq_false hc2;omega) | (have h:=hc2;simp at h;omega)
    refine Yn (Q5 (Q3 ?_))
    refine Qf (Qh [true,false] Z Z (Qa (Qt X5 Z ho6.at Z) Z (Q6 (cs':=[v1,.int .i64 x.graph.workers,.int .i64 x.graph.cap,vo3,vo4,v3,v5]) X5 Z Z Z (Qk (RdD.one (OwF.rd ho1)) (Qk Z (Qk Z (Qk (RdD.one (OwS.rd hoC3)) (Qk (RdD.one (OwS.rd hoC4)) (Qk ho3.one (Qk ho5.one Z))))))) h2 (Nat.le_of_ble_eq_true Z) Z (fun w18 m6 h2'=>?_))))
    replace h2:=h2'
    replace E:=E.step m6 (fun g hg=>by cases hg;omega);replace h1:=h1.mod m6 (fun g hg=>by cases hg;omega);replace ho1:=ho1.mod m6 (fun g hg=>by cases hg;omega);replace ho3:=ho3.mod m6 (fun g hg=>by cases hg;omega);replace ho5:=ho5.mod m6 (fun g hg=>by cases hg;omega);replace hoC3:=hoC3.mod m6 (fun g hg=>by cases hg;omega);replace hoC4:=hoC4.mod m6 (fun g hg=>by cases hg;omega);replace ho6:=ho6.mod m6 (fun g hg=>by cases hg;omega)
    have z19:=m6.size
    refine Qd (Qw (Kk Z Z (Yi X5 h2.at Z) E ?_))
    rw [List.take_of_length_le (by omega)] at hoC3 hoC4
    exact ⟨_,_,_,_,_,Z,OwC.of2 x ho1 hoC3 hoC4 ho3 ho5 ⟨⟨sp1.1.1,sp1.1.2.1,trivial⟩,⟨sp1.2.1.1,trivial⟩,trivial,trivial⟩ (by have:=E.size;omega) (by omega)⟩
 ·intro w19 e11
  intro v9 f7 ho11 v10 f8 ho12 v11 f9 ho13 v12 f10 ho14 v13 f11 ho15 sp4
  obtain ⟨_,_,eX,⟨v9,rfl,ho11⟩,_⟩:=ho11;replace ho11:=OwF.widen (OwF.ext ho11 eX) (Nat.le_refl _) eX.size
  obtain ⟨ho12,rfl⟩:=ho12
  obtain ⟨ho13,rfl⟩:=ho13
  obtain ⟨ho14,rfl⟩:=ho14
  obtain ⟨ho15,rfl⟩:=ho15
  replace sp4 : DjL [f7,(Kr v11),(Kr v13)]:=sp4
  have g_sp4 : w.heap.size ≤ w3.heap.size:=E.size
  replace E:=E.trans e11;replace h1:=h1.ext e11;replace h2:=h2.ext e11
  have z20:=e11.size
  clear ho12
  replace ho13 : Own w19 w3.heap.size w19.heap.size 5 v11 (List.flatMap (Enc.enc (α:=Token)) x.tokens):=ho13
  clear ho14
  replace ho15 : Own w19 w3.heap.size w19.heap.size 3 v13 (List.flatMap (Enc.enc (α:=News)) x.news):=ho15
  refine J_sub [(0,.agg [o1,.int .i64 x.graph.workers,.int .i64 x.graph.cap,o2,o3,o4,o5].toArray),(1,.pointer (some ⟨b1,0,none⟩)),(2,.pointer (some ⟨b2,0,none⟩)),(6,.pointer (some ⟨b1,0,none⟩)),(7,.agg [o1,.int .i64 x.graph.workers,.int .i64 x.graph.cap].toArray),(8,.agg [v9,.int .i64 x.graph.workers,.int .i64 x.graph.cap].toArray),(10,.pointer (some ⟨b1,5,none⟩)),(11,o4),(12,v11),(14,.pointer (some ⟨b1,6,none⟩)),(15,o5),(16,v13)] ⟨Z,Z,Z,Z,Z,Z,Z,Z,Z,Z,Z,Z,trivial⟩ ?_
  have hbl2 : ∀ w,(Instr.build 40 ([(0,.agg [v9,.int .i64 x.graph.workers,.int .i64 x.graph.cap].toArray),(3,v11),(4,v13)]).toArray).run Tryz.prog w = .ok (.agg [v9,.int .i64 x.graph.workers,.int .i64 x.graph.cap,.slice none 0 0,.slice none 0 0,v11,v13].toArray) w:=by clear E;obtain ⟨_,_,_,rfl⟩:=SlLen.shape (RdD.len (OwF.rd ho11));obtain ⟨_,_,_,rfl⟩:=Own.shape ho13;obtain ⟨_,_,_,rfl⟩:=Own.shape ho15;intro w;kernel_rfl
  refine Qa (Gz [v9,.int .i64 x.graph.workers,.int .i64 x.graph.cap,.slice none 0 0,.slice none 0 0,v11,v13] Z hbl2) Z (Yk X5 Z (fun b5 w20 e12 s5 h5=>?_))
  have g_b5 : w.heap.size ≤ b5:=by have:=E.size;omega
  have y_b5:=h5.lt
  replace E:=E.trans e12;replace h1:=h1.ext e12;replace h2:=h2.ext e12;replace ho11:=ho11.ext e12;replace ho13:=ho13.ext e12;replace ho15:=ho15.ext e12
  have z21:=e12.size
  refine Q6 (cs':=[v9,.int .i64 x.graph.workers,.int .i64 x.graph.cap,.slice none 0 0,.slice none 0 0,v11,v13]) X5 Z Z Z (Qk (RdD.one (OwF.rd ho11)) (Qk Z (Qk Z (Qk Z (Qk Z (Qk ho13.one (Qk ho15.one Z))))))) h5 (Nat.le_of_ble_eq_true Z) Z (fun w21 m7 h5'=>?_)
  replace h5:=h5'
  replace E:=E.step m7 (fun g hg=>by cases hg;omega);replace h1:=h1.mod m7 (fun g hg=>by cases hg;omega);replace h2:=h2.mod m7 (fun g hg=>by cases hg;omega);replace ho11:=ho11.mod m7 (fun g hg=>by cases hg;omega);replace ho13:=ho13.mod m7 (fun g hg=>by cases hg;omega);replace ho15:=ho15.mod m7 (fun g hg=>by cases hg;omega)
  have z22:=m7.size
  refine Qd (Qf (Qf (Qh [true] Z Z (Qa (Qe Z) Z (Qd (Q0 (Ym (fun (xq : Nat × Value)=>let ⟨k3,vo3⟩:=xq;[(1,.pointer (some ⟨b1,0,none⟩)),(2,.pointer (some ⟨b2,0,none⟩)),(3,.pointer (some ⟨b5,0,none⟩)),(4,.int .i64 ((k3 : Nat) : Int))]) (fun (xq : Nat × Value) w'=>let ⟨k3,vo3⟩:=xq;Ext w w' ∧ w21.heap.size ≤ w'.heap.size ∧ Blk w' b1 ([o1,.int .i64 x.graph.workers,.int .i64 x.graph.cap,o2,o3,o4,o5]) ∧ Blk w' b2 [.slice none 0 0,.int .i64 0,.int .i64 0,.slice none 0 0,.slice none 0 0,.slice none 0 0,.slice none 0 0] ∧ OwF w' w3.heap.size w19.heap.size v9 x.graph.nodes f7 ∧ Own w' w3.heap.size w19.heap.size 5 v11 (List.flatMap (Enc.enc (α:=Token)) x.tokens) ∧ Own w' w3.heap.size w19.heap.size 3 v13 (List.flatMap (Enc.enc (α:=News)) x.news) ∧ k3 ≤ x.workers.length ∧ OwS w' w21.heap.size w'.heap.size vo3 (x.workers.take k3) ∧ Blk w' b5 [v9,.int .i64 x.graph.workers,.int .i64 x.graph.cap,vo3,.slice none 0 0,v11,v13]) (fun (xq : Nat × Value)=>let ⟨k3,vo3⟩:=xq;x.workers.length - k3) (0,.slice none 0 0) ⟨Z,Z,Z,Z,trivial⟩ ⟨E,Nat.le_refl _,h1,h2,ho11,ho13,ho15,Nat.zero_le _,(OwS.nil _ _ _),h5⟩ ?_)))))))
  clear E h1 h2 ho11 ho13 ho15 h5
  rintro ⟨k3,vo3⟩ w22 ⟨E,z23,h1,h2,ho11,ho13,ho15,hk3,hoC3,h5⟩
  refine Q7 [(1,.pointer (some ⟨b1,0,none⟩)),(2,.pointer (some ⟨b2,0,none⟩)),(3,.pointer (some ⟨b5,0,none⟩)),(4,.int .i64 ((k3 : Nat) : Int))] ⟨Z,Z,Z,Z,trivial⟩ ?_
  refine Qf (Qf (Qh [true,true,true,true,true] Z Z (Qa (Qc Z) Z (Qa (Qb Kh Z) Z (Qa (Qj Gh Z (h1.one 3 Z)) Z (Qa (Ya Tryz.underlying35 Z (hd2.ext E).len) Z (Qa (Yf Z Z) Z (Qd (Qs Z (fun hc3=>?_) (fun hc3=>?_))))))))))
  ·have hc3n : k3 < x.workers.length:=by first | (have h:=of_decide_eq_true hc3;omega) | (have h:=hc3;simp at h;omega)
   refine Qn (Qf (Q0 (Hp Xi [9] [(0,true),(1,true),(2,true),(3,true),(4,true),(5,true),(6,true),(7,false),(8,false)] [(9,false),(10,true),(11,false)] (by decide +kernel) Z Z (fun w23 e13=>?_))))
   replace E:=E.trans e13;replace h1:=h1.ext e13;replace h2:=h2.ext e13;replace ho11:=ho11.ext e13;replace ho13:=ho13.ext e13;replace ho15:=ho15.ext e13;replace hoC3:=hoC3.ext e13;replace h5:=h5.ext e13
   have z24:=e13.size
   refine Qa (Qb Kh Z) Z (Qa (Qj Gh Z (h5.one 3 Z)) Z (Qa (Qb Kh Z) Z (Qa (Qj Gh Z (h1.one 3 Z)) Z (Qa (Qc Z) Z ?_))))
   have hi3 : k3 < x.workers.length:=(by first | assumption | omega | (simp only [List.length_set];first | assumption | omega))
   obtain ⟨_,hr3,ha3⟩:=RdD.get hd2 hi3
   obtain ⟨o24,o25,o26,o27,o28,o29,o30,o31,rfl,hd15,hd16,hd17,hd18,hd19,hd20,hd21,hd22⟩:=Worker.op hr3
   replace ha3 : At w (Xf o2) (Xm o2 + k3 * 8) [o24,o25,o26,o27,o28,o29,o30,o31]:=ha3
   refine Qa (Q1 (i:=k3) U8 Z Z (hd2.ext E).1 hi3) Z (Qa (Qt Kw Z (ha3.ext E) Z) Z (Qv Tryz.call87 Z (s_l12Copy [o24,o25,o26,o27,o28,o29,o30,o31] (x.workers[k3]'hi3) _ (Worker.mkR (x.workers[k3]'hi3) (RdD.any (hd15.ext E)) (RdD.any (hd16.ext E)) (RdD.any (hd17.ext E)) (RdD.any (hd18.ext E)) (RdD.any (hd19.ext E)) (RdD.any (hd20.ext E)) (RdD.any (hd21.ext E)) (RdD.any (hd22.ext E))) (by have:=Gf (f:=Yd) (show k3 < x.workers.length by omega);unfold X1 at hb2;omega)) Z (fun _ w24 e14 ho16=>?_)))
   obtain ⟨_,rfl,ho16⟩:=ho16
   have g_ho16 : w.heap.size ≤ w23.heap.size:=E.size
   replace E:=E.trans e14;replace h1:=h1.ext e14;replace h2:=h2.ext e14;replace ho11:=ho11.ext e14;replace ho13:=ho13.ext e14;replace ho15:=ho15.ext e14;replace hoC3:=hoC3.ext e14;replace h5:=h5.ext e14
   have z25:=e14.size
   obtain ⟨o32,o33,o34,o35,o36,o37,o38,o39,rfl,sp5,hw10,hw11,hw12,hw13,hw14,hw15,hw16,hw17⟩:=Worker.opO ho16
   refine Yz (vs:=[.agg [o32,o33,o34,o35,o36,o37,o38,o39].toArray]) (css:=[[o32,o33,o34,o35,o36,o37,o38,o39]]) U8 Z Z ⟨⟨Z,Z⟩,trivial⟩ Z Z (fun b6 w25 e15 s6 h6=>?_)
   replace h6 : Blk w25 b6 [o32,o33,o34,o35,o36,o37,o38,o39]:=h6
   have g_b6 : w.heap.size ≤ b6:=by have:=E.size;omega
   have y_b6:=h6.lt
   replace E:=E.trans e15;replace h1:=h1.ext e15;replace h2:=h2.ext e15;replace ho11:=ho11.ext e15;replace ho13:=ho13.ext e15;replace ho15:=ho15.ext e15;replace hoC3:=hoC3.ext e15;replace h5:=h5.ext e15;replace hw10:=hw10.ext e15;replace hw11:=hw11.ext e15;replace hw12:=hw12.ext e15;replace hw13:=hw13.ext e15;replace hw14:=hw14.ext e15;replace hw15:=hw15.ext e15;replace hw16:=hw16.ext e15;replace hw17:=hw17.ext e15
   have z26:=e15.size
   refine Gb ?_
   refine Bt Z ?_
   refine V1 (lo:=w21.heap.size) (hi:=w22.heap.size) (lo2:=w23.heap.size) (hi2:=w25.heap.size) U8 Z Z hoC3 (Src.ofBlk h6 Z) (Worker.mkO (x.workers[k3]'hi3) sp5 (Own.widen hw10 (by omega) (by omega)) (Own.widen hw11 (by omega) (by omega)) (Own.widen hw12 (by omega) (by omega)) (Own.widen hw13 (by omega) (by omega)) (Own.widen hw14 (by omega) (by omega)) (Own.widen hw15 (by omega) (by omega)) (Own.widen hw16 (by omega) (by omega)) (Own.widen hw17 (by omega) (by omega))) (by omega) (by simp only [List.length_take,show Dat.sz Worker = 8 from Z,show Dat.sz Link = 6 from Z];unfold X1 at hb2;omega) (by decide) (by omega) (by omega) (by omega) (by omega) (by omega) Z Z (fun v14 w26 m8 ho17=>?_)
   have hqb:=OwS.inn hoC3
   replace E:=E.step m8 (fun g hg=>by have:=hqb g hg;omega);replace h1:=h1.mod m8 (fun g hg=>by have:=hqb g hg;omega);replace h2:=h2.mod m8 (fun g hg=>by have:=hqb g hg;omega);replace ho11:=ho11.mod m8 (fun g hg=>by have:=hqb g hg;omega);replace ho13:=ho13.mod m8 (fun g hg=>by have:=hqb g hg;omega);replace ho15:=ho15.mod m8 (fun g hg=>by have:=hqb g hg;omega);replace h5:=h5.mod m8 (fun g hg=>by have:=hqb g hg;omega)
   have z27:=m8.size
   clear hqb
   refine T3 ?_
   refine Qa (Qb Kh Z) Z (Yj (cs':=[v9,.int .i64 x.graph.workers,.int .i64 x.graph.cap,v14,.slice none 0 0,v11,v13]) Gh Z Z (RdD.one (OwS.rd ho17)) h5 (Nat.le_of_ble_eq_true Z) Z (fun w27 m9 h5'=>?_))
   replace h5:=h5'
   replace E:=E.step m9 (fun g hg=>by cases hg;omega);replace h1:=h1.mod m9 (fun g hg=>by cases hg;omega);replace h2:=h2.mod m9 (fun g hg=>by cases hg;omega);replace ho11:=ho11.mod m9 (fun g hg=>by cases hg;omega);replace ho13:=ho13.mod m9 (fun g hg=>by cases hg;omega);replace ho15:=ho15.mod m9 (fun g hg=>by cases hg;omega);replace ho17:=ho17.mod m9 (fun g hg=>by cases hg;omega)
   have z28:=m9.size
   refine Qd (Q4 (Yr (Qh [true,true,true] Z Z (Qa (Qc Z) Z (Qa (Q8 Z Z (Yt hc3n (hd2.ext E).1.1)) Z (Qa (Qe Z) Z (Qd (Q4 (Yc (k3 + 1,v14) (by simp;omega) ⟨Z,Z,Z,Z,trivial⟩ ⟨E,(by omega),h1,h2,ho11,ho13,ho15,(by omega),(by rw [List.take_succ_eq_append_getElem (by assumption)];exact OwS.widen ho17 (by omega) (by omega)),h5⟩)))))))))
  ·have hc3n : ¬ k3 < x.workers.length:=by first | (have h:=of_decide_eq_false hc3;omega) | (have h:=hc3;simp at h;omega)
   refine Yn (Q5 (Q3 ?_))
   refine Qf (Qf (Qh [true] Z Z (Qa (Qe Z) Z (Qd (Q0 (Ym (fun (xq : Nat × Value)=>let ⟨k4,vo4⟩:=xq;[(1,.pointer (some ⟨b1,0,none⟩)),(2,.pointer (some ⟨b2,0,none⟩)),(3,.pointer (some ⟨b5,0,none⟩)),(5,.int .i64 ((k4 : Nat) : Int))]) (fun (xq : Nat × Value) w'=>let ⟨k4,vo4⟩:=xq;Ext w w' ∧ w22.heap.size ≤ w'.heap.size ∧ Blk w' b1 ([o1,.int .i64 x.graph.workers,.int .i64 x.graph.cap,o2,o3,o4,o5]) ∧ Blk w' b2 [.slice none 0 0,.int .i64 0,.int .i64 0,.slice none 0 0,.slice none 0 0,.slice none 0 0,.slice none 0 0] ∧ OwF w' w3.heap.size w19.heap.size v9 x.graph.nodes f7 ∧ Own w' w3.heap.size w19.heap.size 5 v11 (List.flatMap (Enc.enc (α:=Token)) x.tokens) ∧ Own w' w3.heap.size w19.heap.size 3 v13 (List.flatMap (Enc.enc (α:=News)) x.news) ∧ OwS w' w21.heap.size w22.heap.size vo3 (x.workers.take k3) ∧ k4 ≤ x.links.length ∧ OwS w' w22.heap.size w'.heap.size vo4 (x.links.take k4) ∧ Blk w' b5 [v9,.int .i64 x.graph.workers,.int .i64 x.graph.cap,vo3,vo4,v11,v13]) (fun (xq : Nat × Value)=>let ⟨k4,vo4⟩:=xq;x.links.length - k4) (0,.slice none 0 0) ⟨Z,Z,Z,Z,trivial⟩ ⟨E,Nat.le_refl _,h1,h2,ho11,ho13,ho15,hoC3,Nat.zero_le _,(OwS.nil _ _ _),h5⟩ ?_))))))
   clear E h1 h2 ho11 ho13 ho15 hoC3 h5
   rintro ⟨k4,vo4⟩ w28 ⟨E,z29,h1,h2,ho11,ho13,ho15,hoC3,hk4,hoC4,h5⟩
   refine Q7 [(1,.pointer (some ⟨b1,0,none⟩)),(2,.pointer (some ⟨b2,0,none⟩)),(3,.pointer (some ⟨b5,0,none⟩)),(5,.int .i64 ((k4 : Nat) : Int))] ⟨Z,Z,Z,Z,trivial⟩ ?_
   refine Qf (Qf (Qh [true,true,true,true,true] Z Z (Qa (Qc Z) Z (Qa (Qb Uk Z) Z (Qa (Qj H2 Z (h1.one 4 Z)) Z (Qa (Ya Tryz.underlying36 Z (hd3.ext E).len) Z (Qa (Yf Z Z) Z (Qd (Qs Z (fun hc4=>?_) (fun hc4=>?_))))))))))
   ·have hc4n : k4 < x.links.length:=by first | (have h:=of_decide_eq_true hc4;omega) | (have h:=hc4;simp at h;omega)
    refine Qn (Qf (Q0 (Hp Xi [9] [(0,true),(1,true),(2,true),(3,true),(4,true),(5,true),(6,true),(7,false),(8,false)] [(9,false),(10,true),(11,false)] (by decide +kernel) Z Z (fun w29 e16=>?_))))
    replace E:=E.trans e16;replace h1:=h1.ext e16;replace h2:=h2.ext e16;replace ho11:=ho11.ext e16;replace ho13:=ho13.ext e16;replace ho15:=ho15.ext e16;replace hoC3:=hoC3.ext e16;replace hoC4:=hoC4.ext e16;replace h5:=h5.ext e16
    have z30:=e16.size
    refine Qa (Qb Uk Z) Z (Qa (Qj H2 Z (h5.one 4 Z)) Z (Qa (Qb Uk Z) Z (Qa (Qj H2 Z (h1.one 4 Z)) Z (Qa (Qc Z) Z ?_))))
    have hi4 : k4 < x.links.length:=(by first | assumption | omega | (simp only [List.length_set];first | assumption | omega))
    obtain ⟨_,hr4,ha4⟩:=RdD.get hd3 hi4
    obtain ⟨o40,rfl,hd23⟩:=Link.op hr4
    replace ha4 : At w (Xf o3) (Xm o3 + k4 * 6) [.int .i64 ((x.links[k4]'hi4).cap),o40,.int .i64 ((x.links[k4]'hi4).credits),.int .i64 ((x.links[k4]'hi4).back),.int .i64 ((x.links[k4]'hi4).sent),.int .i64 ((x.links[k4]'hi4).got)]:=ha4
    refine Qa (Q1 (i:=k4) Gg Z Z (hd3.ext E).1 hi4) Z (Qa (Qt Ua Z (ha4.ext E) Z) Z (Qv Tryz.call88 Z (s_l06Copy [.int .i64 ((x.links[k4]'hi4).cap),o40,.int .i64 ((x.links[k4]'hi4).credits),.int .i64 ((x.links[k4]'hi4).back),.int .i64 ((x.links[k4]'hi4).sent),.int .i64 ((x.links[k4]'hi4).got)] (x.links[k4]'hi4) _ (Link.mkR (x.links[k4]'hi4) (RdD.any (hd23.ext E))) (by have:=Gf (f:=Xl) (show k4 < x.links.length by omega);unfold X1 at hb2;omega)) Z (fun _ w30 e17 ho18=>?_)))
    obtain ⟨_,rfl,ho18⟩:=ho18
    have g_ho18 : w.heap.size ≤ w29.heap.size:=E.size
    replace E:=E.trans e17;replace h1:=h1.ext e17;replace h2:=h2.ext e17;replace ho11:=ho11.ext e17;replace ho13:=ho13.ext e17;replace ho15:=ho15.ext e17;replace hoC3:=hoC3.ext e17;replace hoC4:=hoC4.ext e17;replace h5:=h5.ext e17
    have z31:=e17.size
    obtain ⟨o41,rfl,sp6,hw18⟩:=Link.opO ho18
    refine Yz (vs:=[.agg [.int .i64 ((x.links[k4]'hi4).cap),o41,.int .i64 ((x.links[k4]'hi4).credits),.int .i64 ((x.links[k4]'hi4).back),.int .i64 ((x.links[k4]'hi4).sent),.int .i64 ((x.links[k4]'hi4).got)].toArray]) (css:=[[.int .i64 ((x.links[k4]'hi4).cap),o41,.int .i64 ((x.links[k4]'hi4).credits),.int .i64 ((x.links[k4]'hi4).back),.int .i64 ((x.links[k4]'hi4).sent),.int .i64 ((x.links[k4]'hi4).got)]]) Gg Z Z ⟨⟨Z,Z⟩,trivial⟩ Z Z (fun b7 w31 e18 s7 h7=>?_)
    replace h7 : Blk w31 b7 [.int .i64 ((x.links[k4]'hi4).cap),o41,.int .i64 ((x.links[k4]'hi4).credits),.int .i64 ((x.links[k4]'hi4).back),.int .i64 ((x.links[k4]'hi4).sent),.int .i64 ((x.links[k4]'hi4).got)]:=h7
    have g_b7 : w.heap.size ≤ b7:=by have:=E.size;omega
    have y_b7:=h7.lt
    replace E:=E.trans e18;replace h1:=h1.ext e18;replace h2:=h2.ext e18;replace ho11:=ho11.ext e18;replace ho13:=ho13.ext e18;replace ho15:=ho15.ext e18;replace hoC3:=hoC3.ext e18;replace hoC4:=hoC4.ext e18;replace h5:=h5.ext e18;replace hw18:=hw18.ext e18
    have z32:=e18.size
    refine Gb ?_
    refine Bt Z ?_
    refine V1 (lo:=w22.heap.size) (hi:=w28.heap.size) (lo2:=w29.heap.size) (hi2:=w31.heap.size) Gg Z Z hoC4 (Src.ofBlk h7 Z) (Link.mkO (x.links[k4]'hi4) sp6 (Own.widen hw18 (by omega) (by omega))) (by omega) (by simp only [List.length_take,show Dat.sz Worker = 8 from Z,show Dat.sz Link = 6 from Z];unfold X1 at hb2;omega) (by decide) (by omega) (by omega) (by omega) (by omega) (by omega) Z Z (fun v15 w32 m10 ho19=>?_)
    have hqb:=OwS.inn hoC4
    replace E:=E.step m10 (fun g hg=>by have:=hqb g hg;omega);replace h1:=h1.mod m10 (fun g hg=>by have:=hqb g hg;omega);replace h2:=h2.mod m10 (fun g hg=>by have:=hqb g hg;omega);replace ho11:=ho11.mod m10 (fun g hg=>by have:=hqb g hg;omega);replace ho13:=ho13.mod m10 (fun g hg=>by have:=hqb g hg;omega);replace ho15:=ho15.mod m10 (fun g hg=>by have:=hqb g hg;omega);replace hoC3:=hoC3.mod m10 (fun g hg=>by have:=hqb g hg;omega);replace h5:=h5.mod m10 (fun g hg=>by have:=hqb g hg;omega)
    have z33:=m10.size
    clear hqb
    refine T3 ?_
    refine Qa (Qb Uk Z) Z (Yj (cs':=[v9,.int .i64 x.graph.workers,.int .i64 x.graph.cap,vo3,v15,v11,v13]) H2 Z Z (RdD.one (OwS.rd ho19)) h5 (Nat.le_of_ble_eq_true Z) Z (fun w33 m11 h5'=>?_))
    replace h5:=h5'
    replace E:=E.step m11 (fun g hg=>by cases hg;omega);replace h1:=h1.mod m11 (fun g hg=>by cases hg;omega);replace h2:=h2.mod m11 (fun g hg=>by cases hg;omega);replace ho11:=ho11.mod m11 (fun g hg=>by cases hg;omega);replace ho13:=ho13.mod m11 (fun g hg=>by cases hg;omega);replace ho15:=ho15.mod m11 (fun g hg=>by cases hg;omega);replace hoC3:=hoC3.mod m11 (fun g hg=>by cases hg;omega);replace ho19:=ho19.mod m11 (fun g hg=>by cases hg;omega)
    have z34:=m11.size
    refine Qd (Q4 (Yr (Qh [true,true,true] Z Z (Qa (Qc Z) Z (Qa (Q8 Z Z (Yt hc4n (hd3.ext E).1.1)) Z (Qa (Qe Z) Z (Qd (Q4 (Yc (k4 + 1,v15) (by simp;omega) ⟨Z,Z,Z,Z,trivial⟩ ⟨E,(by omega),h1,h2,ho11,ho13,ho15,hoC3,(by omega),(by rw [List.take_succ_eq_append_getElem (by assumption)];exact OwS.widen ho19 (by omega) (by omega)),h5⟩)))))))))
   ·have hc4n : ¬ k4 < x.links.length:=by first | (have h:=of_decide_eq_false hc4;omega) | (have h:=hc4;simp at h;omega)
    refine Yn (Q5 (Q3 ?_))
    refine Qf (Qh [true,false] Z Z (Qa (Qt X5 Z h5.at Z) Z (Q6 (cs':=[v9,.int .i64 x.graph.workers,.int .i64 x.graph.cap,vo3,vo4,v11,v13]) X5 Z Z Z (Qk (RdD.one (OwF.rd ho11)) (Qk Z (Qk Z (Qk (RdD.one (OwS.rd hoC3)) (Qk (RdD.one (OwS.rd hoC4)) (Qk ho13.one (Qk ho15.one Z))))))) h2 (Nat.le_of_ble_eq_true Z) Z (fun w34 m12 h2'=>?_))))
    replace h2:=h2'
    replace E:=E.step m12 (fun g hg=>by cases hg;omega);replace h1:=h1.mod m12 (fun g hg=>by cases hg;omega);replace ho11:=ho11.mod m12 (fun g hg=>by cases hg;omega);replace ho13:=ho13.mod m12 (fun g hg=>by cases hg;omega);replace ho15:=ho15.mod m12 (fun g hg=>by cases hg;omega);replace hoC3:=hoC3.mod m12 (fun g hg=>by cases hg;omega);replace hoC4:=hoC4.mod m12 (fun g hg=>by cases hg;omega);replace h5:=h5.mod m12 (fun g hg=>by cases hg;omega)
    have z35:=m12.size
    refine Qd (Qw (Kk Z Z (Yi X5 h2.at Z) E ?_))
    rw [List.take_of_length_le (by omega)] at hoC3 hoC4
    exact ⟨_,_,_,_,_,Z,OwC.of2 x ho11 hoC3 hoC4 ho13 ho15 ⟨⟨sp4.1.1,sp4.1.2.1,trivial⟩,⟨sp4.2.1.1,trivial⟩,trivial,trivial⟩ (by have:=E.size;omega) (by omega)⟩

set_option maxRecDepth 20000 in
theorem c_hasWorker (cx : List Value) (x : Cluster) (p : Int) (w : World) (hx : Dat.R w 0 w.heap.size cx x) (hok : ∀ l ∈ x.links,rg l.got) : Ct Tryz.prog 24 [.agg cx.toArray,.int .i64 p] w (fun v _=>v = .bool (Bs x p)):=by
 refine Yh Tryz.func24 Z Tryz.ntmps24 Z ?_
 obtain ⟨o1,o2,o3,o4,o5,rfl,hd1,hd2,hd3,hd4,hd5⟩:=Cluster.op hx
 refine Q7 [(0,.agg [o1,.int .i64 x.graph.workers,.int .i64 x.graph.cap,o2,o3,o4,o5].toArray),(1,.int .i64 p)] ⟨Z,Z,trivial⟩ ?_
 have E : Ext w w:=Ext.refl w
 refine Qf (Qh [false,true] Z Z (Y1 Z Z (fun b1 w1 e1 s1 h1=>?_)))
 have g_b1 : w.heap.size ≤ b1:=by have:=E.size;omega
 have y_b1:=h1.lt
 replace E:=E.trans e1
 have z1:=e1.size
 refine Qa (Qe Z) Z (Qd (Qf (Qh [true,false,true,true,true,true,true,true,false,true,true] Z Z (Qa (Qt X5 Z h1.at Z) Z (Qv Tryz.call57 Z (c_ClusterOk [o1,.int .i64 x.graph.workers,.int .i64 x.graph.cap,o2,o3,o4,o5] x _ (Cluster.mkR x (RdD.any (hd1.ext E)) (RdD.any (hd2.ext E)) (RdD.any (hd3.ext E)) (RdD.any (hd4.ext E)) (RdD.any (hd5.ext E))) (by first | omega | (simp only [Qi];omega) | (rw [Qi];done) | (simp only [Qi];done))) Z (fun _ w2 e2 hv=>?_))))))
 subst hv
 replace E:=E.trans e2;replace h1:=h1.ext e2
 have z2:=e2.size
 refine Qa (Qc Z) Z (Y7 7 [(0,.agg [o1,.int .i64 x.graph.workers,.int .i64 x.graph.cap,o2,o3,o4,o5].toArray),(1,.int .i64 p),(2,.pointer (some ⟨b1,0,none⟩)),(4,.bool false),(14,.bool ((Ug x) && (Yw p 0 (IntKind.i64.wrap (((x.workers.length : Nat) : Int) - 1)))))] (fun w'=>Ext w w' ∧ w2.heap.size ≤ w'.heap.size ∧ Blk w' b1 ([o1,.int .i64 x.graph.workers,.int .i64 x.graph.cap,o2,o3,o4,o5])) ?_ ?_)
 ·refine Y3 (gd:=7) Z Z (fun hg1=>?_) (fun hg1=>?_)
  ·refine Qm Z Z (Qc Z) Z (Qm Z Z (Qb Kh Z) Z (Qm Z Z (Qj Gh Z (h1.one 3 Z)) Z (Qm Z Z (Ya Tryz.underlying35 Z (hd2.ext E).len) Z (Qm Z Z (Uu Z Z Z) Z ?_))))
   refine Xp Z Z ?_
   refine Qv Tryz.call58 Z (c_within p 0 (IntKind.i64.wrap (((x.workers.length : Nat) : Int) - 1)) _ ) Z (fun _ w4 e3 hv=>?_)
   subst hv
   replace E:=E.trans e3;replace h1:=h1.ext e3
   have z3:=e3.size
   refine Qa (Qx Z Z) Z (Qp ⟨Z,Z,Z,Z,congrArg (fun b=>some (Value.bool b)) (show (Yw p 0 (IntKind.i64.wrap (((x.workers.length : Nat) : Int) - 1))) = ((Ug x) && (Yw p 0 (IntKind.i64.wrap (((x.workers.length : Nat) : Int) - 1)))) by first | (rw [hg1] <;> rfl) | (simp [hg1];done) | (simp only [Qo] <;> simp)),trivial⟩ ⟨E,(by omega),h1⟩)
  ·refine Qg Z Z Z Z (Qg Z Z Z Z (Qg Z Z Z Z (Qg Z Z Z Z (Qg Z Z Z Z ?_))))
   refine Yp Z Z Z Z ?_
   refine Qa (Qy Z Z) Z (Qp ⟨Z,Z,Z,Z,congrArg (fun b=>some (Value.bool b)) (show false = ((Ug x) && (Yw p 0 (IntKind.i64.wrap (((x.workers.length : Nat) : Int) - 1)))) by first | (rw [hg1] <;> rfl) | (simp [hg1];done) | (simp only [Qo] <;> simp)),trivial⟩ ⟨E,(by omega),h1⟩)
 clear E h1
 rintro w3 ⟨E,z4,h1⟩
 refine Qa (Qe Z) Z (Qd (Qw (Ql Z Z E ?_)))
 rfl

set_option maxRecDepth 20000 in
theorem s_l15Start (cx : List Value) (x : Cluster) (w : World) (hx : Dat.R w 0 w.heap.size cx x) (hb : Yg x ≤ 1048576) : Ct Tryz.prog 16 [.agg cx.toArray] w (fun v w'=>∃ b o1 o2 o3 o4 o5,v = .pointer (some ⟨b,0,none⟩) ∧ OwR w' w.heap.size w'.heap.size b o1 o2 o3 o4 o5 x (Ug x)):=by
 refine Yh Tryz.func16 Z Tryz.ntmps16 Z ?_
 obtain ⟨o1,o2,o3,o4,o5,rfl,hd1,hd2,hd3,hd4,hd5⟩:=Cluster.op hx
 refine Q7 [(0,.agg [o1,.int .i64 x.graph.workers,.int .i64 x.graph.cap,o2,o3,o4,o5].toArray)] ⟨Z,trivial⟩ ?_
 have E : Ext w w:=Ext.refl w
 refine Qf (Qh [false,true] Z Z (Y1 Z Z (fun b1 w1 e1 s1 h1=>?_)))
 have g_b1 : w.heap.size ≤ b1:=by have:=E.size;omega
 have y_b1:=h1.lt
 replace E:=E.trans e1
 have z1:=e1.size
 refine Qa (Qe Z) Z (Qd (Qf (Xj Xi [(0,true),(2,true),(1,false),(3,false),(4,true),(5,false),(6,true)] (by decide +kernel) Z (fun w2 e2=>?_))))
 replace E:=E.trans e2;replace h1:=h1.ext e2
 have z2:=e2.size
 refine Qa (Qt X5 Z h1.at Z) Z (Qa (Qt X5 Z h1.at Z) Z (Qv Tryz.call44 Z (s_l14Copy [o1,.int .i64 x.graph.workers,.int .i64 x.graph.cap,o2,o3,o4,o5] x _ (Cluster.mkR x (RdD.any (hd1.ext E)) (RdD.any (hd2.ext E)) (RdD.any (hd3.ext E)) (RdD.any (hd4.ext E)) (RdD.any (hd5.ext E))) (by first | omega | (simp only [Qi];omega) | (rw [Qi];done) | (simp only [Qi];done))) Z (fun _ w3 e3 ho1=>?_)))
 obtain ⟨o6,o7,o8,o9,o10,rfl,ho1⟩:=ho1
 have g_ho1 : w.heap.size ≤ w2.heap.size:=E.size
 replace E:=E.trans e3;replace h1:=h1.ext e3
 have z3:=e3.size
 refine Qv Tryz.call45 Z (s_ClusterOk [o1,.int .i64 x.graph.workers,.int .i64 x.graph.cap,o2,o3,o4,o5] x _ (Cluster.mkR x (RdD.any (hd1.ext E)) (RdD.any (hd2.ext E)) (RdD.any (hd3.ext E)) (RdD.any (hd4.ext E)) (RdD.any (hd5.ext E)))) Z (fun _ w4 e4 hv=>?_)
 subst hv
 replace E:=E.trans e4;replace h1:=h1.ext e4;replace ho1:=ho1.ext e4
 have z4:=e4.size
 have hbl1 : ∀ w,(Instr.build 56 ([(0,.agg [o6,.int .i64 x.graph.workers,.int .i64 x.graph.cap,o7,o8,o9,o10].toArray),(1,.bool (Ug x))]).toArray).run Tryz.prog w = .ok (.agg [o6,.int .i64 x.graph.workers,.int .i64 x.graph.cap,o7,o8,o9,o10,.bool (Ug x)].toArray) w:=by clear E;obtain ⟨_,_,_,rfl⟩:=SlLen.shape (RdD.len (OwC.rd1 ho1));obtain ⟨_,_,_,rfl⟩:=SlLen.shape (RdD.len (OwC.rd2 ho1));obtain ⟨_,_,_,rfl⟩:=SlLen.shape (RdD.len (OwC.rd3 ho1));obtain ⟨_,_,_,rfl⟩:=SlLen.shape (RdD.len (OwC.rd4 ho1));obtain ⟨_,_,_,rfl⟩:=SlLen.shape (RdD.len (OwC.rd5 ho1));intro w;kernel_rfl
 refine Qa (Gz [o6,.int .i64 x.graph.workers,.int .i64 x.graph.cap,o7,o8,o9,o10,.bool (Ug x)] Z hbl1) Z (Y1 Z Z (fun b2 w5 e5 s2 h2=>?_))
 have g_b2 : w.heap.size ≤ b2:=by have:=E.size;omega
 have y_b2:=h2.lt
 replace E:=E.trans e5;replace h1:=h1.ext e5;replace ho1:=ho1.ext e5
 have z5:=e5.size
 refine Qa (Qe Z) Z (Qd (Qw (Ql Z Z E ?_)))
 exact ⟨_,_,_,_,_,_,Z,OwR.of ho1 h2 (by omega) (by have:=E.size;omega) (by have:=E.size;omega) (by omega)⟩

set_option maxRecDepth 20000 in
theorem s_l15Is (bx : Nat) (o1x o2x o3x o4x o5x : Value) (lo : Nat) (x : Cluster) (okx : Bool) (p : Int) (w : World) (hx : OwR w lo w.heap.size bx o1x o2x o3x o4x o5x x okx) : Ct Tryz.prog 46 [.pointer (some ⟨bx,0,none⟩),.int .i64 p] w (fun v _=>v = .bool (okx && Yw p 0 (IntKind.i64.wrap ((((x).workers.length : Nat) : Int) - 1)))):=by
 refine Yh Tryz.func46 Z Tryz.ntmps46 Z ?_
 obtain ⟨f1,f2,f3,h1,hl1,hw1,hw2,hw3,hw4,hw5,sp1⟩:=hx
 have y_q1:=h1.lt
 refine Q7 [(0,.pointer (some ⟨bx,0,none⟩)),(1,.int .i64 p)] ⟨Z,Z,trivial⟩ ?_
 have E : Ext w w:=Ext.refl w
 refine Qf (Qh [true] Z Z (Qa (Qe Z) Z (Qd (Qf (Qh [true,true,true,true,true,true,true,true,true,true,true,true,true,false,true,true] Z Z (Qa (Qc Z) Z (Qa (Ve Z) Z (Qa (Qb fl56_1 Z) Z (Qa (Qj Tb Z (h1.one 7 Z)) Z (Qa (Qc Z) Z (Y7 10 [(0,.pointer (some ⟨bx,0,none⟩)),(1,.int .i64 p),(4,.bool false),(19,.bool (okx && (Yw p 0 (IntKind.i64.wrap (((x.workers.length : Nat) : Int) - 1)))))] (fun w'=>Ext w w' ∧ w.heap.size ≤ w'.heap.size ∧ OwF w' lo w.heap.size o1x x.graph.nodes f1 ∧ OwF w' lo w.heap.size o2x x.workers f2 ∧ OwF w' lo w.heap.size o3x x.links f3 ∧ Own w' lo w.heap.size 5 o4x (List.flatMap (Enc.enc (α:=Token)) x.tokens) ∧ Own w' lo w.heap.size 3 o5x (List.flatMap (Enc.enc (α:=News)) x.news) ∧ Blk w' bx [o1x,.int .i64 x.graph.workers,.int .i64 x.graph.cap,o2x,o3x,o4x,o5x,.bool okx]) ?_ ?_)))))))))))
 ·refine Y3 (gd:=9) Z Z (fun hg1=>?_) (fun hg1=>?_)
  ·refine Qm Z Z (Qc Z) Z (Qm Z Z (Qc Z) Z (Qm Z Z (Ve Z) Z (Qm Z Z (Qb Ab Z) Z (Qm Z Z (Qb Kh Z) Z (Qm Z Z (Qj Gh Z (h1.one 3 Z)) Z (Qm Z Z (Ya Tryz.underlying35 Z (OwF.rd hw2).len) Z (Qm Z Z (Uu Z Z Z) Z ?_)))))))
   refine Xp Z Z ?_
   refine Qv Tryz.call93 Z (s_l01In p 0 (IntKind.i64.wrap (((x.workers.length : Nat) : Int) - 1)) _ ) Z (fun _ w2 e1 hv=>?_)
   subst hv
   replace E:=E.trans e1;replace hw1:=hw1.ext e1;replace hw2:=hw2.ext e1;replace hw3:=hw3.ext e1;replace hw4:=hw4.ext e1;replace hw5:=hw5.ext e1;replace h1:=h1.ext e1
   have z1:=e1.size
   refine Qa (Qx Z Z) Z (Qp ⟨Z,Z,Z,congrArg (fun b=>some (Value.bool b)) (show (Yw p 0 (IntKind.i64.wrap (((x.workers.length : Nat) : Int) - 1))) = (okx && (Yw p 0 (IntKind.i64.wrap (((x.workers.length : Nat) : Int) - 1)))) by first | (rw [hg1] <;> rfl) | (simp [hg1];done) | (simp only [Qo] <;> simp)),trivial⟩ ⟨E,(by omega),hw1,hw2,hw3,hw4,hw5,h1⟩)
  ·refine Qg Z Z Z Z (Qg Z Z Z Z (Qg Z Z Z Z (Qg Z Z Z Z (Qg Z Z Z Z (Qg Z Z Z Z (Qg Z Z Z Z (Qg Z Z Z Z ?_)))))))
   refine Yp Z Z Z Z ?_
   refine Qa (Qy Z Z) Z (Qp ⟨Z,Z,Z,congrArg (fun b=>some (Value.bool b)) (show false = (okx && (Yw p 0 (IntKind.i64.wrap (((x.workers.length : Nat) : Int) - 1)))) by first | (rw [hg1] <;> rfl) | (simp [hg1];done) | (simp only [Qo] <;> simp)),trivial⟩ ⟨E,(by omega),hw1,hw2,hw3,hw4,hw5,h1⟩)
 clear E hw1 hw2 hw3 hw4 hw5 h1
 rintro w1 ⟨E,z2,hw1,hw2,hw3,hw4,hw5,h1⟩
 refine Qa (Qe Z) Z (Qd (Qw (Ql Z Z E ?_)))
 rfl

set_option maxHeartbeats 4000000 in
set_option maxRecDepth 20000 in
theorem s_l15Work (bx : Nat) (o1x o2x o3x o4x o5x : Value) (lo : Nat) (x : Cluster) (okx : Bool) (p : Int) (w : World) (hx : OwR w lo w.heap.size bx o1x o2x o3x o4x o5x x okx) (hcl : okx = true → Ug x = true) (hb : Yg x ≤ 1048576) : CtR Tryz.prog 17 [.pointer (some ⟨bx,0,none⟩),.int .i64 p] w lo w.heap.size (fun v w'=>v = .bool ((K0 x okx p).2) ∧ OwR w' lo w'.heap.size bx o1x o2x o3x o4x o5x ((K0 x okx p).1) okx):=by
 have hmw : x.workers.length ≤ maxLen:=by obtain ⟨f1,f2,f3,hB,hl,h1,h2,h3,h4,h5,sp⟩:=hx;exact h2.rd.1.1
 have hcgx : Xa x.graph ≤ 1048576:=by unfold Yg at hb;omega
 refine Vs Tryz.func17 Z Tryz.ntmps17 Z ?_
 obtain ⟨f1,f2,f3,h1,hl1,hw1,hw2,hw3,hw4,hw5,sp1⟩:=hx
 have y_q1:=h1.lt
 refine Q7 [(0,.pointer (some ⟨bx,0,none⟩)),(1,.int .i64 p)] ⟨Z,Z,trivial⟩ ?_
 have E : ModR w w lo w.heap.size:=ModR.refl w lo w.heap.size
 refine Qf (Qh [true] Z Z (Qa (Qe Z) Z (Qd (Qf (Qf (Qh [true,true,false,true] Z Z (Qa (Qc Z) Z (Qa (Qc Z) Z ?_))))))))
 have hr1 : OwR w lo w.heap.size bx o1x o2x o3x o4x o5x x okx:=⟨f1,f2,f3,h1,(by omega),(OwF.widen hw1 (Nat.le_refl _) (by omega)),(OwF.widen hw2 (Nat.le_refl _) (by omega)),(OwF.widen hw3 (Nat.le_refl _) (by omega)),(Own.widen hw4 (by omega) (by omega)),(Own.widen hw5 (by omega) (by omega)),sp1⟩
 refine Qv Tryz.call46 Z (s_l15Is bx o1x o2x o3x o4x o5x lo x okx p _ hr1) Z (fun _ w1 e1 hv=>?_)
 subst hv
 replace E:=E.ext e1;replace hw1:=hw1.ext e1;replace hw2:=hw2.ext e1;replace hw3:=hw3.ext e1;replace hw4:=hw4.ext e1;replace hw5:=hw5.ext e1;replace h1:=h1.ext e1
 have z1:=e1.size
 refine Qa (Yq Z) Z (Qd (Qs Z (fun hc1=>?_) (fun hc1=>?_)))
 ·refine Qf (Qh [true] Z Z (Qa (Qe Z) Z (Qd (Qw (Ql Z Z E ?_)))))
  rw [work2_no1 hc1]
  exact ⟨Z,⟨f1,f2,f3,h1,(by omega),(OwF.widen hw1 (Nat.le_refl _) (by omega)),(OwF.widen hw2 (Nat.le_refl _) (by omega)),(OwF.widen hw3 (Nat.le_refl _) (by omega)),(Own.widen hw4 (by omega) (by omega)),(Own.widen hw5 (by omega) (by omega)),sp1⟩⟩
 ·have hwr:=run_w hcl hmw hc1
  refine Qn (Qf (Qh [true,true,true,true,true,true,true,true,false,false] Z Z (Qa (Qc Z) Z (Qa (Ve Z) Z (Qa (Qb Ab Z) Z (Qa (Qb Kh Z) Z (Qa (Qj Gh Z (h1.one 3 Z)) Z (Qa (Qc Z) Z ?_))))))))
  have hi1 : (Int.toNat p) < x.workers.length:=(by first | assumption | omega | (simp only [List.length_set];first | assumption | omega))
  have hK1 : OwK w1 f2 w1 lo w.heap.size o2x (x.workers.take (Int.toNat p) ++ x.workers[(Int.toNat p)] :: x.workers.drop ((Int.toNat p) + 1)):=⟨by rw [← Tk hi1];exact hw2,Kq.refl _ _⟩
  have hfl1:=OwF.in2 hw2
  obtain ⟨_,ho1,hrow1⟩:=OwK.focus hK1
  obtain ⟨o1,o2,o3,o4,o5,o6,o7,o8,rfl,sp2,hw6,hw7,hw8,hw9,hw10,hw11,hw12,hw13⟩:=Worker.opO ho1
  clear hK1 hw2
  have hl2 : (x.workers.take (Int.toNat p)).length = (Int.toNat p):=by simp;omega
  have hn1 : (Int.toNat p) + 1 + (x.workers.drop ((Int.toNat p) + 1)).length = x.workers.length:=by simp;omega
  replace hrow1 : RowR f2 w1 lo w.heap.size o2x (x.workers.take (Int.toNat p)) [o1,o2,o3,o4,o5,o6,o7,o8] (x.workers.drop ((Int.toNat p) + 1)):=hrow1
  refine Qa (U3 (i:=(Int.toNat p)) U8 Z Z (RowK.same1 hrow1 hl2 hn1) (by omega) (by simp;omega)) Z (Qa (Qt Kw Z (RowK.at hrow1 hl2) Z) Z (Yk Kw Z (fun b1 w2 e2 s1 h2=>?_)))
  have g_b1 : w.heap.size ≤ b1:=by have:=E.size;omega
  have y_b1:=h2.lt
  replace E:=E.ext e2;replace hw1:=hw1.ext e2;replace hw3:=hw3.ext e2;replace hw4:=hw4.ext e2;replace hw5:=hw5.ext e2;replace h1:=h1.ext e2;replace hw6:=hw6.ext e2;replace hw7:=hw7.ext e2;replace hw8:=hw8.ext e2;replace hw9:=hw9.ext e2;replace hw10:=hw10.ext e2;replace hw11:=hw11.ext e2;replace hw12:=hw12.ext e2;replace hw13:=hw13.ext e2;replace hrow1:=hrow1.ext e2
  have z2:=e2.size
  refine Q6 (cs':=[o1,o2,o3,o4,o5,o6,o7,o8]) Kw Z Z Z (Qk hw6.one (Qk hw7.one (Qk hw8.one (Qk hw9.one (Qk hw10.one (Qk hw11.one (Qk hw12.one (Qk hw13.one Z)))))))) h2 (Nat.le_of_ble_eq_true Z) Z (fun w3 m1 h2'=>?_)
  replace h2:=h2'
  replace E:=E.mod m1 (fun g hg=>by cases hg;omega);replace hw1:=hw1.mod m1 (fun g hg=>by cases hg;omega);replace hw3:=hw3.mod m1 (fun g hg=>by cases hg;omega);replace hw4:=hw4.mod m1 (fun g hg=>by cases hg;omega);replace hw5:=hw5.mod m1 (fun g hg=>by cases hg;omega);replace h1:=h1.mod m1 (fun g hg=>by cases hg;omega);replace hw6:=hw6.mod m1 (fun g hg=>by cases hg;omega);replace hw7:=hw7.mod m1 (fun g hg=>by cases hg;omega);replace hw8:=hw8.mod m1 (fun g hg=>by cases hg;omega);replace hw9:=hw9.mod m1 (fun g hg=>by cases hg;omega);replace hw10:=hw10.mod m1 (fun g hg=>by cases hg;omega);replace hw11:=hw11.mod m1 (fun g hg=>by cases hg;omega);replace hw12:=hw12.mod m1 (fun g hg=>by cases hg;omega);replace hw13:=hw13.mod m1 (fun g hg=>by cases hg;omega);replace hrow1:=hrow1.mod m1 (fun g hg=>by cases hg;omega)
  have z3:=m1.size
  refine Qd (Qf (Qf (Qh [true,true,true,true,true,true,true,true,true,true] Z Z (Qa (Qb Gm Z) Z (Qa (Qj Xy Z (h2.one 1 Z)) Z (Qa (Ya Tryz.underlying64 Z (Own.len (by decide) hw7)) Z (Qa (V0 Z Z) Z (Qa (Qc Z) Z (Y7 5 [(0,.pointer (some ⟨bx,0,none⟩)),(1,.int .i64 p),(4,.bool false),(5,.pointer (some ⟨b1,0,none⟩)),(10,.pointer (some ⟨bx,0,none⟩)),(11,.int .i64 p),(12,.bool (okx && Yw p 0 (IntKind.i64.wrap ((((x).workers.length : Nat) : Int) - 1)))),(13,.bool (!(okx && Yw p 0 (IntKind.i64.wrap ((((x).workers.length : Nat) : Int) - 1))))),(14,.pointer (some ⟨bx,0,none⟩)),(15,.pointer (some ⟨bx,0,none⟩)),(16,.pointer (some ⟨bx,0,none⟩)),(17,.pointer (some ⟨bx,3,none⟩)),(18,o2x),(19,.int .i64 p),(20,.pointer (some ⟨Xf o2x,Xm o2x + (Int.toNat p) * 8,none⟩)),(21,.agg [o1,o2,o3,o4,o5,o6,o7,o8].toArray),(31,.bool ((decide (0 < ((((x.workers[(Int.toNat p)]'hi1).staged).length : Nat) : Int))) || (((((x.workers[(Int.toNat p)]'hi1).queue).length : Nat) : Int) == 0)))] (fun w'=>w3 = w') ?_ ?_)))))))))
  ·refine Y3 (gd:=26) Z Z (fun hg1=>?_) (fun hg1=>?_)
   ·have hg1n : ((x.workers[(Int.toNat p)]'hi1).staged).length > 0:=by first | (have h:=of_decide_eq_true hg1;omega) | (have h:=hg1;simp at h;omega)
    refine Qg Z Z Z Z (Qg Z Z Z Z (Qg Z Z Z Z (Qg Z Z Z Z (Qa (Qx Z Z) Z (Qp ⟨Z,Z,Z,Z,Z,Z,Z,Z,Z,Z,Z,Z,Z,Z,Z,Z,congrArg (fun b=>some (Value.bool b)) (show true = ((decide (0 < ((((x.workers[(Int.toNat p)]'hi1).staged).length : Nat) : Int))) || (((((x.workers[(Int.toNat p)]'hi1).queue).length : Nat) : Int) == 0)) by first | (rw [hg1] <;> rfl) | (simp [hg1];done) | (simp only [Qo] <;> simp)),trivial⟩ Z)))))
   ·have hg1n : ¬ ((x.workers[(Int.toNat p)]'hi1).staged).length > 0:=by first | (have h:=of_decide_eq_false hg1;omega) | (have h:=hg1;simp at h;omega)
    refine Qm Z Z (Qb Vd Z) Z (Qm Z Z (Qj Xy Z (h2.one 0 Z)) Z (Qm Z Z (Ya Tryz.underlying64 Z (Own.len (by decide) hw6)) Z (Qm Z Z (Y6 Z Z) Z (Qa (Qy Z Z) Z (Qp ⟨Z,Z,Z,Z,Z,Z,Z,Z,Z,Z,Z,Z,Z,Z,Z,Z,congrArg (fun b=>some (Value.bool b)) (show (((((x.workers[(Int.toNat p)]'hi1).queue).length : Nat) : Int) == 0) = ((decide (0 < ((((x.workers[(Int.toNat p)]'hi1).staged).length : Nat) : Int))) || (((((x.workers[(Int.toNat p)]'hi1).queue).length : Nat) : Int) == 0)) by first | (rw [hg1] <;> rfl) | (simp [hg1];done) | (simp only [Qo] <;> simp)),trivial⟩ Z)))))
  rintro _ rfl
  refine Qd (Qs Z (fun hc2=>?_) (fun hc2=>?_))
  ·refine Qf (Qh [true] Z Z (Qa (Qe Z) Z (Qd (Qw (Ql Z Z E ?_)))))
   have hw2:=(RowK.close (y:=x.workers[(Int.toNat p)]) hrow1 (Worker.mkO (x.workers[(Int.toNat p)]'hi1) sp2 (Own.widen hw6 (by omega) (by omega)) (Own.widen hw7 (by omega) (by omega)) (Own.widen hw8 (by omega) (by omega)) (Own.widen hw9 (by omega) (by omega)) (Own.widen hw10 (by omega) (by omega)) (Own.widen hw11 (by omega) (by omega)) (Own.widen hw12 (by omega) (by omega)) (Own.widen hw13 (by omega) (by omega)))).1
   rw [← Tk hi1] at hw2
   clear hrow1 hfl1
   rw [work2_no2 hwr hc2]
   exact ⟨Z,⟨f1,f2,f3,h1,(by omega),(OwF.widen hw1 (Nat.le_refl _) (by omega)),(OwF.widen hw2 (Nat.le_refl _) (by omega)),(OwF.widen hw3 (Nat.le_refl _) (by omega)),(Own.widen hw4 (by omega) (by omega)),(Own.widen hw5 (by omega) (by omega)),sp1⟩⟩
  ·have hwl:=run_wk0 hc2
   have h1w:=cntL_get (cnt:=Yd) hwr.2.2.2
   have h2w:=wk_le2 (x.workers[Int.toNat p]'hwr.2.2.2)
   have hb2:=hb;unfold Yg at hb2
   refine Qn (Qf (Qh [true,true,true,true,false,false] Z Z (Qa (Qb Vd Z) Z (Qa (Qj Xy Z (h2.one 0 Z)) Z ?_))))
   have hi2 : 0 < ((x.workers[(Int.toNat p)]'hi1).queue).length:=(by first | assumption | omega | (simp only [List.length_set];first | assumption | omega))
   refine Qa (Q1 (i:=0) Kn Z Z (Own.rd (by decide) hw6) hi2) Z (Qa (Qt Va Z ((Own.rd (by decide) hw6).get hi2) Z) Z (Yk Va Z (fun b2 w5 e3 s2 h3=>?_)))
   have g_b2 : w.heap.size ≤ b2:=by have:=E.size;omega
   have y_b2:=h3.lt
   replace E:=E.ext e3;replace hw1:=hw1.ext e3;replace hw3:=hw3.ext e3;replace hw4:=hw4.ext e3;replace hw5:=hw5.ext e3;replace h1:=h1.ext e3;replace hw6:=hw6.ext e3;replace hw7:=hw7.ext e3;replace hw8:=hw8.ext e3;replace hw9:=hw9.ext e3;replace hw10:=hw10.ext e3;replace hw11:=hw11.ext e3;replace hw12:=hw12.ext e3;replace hw13:=hw13.ext e3;replace hrow1:=hrow1.ext e3;replace h2:=h2.ext e3
   have z4:=e3.size
   refine Q6 (cs':=[.int .i64 ((((x.workers[(Int.toNat p)]'hi1).queue)[0]'hi2).op),.int .i64 (((((x.workers[(Int.toNat p)]'hi1).queue)[0]'hi2).stamp).epoch),.int .i64 (((((x.workers[(Int.toNat p)]'hi1).queue)[0]'hi2).stamp).turn),.int .i64 ((((x.workers[(Int.toNat p)]'hi1).queue)[0]'hi2).key),.int .i64 ((((x.workers[(Int.toNat p)]'hi1).queue)[0]'hi2).val)]) Va Z Z Z Z h3 (Nat.le_of_ble_eq_true Z) Z (fun w6 m2 h3'=>?_)
   replace h3:=h3'
   replace E:=E.mod m2 (fun g hg=>by cases hg;omega);replace hw1:=hw1.mod m2 (fun g hg=>by cases hg;omega);replace hw3:=hw3.mod m2 (fun g hg=>by cases hg;omega);replace hw4:=hw4.mod m2 (fun g hg=>by cases hg;omega);replace hw5:=hw5.mod m2 (fun g hg=>by cases hg;omega);replace h1:=h1.mod m2 (fun g hg=>by cases hg;omega);replace hw6:=hw6.mod m2 (fun g hg=>by cases hg;omega);replace hw7:=hw7.mod m2 (fun g hg=>by cases hg;omega);replace hw8:=hw8.mod m2 (fun g hg=>by cases hg;omega);replace hw9:=hw9.mod m2 (fun g hg=>by cases hg;omega);replace hw10:=hw10.mod m2 (fun g hg=>by cases hg;omega);replace hw11:=hw11.mod m2 (fun g hg=>by cases hg;omega);replace hw12:=hw12.mod m2 (fun g hg=>by cases hg;omega);replace hw13:=hw13.mod m2 (fun g hg=>by cases hg;omega);replace hrow1:=hrow1.mod m2 (fun g hg=>by cases hg;omega);replace h2:=h2.mod m2 (fun g hg=>by cases hg;omega)
   have z5:=m2.size
   refine Qd (Qf (Xj Xi [(0,true),(1,true),(2,true),(3,true),(4,true),(5,true),(6,true),(7,true),(8,false),(9,true),(10,true),(11,true),(12,true),(13,true),(14,true),(15,true)] (by decide +kernel) Z (fun w7 e4=>?_)))
   replace E:=E.ext e4;replace hw1:=hw1.ext e4;replace hw3:=hw3.ext e4;replace hw4:=hw4.ext e4;replace hw5:=hw5.ext e4;replace h1:=h1.ext e4;replace hw6:=hw6.ext e4;replace hw7:=hw7.ext e4;replace hw8:=hw8.ext e4;replace hw9:=hw9.ext e4;replace hw10:=hw10.ext e4;replace hw11:=hw11.ext e4;replace hw12:=hw12.ext e4;replace hw13:=hw13.ext e4;replace hrow1:=hrow1.ext e4;replace h2:=h2.ext e4;replace h3:=h3.ext e4
   have z6:=e4.size
   refine Qa (Qc Z) Z (Qa (Ve Z) Z (Qa (Qb Ab Z) Z (Qa (Qb Ur Z) Z (Qa (Qt Km Z (h1.part 0 [o1x,.int .i64 x.graph.workers,.int .i64 x.graph.cap] Z) Z) Z (Qa (Qb Gl Z) Z (Qa (Qj A1 Z (h2.one 3 Z)) Z (Qa (Qt Va Z h3.at Z) Z (Qv Tryz.call47 Z (s_StepOp [o1x,.int .i64 x.graph.workers,.int .i64 x.graph.cap] x.graph o4 ((x.workers[(Int.toNat p)]'hi1).cells) (((x.workers[(Int.toNat p)]'hi1).queue)[0]'hi2) _ (Graph.mkR x.graph (RdD.any (OwF.rd hw1))) (Own.rd (by decide) hw9) (by first | omega | (simp only [Qi];omega) | (rw [Qi];done) | (simp only [Qi];done)) (by first | omega | (simp only [Qi];omega) | (rw [Qi];done) | (simp only [Qi];done))) Z (fun _ w8 e5 ho2=>?_)))))))))
   obtain ⟨v1,v2,rfl,ho3,ho4,sp3⟩:=ho2
   have g_ho2 : w.heap.size ≤ w7.heap.size:=E.size
   replace E:=E.ext e5;replace hw1:=hw1.ext e5;replace hw3:=hw3.ext e5;replace hw4:=hw4.ext e5;replace hw5:=hw5.ext e5;replace h1:=h1.ext e5;replace hw6:=hw6.ext e5;replace hw7:=hw7.ext e5;replace hw8:=hw8.ext e5;replace hw9:=hw9.ext e5;replace hw10:=hw10.ext e5;replace hw11:=hw11.ext e5;replace hw12:=hw12.ext e5;replace hw13:=hw13.ext e5;replace hrow1:=hrow1.ext e5;replace h2:=h2.ext e5;replace h3:=h3.ext e5
   have z7:=e5.size
   refine Qa (Qc Z) Z (Qa (Yv Z Z) Z (Qa (Yv Z Z) Z (Qa (Yv Z Z) Z (Qa (Qe Z) Z (Qa (Qe Z) Z (Qa (Qe Z) Z (Qd (Qf (Qh [false,true,true,true,false,true,false] Z Z (Yz (vs:=[]) (css:=[]) Kn Z Z trivial Z Z (fun b3 w9 e6 s3 h4=>?_)))))))))))
   replace h4 : Blk w9 b3 []:=h4
   have g_b3 : w.heap.size ≤ b3:=by have:=E.size;omega
   have y_b3:=h4.lt
   replace E:=E.ext e6;replace hw1:=hw1.ext e6;replace hw3:=hw3.ext e6;replace hw4:=hw4.ext e6;replace hw5:=hw5.ext e6;replace h1:=h1.ext e6;replace hw6:=hw6.ext e6;replace hw7:=hw7.ext e6;replace hw8:=hw8.ext e6;replace hw9:=hw9.ext e6;replace hw10:=hw10.ext e6;replace hw11:=hw11.ext e6;replace hw12:=hw12.ext e6;replace hw13:=hw13.ext e6;replace hrow1:=hrow1.ext e6;replace h2:=h2.ext e6;replace h3:=h3.ext e6;replace ho3:=ho3.ext e6;replace ho4:=ho4.ext e6
   have z8:=e6.size
   refine Qa (Qb Vd Z) Z (Qa (Qj Xy Z (h2.one 0 Z)) Z ?_)
   have hk1 : 1 ≤ ((x.workers[(Int.toNat p)]'hi1).queue).length:=by first | assumption | omega
   have hs1:=Own.slFromE (α:=Record) hw6 hk1
   replace hs1 : Own w9 lo w.heap.size 5 (slFrom o1 1 5) (List.flatMap (Enc.enc (α:=Record)) (List.drop 1 ((x.workers[(Int.toNat p)]'hi1).queue))):=hs1
   have hb1 : Become w9 o1 (slFrom o1 1 5):=fun g hg=>.inl (by rwa [B6] at hg)
   replace sp2:=SepL.set hb1 0 rfl sp2 ⟨(Own.lt hw6),(Own.lt hw7),(Own.lt hw8),(Own.lt hw9),(Own.lt hw10),(Own.lt hw11),(Own.lt hw12),(Own.lt hw13),trivial⟩
   replace sp2 : SepL [slFrom o1 1 5,o2,o3,o4,o5,o6,o7,o8]:=sp2
   refine Qa (Vz Kn Z Z (Own.roomE (α:=Record) hw6) hk1) Z (K8 Kn Z Z (Own.ofBlk (lo:=b3) (hi:=b3 + 1) (sz:=5) h4 (Nat.le_refl _) (Nat.lt_succ_self _) (by simp) (by simp [maxLen])) (Own.src hs1) (Xe _) (by simp only [Yb,List.length_nil,List.length_cons,List.length_drop];simp only [Enc.sz];omega) (by decide) (by omega) (by omega) Z Z (fun v3 w10 m3 ho5=>?_))
   replace E:=E.mod m3 (fun g hg=>by have:=Own.blk (Own.ofBlk (lo:=b3) (hi:=b3 + 1) (sz:=5) h4 (Nat.le_refl _) (Nat.lt_succ_self _) (by simp) (by simp [maxLen])) g hg;omega);replace hw1:=hw1.mod m3 (fun g hg=>by have:=Own.blk (Own.ofBlk (lo:=b3) (hi:=b3 + 1) (sz:=5) h4 (Nat.le_refl _) (Nat.lt_succ_self _) (by simp) (by simp [maxLen])) g hg;omega);replace hw3:=hw3.mod m3 (fun g hg=>by have:=Own.blk (Own.ofBlk (lo:=b3) (hi:=b3 + 1) (sz:=5) h4 (Nat.le_refl _) (Nat.lt_succ_self _) (by simp) (by simp [maxLen])) g hg;omega);replace hw4:=hw4.mod m3 (fun g hg=>by have:=Own.blk (Own.ofBlk (lo:=b3) (hi:=b3 + 1) (sz:=5) h4 (Nat.le_refl _) (Nat.lt_succ_self _) (by simp) (by simp [maxLen])) g hg;omega);replace hw5:=hw5.mod m3 (fun g hg=>by have:=Own.blk (Own.ofBlk (lo:=b3) (hi:=b3 + 1) (sz:=5) h4 (Nat.le_refl _) (Nat.lt_succ_self _) (by simp) (by simp [maxLen])) g hg;omega);replace h1:=h1.mod m3 (fun g hg=>by have:=Own.blk (Own.ofBlk (lo:=b3) (hi:=b3 + 1) (sz:=5) h4 (Nat.le_refl _) (Nat.lt_succ_self _) (by simp) (by simp [maxLen])) g hg;omega);replace hw7:=hw7.mod m3 (fun g hg=>by have:=Own.blk (Own.ofBlk (lo:=b3) (hi:=b3 + 1) (sz:=5) h4 (Nat.le_refl _) (Nat.lt_succ_self _) (by simp) (by simp [maxLen])) g hg;omega);replace hw8:=hw8.mod m3 (fun g hg=>by have:=Own.blk (Own.ofBlk (lo:=b3) (hi:=b3 + 1) (sz:=5) h4 (Nat.le_refl _) (Nat.lt_succ_self _) (by simp) (by simp [maxLen])) g hg;omega);replace hw9:=hw9.mod m3 (fun g hg=>by have:=Own.blk (Own.ofBlk (lo:=b3) (hi:=b3 + 1) (sz:=5) h4 (Nat.le_refl _) (Nat.lt_succ_self _) (by simp) (by simp [maxLen])) g hg;omega);replace hw10:=hw10.mod m3 (fun g hg=>by have:=Own.blk (Own.ofBlk (lo:=b3) (hi:=b3 + 1) (sz:=5) h4 (Nat.le_refl _) (Nat.lt_succ_self _) (by simp) (by simp [maxLen])) g hg;omega);replace hw11:=hw11.mod m3 (fun g hg=>by have:=Own.blk (Own.ofBlk (lo:=b3) (hi:=b3 + 1) (sz:=5) h4 (Nat.le_refl _) (Nat.lt_succ_self _) (by simp) (by simp [maxLen])) g hg;omega);replace hw12:=hw12.mod m3 (fun g hg=>by have:=Own.blk (Own.ofBlk (lo:=b3) (hi:=b3 + 1) (sz:=5) h4 (Nat.le_refl _) (Nat.lt_succ_self _) (by simp) (by simp [maxLen])) g hg;omega);replace hw13:=hw13.mod m3 (fun g hg=>by have:=Own.blk (Own.ofBlk (lo:=b3) (hi:=b3 + 1) (sz:=5) h4 (Nat.le_refl _) (Nat.lt_succ_self _) (by simp) (by simp [maxLen])) g hg;omega);replace hrow1:=hrow1.mod m3 (fun g hg=>by have:=Own.blk (Own.ofBlk (lo:=b3) (hi:=b3 + 1) (sz:=5) h4 (Nat.le_refl _) (Nat.lt_succ_self _) (by simp) (by simp [maxLen])) g hg;omega);replace h2:=h2.mod m3 (fun g hg=>by have:=Own.blk (Own.ofBlk (lo:=b3) (hi:=b3 + 1) (sz:=5) h4 (Nat.le_refl _) (Nat.lt_succ_self _) (by simp) (by simp [maxLen])) g hg;omega);replace h3:=h3.mod m3 (fun g hg=>by have:=Own.blk (Own.ofBlk (lo:=b3) (hi:=b3 + 1) (sz:=5) h4 (Nat.le_refl _) (Nat.lt_succ_self _) (by simp) (by simp [maxLen])) g hg;omega);replace ho3:=ho3.mod m3 (fun g hg=>by have:=Own.blk (Own.ofBlk (lo:=b3) (hi:=b3 + 1) (sz:=5) h4 (Nat.le_refl _) (Nat.lt_succ_self _) (by simp) (by simp [maxLen])) g hg;omega);replace ho4:=ho4.mod m3 (fun g hg=>by have:=Own.blk (Own.ofBlk (lo:=b3) (hi:=b3 + 1) (sz:=5) h4 (Nat.le_refl _) (Nat.lt_succ_self _) (by simp) (by simp [maxLen])) g hg;omega);replace hs1:=hs1.mod m3 (fun g hg=>by have:=Own.blk (Own.ofBlk (lo:=b3) (hi:=b3 + 1) (sz:=5) h4 (Nat.le_refl _) (Nat.lt_succ_self _) (by simp) (by simp [maxLen])) g hg;omega)
   have z9:=m3.size
   refine Qa (Qb Vd Z) Z (Yj (cs':=[v3,o2,o3,o4,o5,o6,o7,o8]) Xy Z Z ho5.one h2 (Nat.le_of_ble_eq_true Z) Z (fun w11 m4 h2'=>?_))
   replace h2:=h2'
   replace E:=E.mod m4 (fun g hg=>by cases hg;omega);replace hw1:=hw1.mod m4 (fun g hg=>by cases hg;omega);replace hw3:=hw3.mod m4 (fun g hg=>by cases hg;omega);replace hw4:=hw4.mod m4 (fun g hg=>by cases hg;omega);replace hw5:=hw5.mod m4 (fun g hg=>by cases hg;omega);replace h1:=h1.mod m4 (fun g hg=>by cases hg;omega);replace hw7:=hw7.mod m4 (fun g hg=>by cases hg;omega);replace hw8:=hw8.mod m4 (fun g hg=>by cases hg;omega);replace hw9:=hw9.mod m4 (fun g hg=>by cases hg;omega);replace hw10:=hw10.mod m4 (fun g hg=>by cases hg;omega);replace hw11:=hw11.mod m4 (fun g hg=>by cases hg;omega);replace hw12:=hw12.mod m4 (fun g hg=>by cases hg;omega);replace hw13:=hw13.mod m4 (fun g hg=>by cases hg;omega);replace hrow1:=hrow1.mod m4 (fun g hg=>by cases hg;omega);replace h3:=h3.mod m4 (fun g hg=>by cases hg;omega);replace ho3:=ho3.mod m4 (fun g hg=>by cases hg;omega);replace ho4:=ho4.mod m4 (fun g hg=>by cases hg;omega);replace hs1:=hs1.mod m4 (fun g hg=>by cases hg;omega);replace ho5:=ho5.mod m4 (fun g hg=>by cases hg;omega)
   have z10:=m4.size
   refine Qd (Qf (Qh [true,true,false] Z Z (Qa (Qc Z) Z (Qa (Qb Gl Z) Z (Yj (cs':=[v3,o2,o3,v1,o5,o6,o7,o8]) A1 Z Z ho3.one h2 (Nat.le_of_ble_eq_true Z) Z (fun w12 m5 h2'=>?_))))))
   replace h2:=h2'
   replace E:=E.mod m5 (fun g hg=>by cases hg;omega);replace hw1:=hw1.mod m5 (fun g hg=>by cases hg;omega);replace hw3:=hw3.mod m5 (fun g hg=>by cases hg;omega);replace hw4:=hw4.mod m5 (fun g hg=>by cases hg;omega);replace hw5:=hw5.mod m5 (fun g hg=>by cases hg;omega);replace h1:=h1.mod m5 (fun g hg=>by cases hg;omega);replace hw7:=hw7.mod m5 (fun g hg=>by cases hg;omega);replace hw8:=hw8.mod m5 (fun g hg=>by cases hg;omega);replace hw9:=hw9.mod m5 (fun g hg=>by cases hg;omega);replace hw10:=hw10.mod m5 (fun g hg=>by cases hg;omega);replace hw11:=hw11.mod m5 (fun g hg=>by cases hg;omega);replace hw12:=hw12.mod m5 (fun g hg=>by cases hg;omega);replace hw13:=hw13.mod m5 (fun g hg=>by cases hg;omega);replace hrow1:=hrow1.mod m5 (fun g hg=>by cases hg;omega);replace h3:=h3.mod m5 (fun g hg=>by cases hg;omega);replace ho3:=ho3.mod m5 (fun g hg=>by cases hg;omega);replace ho4:=ho4.mod m5 (fun g hg=>by cases hg;omega);replace hs1:=hs1.mod m5 (fun g hg=>by cases hg;omega);replace ho5:=ho5.mod m5 (fun g hg=>by cases hg;omega)
   have z11:=m5.size
   refine Qd (Qf (Qh [true,true,false] Z Z (Qa (Qc Z) Z (Qa (Qb Gm Z) Z (Yj (cs':=[v3,v2,o3,v1,o5,o6,o7,o8]) Xy Z Z ho4.one h2 (Nat.le_of_ble_eq_true Z) Z (fun w13 m6 h2'=>?_))))))
   replace h2:=h2'
   replace E:=E.mod m6 (fun g hg=>by cases hg;omega);replace hw1:=hw1.mod m6 (fun g hg=>by cases hg;omega);replace hw3:=hw3.mod m6 (fun g hg=>by cases hg;omega);replace hw4:=hw4.mod m6 (fun g hg=>by cases hg;omega);replace hw5:=hw5.mod m6 (fun g hg=>by cases hg;omega);replace h1:=h1.mod m6 (fun g hg=>by cases hg;omega);replace hw7:=hw7.mod m6 (fun g hg=>by cases hg;omega);replace hw8:=hw8.mod m6 (fun g hg=>by cases hg;omega);replace hw9:=hw9.mod m6 (fun g hg=>by cases hg;omega);replace hw10:=hw10.mod m6 (fun g hg=>by cases hg;omega);replace hw11:=hw11.mod m6 (fun g hg=>by cases hg;omega);replace hw12:=hw12.mod m6 (fun g hg=>by cases hg;omega);replace hw13:=hw13.mod m6 (fun g hg=>by cases hg;omega);replace hrow1:=hrow1.mod m6 (fun g hg=>by cases hg;omega);replace h3:=h3.mod m6 (fun g hg=>by cases hg;omega);replace ho3:=ho3.mod m6 (fun g hg=>by cases hg;omega);replace ho4:=ho4.mod m6 (fun g hg=>by cases hg;omega);replace hs1:=hs1.mod m6 (fun g hg=>by cases hg;omega);replace ho5:=ho5.mod m6 (fun g hg=>by cases hg;omega)
   have z12:=m6.size
   refine Qd (Qf (Qf (Xj Xi [(0,true),(1,true),(2,true),(3,true),(4,true),(5,true),(6,false)] (by decide +kernel) Z (fun w14 e7=>?_))))
   replace E:=E.ext e7;replace hw1:=hw1.ext e7;replace hw3:=hw3.ext e7;replace hw4:=hw4.ext e7;replace hw5:=hw5.ext e7;replace h1:=h1.ext e7;replace hw7:=hw7.ext e7;replace hw8:=hw8.ext e7;replace hw9:=hw9.ext e7;replace hw10:=hw10.ext e7;replace hw11:=hw11.ext e7;replace hw12:=hw12.ext e7;replace hw13:=hw13.ext e7;replace hrow1:=hrow1.ext e7;replace h2:=h2.ext e7;replace h3:=h3.ext e7;replace ho3:=ho3.ext e7;replace ho4:=ho4.ext e7;replace hs1:=hs1.ext e7;replace ho5:=ho5.ext e7
   have z13:=e7.size
   refine Qa (Qc Z) Z (Qa (Ve Z) Z (Qa (Qb Ab Z) Z (Qa (Qb Ur Z) Z (Qa (Qt Km Z (h1.part 0 [o1x,.int .i64 x.graph.workers,.int .i64 x.graph.cap] Z) Z) Z (Qa (Qt Va Z h3.at Z) Z (Qv Tryz.call48 Z (s_Capped [o1x,.int .i64 x.graph.workers,.int .i64 x.graph.cap] x.graph (((x.workers[(Int.toNat p)]'hi1).queue)[0]'hi2) _ (Graph.mkR x.graph (RdD.any (OwF.rd hw1))) (by first | omega | (simp only [Qi];omega) | (rw [Qi];done) | (simp only [Qi];done))) Z (fun _ w15 e8 hv=>?_)))))))
   subst hv
   replace E:=E.ext e8;replace hw1:=hw1.ext e8;replace hw3:=hw3.ext e8;replace hw4:=hw4.ext e8;replace hw5:=hw5.ext e8;replace h1:=h1.ext e8;replace hw7:=hw7.ext e8;replace hw8:=hw8.ext e8;replace hw9:=hw9.ext e8;replace hw10:=hw10.ext e8;replace hw11:=hw11.ext e8;replace hw12:=hw12.ext e8;replace hw13:=hw13.ext e8;replace hrow1:=hrow1.ext e8;replace h2:=h2.ext e8;replace h3:=h3.ext e8;replace ho3:=ho3.ext e8;replace ho4:=ho4.ext e8;replace hs1:=hs1.ext e8;replace ho5:=ho5.ext e8
   have z14:=e8.size
   refine Qd (Qs Z (fun hc3=>?_) (fun hc3=>?_))
   ·have hwc:=run_wcap hwr hc2 hwl hc3
    refine Qh [true,true,true,true,true,true,false] Z Z (Qa (Qb Hl Z) Z (Qa (Qj G5 Z (h2.one 6 Z)) Z (Qa (Qb Kx Z) Z (Qa (Qz Vi Z) Z (Qa (Qj Yo Z (h3.one 1 Z)) Z ?_)))))
    have hi3 : (Int.toNat (((((x.workers[(Int.toNat p)]'hi1).queue)[0]'hi2).stamp).epoch)) < ((x.workers[(Int.toNat p)]'hi1).caps).length:=(by first | assumption | omega | (simp only [List.length_set];first | assumption | omega))
    refine Qa (U3 (i:=(Int.toNat (((((x.workers[(Int.toNat p)]'hi1).queue)[0]'hi2).stamp).epoch))) C1 Z Z (Own.rd (by decide) hw12) (by omega) hi3) Z (Dx (α:=Bool) (i:=(Int.toNat (((((x.workers[(Int.toNat p)]'hi1).queue)[0]'hi2).stamp).epoch))) (f:=0) true Tb Z Z Z Z hw12 hi3 (by decide) Z (fun w16 m7 hw12'=>?_))
    have hq:=Own.blk hw12
    replace hw12:=hw12'
    have kq1:=Mod.kq (l:=f2) m7 (RowK.fpr_mem hrow1 (by simp))
    replace E:=E.mod m7 (fun g hg=>by have:=hq g hg;omega);replace hw1:=OwF.kp hw1 (Kq.kp kq1 sp1.1.1);replace hw3:=OwF.kp hw3 (Kq.kp kq1 (sp1.2.1.1).symm);replace hw4:=Own.kp hw4 (Kq.kp kq1 (sp1.2.1.2.1).symm);replace hw5:=Own.kp hw5 (Kq.kp kq1 (sp1.2.1.2.2.1).symm);replace h1:=Blk.kp h1 (Kq.kp kq1 (sp1.2.1.2.2.2.1).symm);replace hw7:=Own.modS hw7 m7 (sp2.2.1.2.2.2.2.1).symm;replace hw8:=Own.modS hw8 m7 (sp2.2.2.1.2.2.2.1).symm;replace hw9:=Own.modS hw9 m7 (sp2.2.2.2.1.2.2.1).symm;replace hw10:=Own.modS hw10 m7 (sp2.2.2.2.2.1.2.1).symm;replace hw11:=Own.modS hw11 m7 (sp2.2.2.2.2.2.1.1).symm;replace hw13:=Own.modS hw13 m7 sp2.2.2.2.2.2.2.1.1;replace hrow1:=RowR.modS hrow1 m7 (by simp);replace h2:=h2.mod m7 (fun g hg=>by have:=hq g hg;omega);replace h3:=h3.mod m7 (fun g hg=>by have:=hq g hg;omega);replace ho3:=ho3.mod m7 (fun g hg=>by have:=hq g hg;omega);replace ho4:=ho4.mod m7 (fun g hg=>by have:=hq g hg;omega);replace hs1:=Own.modS hs1 m7 (sp2.1.2.2.2.2.2.1).symm;replace ho5:=ho5.mod m7 (fun g hg=>by have:=hq g hg;omega)
    have z15:=m7.size
    clear hq
    refine Qd (Qf (Xj Xi [(0,true),(1,true),(2,true),(3,true),(4,true),(5,true),(6,true),(7,true),(8,false)] (by decide +kernel) Z (fun w17 e9=>?_)))
    replace E:=E.ext e9;replace hw1:=hw1.ext e9;replace hw3:=hw3.ext e9;replace hw4:=hw4.ext e9;replace hw5:=hw5.ext e9;replace h1:=h1.ext e9;replace hw7:=hw7.ext e9;replace hw8:=hw8.ext e9;replace hw9:=hw9.ext e9;replace hw10:=hw10.ext e9;replace hw11:=hw11.ext e9;replace hw13:=hw13.ext e9;replace hrow1:=hrow1.ext e9;replace h2:=h2.ext e9;replace h3:=h3.ext e9;replace ho3:=ho3.ext e9;replace ho4:=ho4.ext e9;replace hs1:=hs1.ext e9;replace ho5:=ho5.ext e9;replace hw12:=hw12.ext e9
    have z16:=e9.size
    refine Qa (Qc Z) Z (Qa (Ve Z) Z (Qa (Qb Ab Z) Z (Qa (Qb Kh Z) Z (Qa (Qj Gh Z (h1.one 3 Z)) Z (Qa (Qc Z) Z (Qa (Qt Kw Z h2.at Z) Z (Qa (U3 (i:=(Int.toNat p)) U8 Z Z (RowK.same1 hrow1 hl2 hn1) (by omega) (by simp;omega)) Z (Be Z Z (RowK.setN (N:=w1.heap.size) (lo2:=lo) (hi2:=w17.heap.size) (cs':=[v3,v2,o3,v1,o5,o6,o7,o8]) Kw hrow1 hl2 (Worker.mkO (⟨[] ++ (List.drop 1 ((x.workers[(Int.toNat p)]'hi1).queue)),(Xw x.graph ((x.workers[(Int.toNat p)]'hi1).cells) (((x.workers[(Int.toNat p)]'hi1).queue)[0]'hi2)).2.1,(x.workers[(Int.toNat p)]'hi1).inputs,(Xw x.graph ((x.workers[(Int.toNat p)]'hi1).cells) (((x.workers[(Int.toNat p)]'hi1).queue)[0]'hi2)).1,(x.workers[(Int.toNat p)]'hi1).sums,(x.workers[(Int.toNat p)]'hi1).black,List.set ((x.workers[(Int.toNat p)]'hi1).caps) (Int.toNat (((((x.workers[(Int.toNat p)]'hi1).queue)[0]'hi2).stamp).epoch)) true,(x.workers[(Int.toNat p)]'hi1).dones⟩ : Worker) ⟨⟨(Own.sep ho5 ho4 (by omega)),⟨(Own.sep ho5 hw8 (by omega)),⟨(Own.sep ho5 ho3 (by omega)),⟨(Own.sep ho5 hw10 (by omega)),⟨(Own.sep ho5 hw11 (by omega)),⟨(Own.sep ho5 hw12 (by omega)),⟨(Own.sep ho5 hw13 (by omega)),trivial⟩⟩⟩⟩⟩⟩⟩,⟨⟨(Own.sep ho4 hw8 (by omega)),⟨(sp3.1.1).symm,⟨(Own.sep ho4 hw10 (by omega)),⟨(Own.sep ho4 hw11 (by omega)),⟨(Own.sep ho4 hw12 (by omega)),⟨(Own.sep ho4 hw13 (by omega)),trivial⟩⟩⟩⟩⟩⟩,⟨⟨(Own.sep hw8 ho3 (by omega)),⟨sp2.2.2.1.2.1,⟨sp2.2.2.1.2.2.1,⟨sp2.2.2.1.2.2.2.1,⟨sp2.2.2.1.2.2.2.2.1,trivial⟩⟩⟩⟩⟩,⟨⟨(Own.sep ho3 hw10 (by omega)),⟨(Own.sep ho3 hw11 (by omega)),⟨(Own.sep ho3 hw12 (by omega)),⟨(Own.sep ho3 hw13 (by omega)),trivial⟩⟩⟩⟩,⟨⟨sp2.2.2.2.2.1.1,⟨sp2.2.2.2.2.1.2.1,⟨sp2.2.2.2.2.1.2.2.1,trivial⟩⟩⟩,⟨⟨sp2.2.2.2.2.2.1.1,⟨sp2.2.2.2.2.2.1.2.1,trivial⟩⟩,⟨⟨sp2.2.2.2.2.2.2.1.1,trivial⟩,⟨trivial,trivial⟩⟩⟩⟩⟩⟩⟩⟩ (Own.widen ho5 (by omega) (by omega)) (Own.widen ho4 (by omega) (by omega)) (Own.widen hw8 (by omega) (by omega)) (Own.widen ho3 (by omega) (by omega)) (Own.widen hw10 (by omega) (by omega)) (Own.widen hw11 (by omega) (by omega)) (Own.widen hw12 (by omega) (by omega)) (Own.widen hw13 (by omega) (by omega))) ⟨(fun b hb=>.inr (by have:=Own.in2 ho5 b hb;omega)),(fun b hb=>.inr (by have:=Own.in2 ho4 b hb;omega)),(fun b hb=>.inl (Ks (by simp) b hb)),(fun b hb=>.inr (by have:=Own.in2 ho3 b hb;omega)),(fun b hb=>.inl (Ks (by simp) b hb)),(fun b hb=>.inl (Ks (by simp) b hb)),(fun b hb=>.inl (Ks (by simp) b hb)),(fun b hb=>.inl (Ks (by simp) b hb)),trivial⟩ (fun b hb=>by have:=hfl1 b hb;omega) (by omega) (by omega)) (fun w18 m8 hR=>?_)))))))))
    obtain ⟨f4,hw2,hin1⟩:=hR
    have kq2:=Mod.kq (l:=f2) m8 (RowK.v_mem hrow1)
    have hqb:=RowK.blk hrow1
    replace E:=E.mod m8 (fun g hg=>by have:=hqb g hg;omega);replace hw1:=OwF.kp hw1 (Kq.kp kq2 sp1.1.1);replace hw3:=OwF.kp hw3 (Kq.kp kq2 (sp1.2.1.1).symm);replace hw4:=Own.kp hw4 (Kq.kp kq2 (sp1.2.1.2.1).symm);replace hw5:=Own.kp hw5 (Kq.kp kq2 (sp1.2.1.2.2.1).symm);replace h1:=Blk.kp h1 (Kq.kp kq2 (sp1.2.1.2.2.2.1).symm);replace h2:=h2.mod m8 (fun g hg=>by have:=hqb g hg;omega);replace h3:=h3.mod m8 (fun g hg=>by have:=hqb g hg;omega)
    have z17:=m8.size
    clear hqb hrow1
    replace sp1:=DjL.set (N:=w1.heap.size) hin1 1 rfl sp1 ⟨(fun b hb=>by have:=OwF.in2 hw1 b hb;omega),(fun b hb=>by have:=hfl1 b hb;omega),(fun b hb=>by have:=OwF.in2 hw3 b hb;omega),(fun b hb=>by have:=Own.in2 hw4 b hb;omega),(fun b hb=>by have:=Own.in2 hw5 b hb;omega),(fun b hb=>by simp at hb;omega),trivial⟩
    replace sp1 : DjL [f1,f4,f3,(Kr o4x),(Kr o5x),[bx]]:=sp1
    rw [← Ta hi1] at hw2
    clear hfl1
    refine Qd (Qf (Qh [true] Z Z (Qa (Qe Z) Z (Qd (Qw (Ql Z Z E ?_))))))
    rw [work2_c hwr (by simpa [Cd] using hc1) hc2 hwl hc3]
    exact ⟨Z,⟨f1,f4,f3,h1,(by omega),(OwF.widen hw1 (Nat.le_refl _) (by omega)),(OwF.widen hw2 (Nat.le_refl _) (by omega)),(OwF.widen hw3 (Nat.le_refl _) (by omega)),(Own.widen hw4 (by omega) (by omega)),(Own.widen hw5 (by omega) (by omega)),sp1⟩⟩
   ·refine Qn (Qf (Xj Xi [(0,true),(1,true),(2,true),(3,true),(4,true),(5,true),(6,true),(7,true),(8,false)] (by decide +kernel) Z (fun w19 e10=>?_)))
    replace E:=E.ext e10;replace hw1:=hw1.ext e10;replace hw3:=hw3.ext e10;replace hw4:=hw4.ext e10;replace hw5:=hw5.ext e10;replace h1:=h1.ext e10;replace hw7:=hw7.ext e10;replace hw8:=hw8.ext e10;replace hw9:=hw9.ext e10;replace hw10:=hw10.ext e10;replace hw11:=hw11.ext e10;replace hw12:=hw12.ext e10;replace hw13:=hw13.ext e10;replace hrow1:=hrow1.ext e10;replace h2:=h2.ext e10;replace h3:=h3.ext e10;replace ho3:=ho3.ext e10;replace ho4:=ho4.ext e10;replace hs1:=hs1.ext e10;replace ho5:=ho5.ext e10
    have z18:=e10.size
    refine Qa (Qc Z) Z (Qa (Ve Z) Z (Qa (Qb Ab Z) Z (Qa (Qb Kh Z) Z (Qa (Qj Gh Z (h1.one 3 Z)) Z (Qa (Qc Z) Z (Qa (Qt Kw Z h2.at Z) Z (Qa (U3 (i:=(Int.toNat p)) U8 Z Z (RowK.same1 hrow1 hl2 hn1) (by omega) (by simp;omega)) Z (Be Z Z (RowK.setN (N:=w1.heap.size) (lo2:=lo) (hi2:=w19.heap.size) (cs':=[v3,v2,o3,v1,o5,o6,o7,o8]) Kw hrow1 hl2 (Worker.mkO (⟨[] ++ (List.drop 1 ((x.workers[(Int.toNat p)]'hi1).queue)),(Xw x.graph ((x.workers[(Int.toNat p)]'hi1).cells) (((x.workers[(Int.toNat p)]'hi1).queue)[0]'hi2)).2.1,(x.workers[(Int.toNat p)]'hi1).inputs,(Xw x.graph ((x.workers[(Int.toNat p)]'hi1).cells) (((x.workers[(Int.toNat p)]'hi1).queue)[0]'hi2)).1,(x.workers[(Int.toNat p)]'hi1).sums,(x.workers[(Int.toNat p)]'hi1).black,(x.workers[(Int.toNat p)]'hi1).caps,(x.workers[(Int.toNat p)]'hi1).dones⟩ : Worker) ⟨⟨(Own.sep ho5 ho4 (by omega)),⟨(Own.sep ho5 hw8 (by omega)),⟨(Own.sep ho5 ho3 (by omega)),⟨(Own.sep ho5 hw10 (by omega)),⟨(Own.sep ho5 hw11 (by omega)),⟨(Own.sep ho5 hw12 (by omega)),⟨(Own.sep ho5 hw13 (by omega)),trivial⟩⟩⟩⟩⟩⟩⟩,⟨⟨(Own.sep ho4 hw8 (by omega)),⟨(sp3.1.1).symm,⟨(Own.sep ho4 hw10 (by omega)),⟨(Own.sep ho4 hw11 (by omega)),⟨(Own.sep ho4 hw12 (by omega)),⟨(Own.sep ho4 hw13 (by omega)),trivial⟩⟩⟩⟩⟩⟩,⟨⟨(Own.sep hw8 ho3 (by omega)),⟨sp2.2.2.1.2.1,⟨sp2.2.2.1.2.2.1,⟨sp2.2.2.1.2.2.2.1,⟨sp2.2.2.1.2.2.2.2.1,trivial⟩⟩⟩⟩⟩,⟨⟨(Own.sep ho3 hw10 (by omega)),⟨(Own.sep ho3 hw11 (by omega)),⟨(Own.sep ho3 hw12 (by omega)),⟨(Own.sep ho3 hw13 (by omega)),trivial⟩⟩⟩⟩,⟨⟨sp2.2.2.2.2.1.1,⟨sp2.2.2.2.2.1.2.1,⟨sp2.2.2.2.2.1.2.2.1,trivial⟩⟩⟩,⟨⟨sp2.2.2.2.2.2.1.1,⟨sp2.2.2.2.2.2.1.2.1,trivial⟩⟩,⟨⟨sp2.2.2.2.2.2.2.1.1,trivial⟩,⟨trivial,trivial⟩⟩⟩⟩⟩⟩⟩⟩ (Own.widen ho5 (by omega) (by omega)) (Own.widen ho4 (by omega) (by omega)) (Own.widen hw8 (by omega) (by omega)) (Own.widen ho3 (by omega) (by omega)) (Own.widen hw10 (by omega) (by omega)) (Own.widen hw11 (by omega) (by omega)) (Own.widen hw12 (by omega) (by omega)) (Own.widen hw13 (by omega) (by omega))) ⟨(fun b hb=>.inr (by have:=Own.in2 ho5 b hb;omega)),(fun b hb=>.inr (by have:=Own.in2 ho4 b hb;omega)),(fun b hb=>.inl (Ks (by simp) b hb)),(fun b hb=>.inr (by have:=Own.in2 ho3 b hb;omega)),(fun b hb=>.inl (Ks (by simp) b hb)),(fun b hb=>.inl (Ks (by simp) b hb)),(fun b hb=>.inl (Ks (by simp) b hb)),(fun b hb=>.inl (Ks (by simp) b hb)),trivial⟩ (fun b hb=>by have:=hfl1 b hb;omega) (by omega) (by omega)) (fun w20 m9 hR=>?_)))))))))
    obtain ⟨f5,hw2,hin2⟩:=hR
    have kq3:=Mod.kq (l:=f2) m9 (RowK.v_mem hrow1)
    have hqb:=RowK.blk hrow1
    replace E:=E.mod m9 (fun g hg=>by have:=hqb g hg;omega);replace hw1:=OwF.kp hw1 (Kq.kp kq3 sp1.1.1);replace hw3:=OwF.kp hw3 (Kq.kp kq3 (sp1.2.1.1).symm);replace hw4:=Own.kp hw4 (Kq.kp kq3 (sp1.2.1.2.1).symm);replace hw5:=Own.kp hw5 (Kq.kp kq3 (sp1.2.1.2.2.1).symm);replace h1:=Blk.kp h1 (Kq.kp kq3 (sp1.2.1.2.2.2.1).symm);replace h2:=h2.mod m9 (fun g hg=>by have:=hqb g hg;omega);replace h3:=h3.mod m9 (fun g hg=>by have:=hqb g hg;omega)
    have z19:=m9.size
    clear hqb hrow1
    replace sp1:=DjL.set (N:=w1.heap.size) hin2 1 rfl sp1 ⟨(fun b hb=>by have:=OwF.in2 hw1 b hb;omega),(fun b hb=>by have:=hfl1 b hb;omega),(fun b hb=>by have:=OwF.in2 hw3 b hb;omega),(fun b hb=>by have:=Own.in2 hw4 b hb;omega),(fun b hb=>by have:=Own.in2 hw5 b hb;omega),(fun b hb=>by simp at hb;omega),trivial⟩
    replace sp1 : DjL [f1,f5,f3,(Kr o4x),(Kr o5x),[bx]]:=sp1
    rw [← Ta hi1] at hw2
    clear hfl1
    refine Qd (Qf (Qh [true] Z Z (Qa (Qe Z) Z (Qd (Qw (Ql Z Z E ?_))))))
    rw [work2_n hwr (by simpa [Cd] using hc1) hc2 hwl hc3]
    exact ⟨Z,⟨f1,f5,f3,h1,(by omega),(OwF.widen hw1 (Nat.le_refl _) (by omega)),(OwF.widen hw2 (Nat.le_refl _) (by omega)),(OwF.widen hw3 (Nat.le_refl _) (by omega)),(Own.widen hw4 (by omega) (by omega)),(Own.widen hw5 (by omega) (by omega)),sp1⟩⟩

set_option maxHeartbeats 4000000 in
set_option maxRecDepth 20000 in
theorem c_PickWork (cx : List Value) (x : Cluster) (p : Int) (w : World) (hx : Dat.R w 0 w.heap.size cx x) (hb : Yg x ≤ 1048576) (hok : ∀ l ∈ x.links,rg l.got) : Ct Tryz.prog 7 [.agg cx.toArray,.int .i64 p] w (fun v w'=>∃ q00 q01 q02 q03 q04,v = .tuple [.agg [q00,.int .i64 ((((Qu x p).1).graph).workers),.int .i64 ((((Qu x p).1).graph).cap),q01,q02,q03,q04].toArray,.bool ((Qu x p).2)].toArray ∧ OwC w' w.heap.size w'.heap.size q00 q01 q02 q03 q04 ((Qu x p).1)):=by
 refine Yh Tryz.func7 Z Tryz.ntmps7 Z ?_
 obtain ⟨o1,o2,o3,o4,o5,rfl,hd1,hd2,hd3,hd4,hd5⟩:=Cluster.op hx
 refine Q7 [(0,.agg [o1,.int .i64 x.graph.workers,.int .i64 x.graph.cap,o2,o3,o4,o5].toArray),(1,.int .i64 p)] ⟨Z,Z,trivial⟩ ?_
 have E : Ext w w:=Ext.refl w
 refine Qf (Qh [false,false,true] Z Z (Y1 Z Z (fun b1 w1 e1 s1 h1=>?_)))
 have g_b1 : w.heap.size ≤ b1:=by have:=E.size;omega
 have y_b1:=h1.lt
 replace E:=E.trans e1
 have z1:=e1.size
 refine Yk X5 Z (fun b2 w2 e2 s2 h2=>?_)
 have g_b2 : w.heap.size ≤ b2:=by have:=E.size;omega
 have y_b2:=h2.lt
 replace E:=E.trans e2;replace h1:=h1.ext e2
 have z2:=e2.size
 refine Qa (Qe Z) Z (Qd (Qf (Qh [true,false,false,false] Z Z (Qa (Qt X5 Z h1.at Z) Z (Qv Tryz.call23 Z (c_copyCluster [o1,.int .i64 x.graph.workers,.int .i64 x.graph.cap,o2,o3,o4,o5] x _ (Cluster.mkR x (RdD.any (hd1.ext E)) (RdD.any (hd2.ext E)) (RdD.any (hd3.ext E)) (RdD.any (hd4.ext E)) (RdD.any (hd5.ext E))) (by first | omega | (simp only [Qi];omega) | (rw [Qi];done) | (simp only [Qi];done))) Z (fun _ w3 e3 ho1=>?_))))))
 obtain ⟨o6,o7,o8,o9,o10,rfl,ho1⟩:=ho1
 have g_ho1 : w.heap.size ≤ w2.heap.size:=E.size
 replace E:=E.trans e3;replace h1:=h1.ext e3;replace h2:=h2.ext e3
 have z3:=e3.size
 refine Yk X5 Z (fun b3 w4 e4 s3 h3=>?_)
 have g_b3 : w.heap.size ≤ b3:=by have:=E.size;omega
 have y_b3:=h3.lt
 replace E:=E.trans e4;replace h1:=h1.ext e4;replace h2:=h2.ext e4;replace ho1:=ho1.ext e4
 have z4:=e4.size
 refine Q6 (cs':=[o6,.int .i64 x.graph.workers,.int .i64 x.graph.cap,o7,o8,o9,o10]) X5 Z Z Z (Qk (RdD.one (OwC.rd1 ho1)) (Qk Z (Qk Z (Qk (RdD.one (OwC.rd2 ho1)) (Qk (RdD.one (OwC.rd3 ho1)) (Qk (RdD.one (OwC.rd4 ho1)) (Qk (RdD.one (OwC.rd5 ho1)) Z))))))) h3 (Nat.le_of_ble_eq_true Z) Z (fun w5 m1 h3'=>?_)
 replace h3:=h3'
 replace E:=E.step m1 (fun g hg=>by cases hg;omega);replace h1:=h1.mod m1 (fun g hg=>by cases hg;omega);replace h2:=h2.mod m1 (fun g hg=>by cases hg;omega);replace ho1:=ho1.mod m1 (fun g hg=>by cases hg;omega)
 have z5:=m1.size
 refine Qd (Qf (Qf (Qh [true,true,false,true] Z Z (Qa (Qt X5 Z h1.at Z) Z (Qa (Qc Z) Z (Qv Tryz.call24 Z (c_hasWorker [o1,.int .i64 x.graph.workers,.int .i64 x.graph.cap,o2,o3,o4,o5] x p _ (Cluster.mkR x (RdD.any (hd1.ext E)) (RdD.any (hd2.ext E)) (RdD.any (hd3.ext E)) (RdD.any (hd4.ext E)) (RdD.any (hd5.ext E))) (by first | omega | (simp only [Qi];omega) | (rw [Qi];done) | (simp only [Qi];done))) Z (fun _ w6 e5 hv=>?_)))))))
 subst hv
 replace E:=E.trans e5;replace h1:=h1.ext e5;replace h2:=h2.ext e5;replace ho1:=ho1.ext e5;replace h3:=h3.ext e5
 have z6:=e5.size
 refine Qa (Yq Z) Z (Qd (Qs Z (fun hc1=>?_) (fun hc1=>?_)))
 ·refine Qf (Qh [true,false,true] Z Z (Qa (Qt X5 Z h3.at Z) Z (Q6 (cs':=[o6,.int .i64 x.graph.workers,.int .i64 x.graph.cap,o7,o8,o9,o10]) X5 Z Z Z (Qk (RdD.one (OwC.rd1 ho1)) (Qk Z (Qk Z (Qk (RdD.one (OwC.rd2 ho1)) (Qk (RdD.one (OwC.rd3 ho1)) (Qk (RdD.one (OwC.rd4 ho1)) (Qk (RdD.one (OwC.rd5 ho1)) Z))))))) h2 (Nat.le_of_ble_eq_true Z) Z (fun w7 m2 h2'=>?_))))
  replace h2:=h2'
  replace E:=E.step m2 (fun g hg=>by cases hg;omega);replace h1:=h1.mod m2 (fun g hg=>by cases hg;omega);replace ho1:=ho1.mod m2 (fun g hg=>by cases hg;omega);replace h3:=h3.mod m2 (fun g hg=>by cases hg;omega)
  have z7:=m2.size
  refine Qa (Qe Z) Z (Qd (Qw (Y5 (l:=[.cell 4 40,.tmp 5]) (vs:=[.agg [o6,.int .i64 x.graph.workers,.int .i64 x.graph.cap,o7,o8,o9,o10].toArray,.bool false]) Z ⟨.cell Z (Yi X5 h2.at Z),.tmp Z,trivial⟩ Z E ?_)))
  rw [Qu,if_neg (by simpa using hc1)]
  exact ⟨_,_,_,_,_,Z,(OwC.widen ho1 (by have:=E.size;omega) (by omega))⟩
 ·have hhw:=hasW_in hd2.1.1 (by simpa using hc1)
  have hcl:=cntL_get (cnt:=Yd) hhw.2.2.2
  have hb2:=hb;unfold Yg at hb2
  have hi1 : (Int.toNat p) < x.workers.length:=(by first | assumption | omega | (simp only [List.length_set];first | assumption | omega))
  obtain ⟨_,hr1,ha1⟩:=RdD.get hd2 hi1
  obtain ⟨o11,o12,o13,o14,o15,o16,o17,o18,rfl,hd6,hd7,hd8,hd9,hd10,hd11,hd12,hd13⟩:=Worker.op hr1
  replace ha1 : At w (Xf o2) (Xm o2 + (Int.toNat p) * 8) [o11,o12,o13,o14,o15,o16,o17,o18]:=ha1
  refine Qn (Qf (S_regF Xi [] 11 7 [] [(0,true),(1,true),(2,true),(3,true),(4,true),(5,true),(6,true)] [(7,false),(8,true),(9,true),(10,true)] [(12,false),(13,true)] (fun b=>.pointer (some ⟨b,0,none⟩)) (z:=[.slice none 0 0,.slice none 0 0,.slice none 0 0,.slice none 0 0,.slice none 0 0,.slice none 0 0,.slice none 0 0,.slice none 0 0]) (by decide +kernel) Z Z Z Z Z Z Z [(0,.agg [o1,.int .i64 x.graph.workers,.int .i64 x.graph.cap,o2,o3,o4,o5].toArray),(1,.int .i64 p),(2,.pointer (some ⟨b1,0,none⟩)),(4,.pointer (some ⟨b2,0,none⟩)),(5,.bool false),(6,.pointer (some ⟨b3,0,none⟩)),(9,.agg [o1,.int .i64 x.graph.workers,.int .i64 x.graph.cap,o2,o3,o4,o5].toArray),(10,.agg [o6,.int .i64 x.graph.workers,.int .i64 x.graph.cap,o7,o8,o9,o10].toArray),(11,.agg [o1,.int .i64 x.graph.workers,.int .i64 x.graph.cap,o2,o3,o4,o5].toArray),(12,.int .i64 p),(13,.bool (Bs x p)),(14,.bool (!(Bs x p))),(17,.pointer (some ⟨b1,0,none⟩)),(18,.agg [o1,.int .i64 x.graph.workers,.int .i64 x.graph.cap].toArray),(19,.pointer (some ⟨b1,3,none⟩)),(20,o2),(21,.int .i64 p),(22,.pointer (some ⟨Xf o2,Xm o2 + (Int.toNat p) * 8,none⟩)),(23,.agg [o11,o12,o13,o14,o15,o16,o17,o18].toArray)] [] Z trivial (fun w'=>Ext w w' ∧ w6.heap.size ≤ w'.heap.size ∧ Blk w' b1 ([o1,.int .i64 x.graph.workers,.int .i64 x.graph.cap,o2,o3,o4,o5]) ∧ Blk w' b2 [.slice none 0 0,.int .i64 0,.int .i64 0,.slice none 0 0,.slice none 0 0,.slice none 0 0,.slice none 0 0] ∧ OwC w' w2.heap.size w3.heap.size o6 o7 o8 o9 o10 x ∧ Blk w' b3 [o6,.int .i64 x.graph.workers,.int .i64 x.graph.cap,o7,o8,o9,o10]) (Bm Kw) (fun w8 e6=>?_) (fun w8 hphi_w8=>?_)))
  ·replace E:=E.trans e6;replace h1:=h1.ext e6;replace h2:=h2.ext e6;replace ho1:=ho1.ext e6;replace h3:=h3.ext e6
   have z8:=e6.size
   refine Qa (Qb Ur Z) Z (Qa (Qt Km Z (h1.part 0 [o1,.int .i64 x.graph.workers,.int .i64 x.graph.cap] Z) Z) Z (Qa (Qb Kh Z) Z (Qa (Qj Gh Z (h1.one 3 Z)) Z (Qa (Qc Z) Z (Qa (U3 (i:=(Int.toNat p)) U8 Z Z (hd2.ext E).1 (by omega) hi1) Z (Qa (Qt Kw Z (ha1.ext E) Z) Z (Qp ⟨Z,Z,Z,Z,Z,Z,Z,Z,Z,Z,Z,Z,Z,Z,Z,Z,Z,Z,Z,trivial⟩ ⟨E,(by omega),h1,h2,ho1,h3⟩)))))))
  clear E h1 h2 ho1 h3
  obtain ⟨E,z9,h1,h2,ho1,h3⟩:=hphi_w8
  refine Fb Z (fun w9 e7=>?_) Z
  replace E:=E.trans e7;replace h1:=h1.ext e7;replace h2:=h2.ext e7;replace ho1:=ho1.ext e7;replace h3:=h3.ext e7
  have z10:=e7.size
  refine Qv Tryz.call25 Z (c_WorkOn [o1,.int .i64 x.graph.workers,.int .i64 x.graph.cap] x.graph [o11,o12,o13,o14,o15,o16,o17,o18] (x.workers[(Int.toNat p)]'hi1) _ (Graph.mkR x.graph (RdD.any (hd1.ext E))) (Worker.mkR (x.workers[(Int.toNat p)]'hi1) (RdD.any (hd6.ext E)) (RdD.any (hd7.ext E)) (RdD.any (hd8.ext E)) (RdD.any (hd9.ext E)) (RdD.any (hd10.ext E)) (RdD.any (hd11.ext E)) (RdD.any (hd12.ext E)) (RdD.any (hd13.ext E))) (by omega)) Z (fun _ w10 e8 ho2=>?_)
  obtain ⟨_,rfl,ho3⟩:=ho2
  have g_ho2 : w.heap.size ≤ w9.heap.size:=E.size
  replace E:=E.trans e8;replace h1:=h1.ext e8;replace h2:=h2.ext e8;replace ho1:=ho1.ext e8;replace h3:=h3.ext e8
  have z11:=e8.size
  obtain ⟨o19,o20,o21,o22,o23,o24,o25,o26,rfl,sp1,hw1,hw2,hw3,hw4,hw5,hw6,hw7,hw8⟩:=Worker.opO ho3
  refine Bf ?_
  refine JI_seg 3 Z ?_
  refine Qa (Qc Z) Z (Qa (Yv Z Z) Z (Qa (Yv Z Z) Z (JI_go (JI_end Z (fun b4 w11 e9 g1 y1 h4 hI1=>?_)))))
  have hI1_0 : b4 < w9.heap.size ∨ w10.heap.size ≤ b4:=hI1 (_,_) (by simp)
  replace E:=E.trans e9;replace h1:=h1.ext e9;replace h2:=h2.ext e9;replace ho1:=ho1.ext e9;replace h3:=h3.ext e9;replace hw1:=hw1.ext e9;replace hw2:=hw2.ext e9;replace hw3:=hw3.ext e9;replace hw4:=hw4.ext e9;replace hw5:=hw5.ext e9;replace hw6:=hw6.ext e9;replace hw7:=hw7.ext e9;replace hw8:=hw8.ext e9
  have z12:=e9.size
  have g_b4 : w.heap.size ≤ b4:=by have:=E.size;omega
  have y_b4:=h4.lt
  refine J2_sub [(0,.agg [o1,.int .i64 x.graph.workers,.int .i64 x.graph.cap,o2,o3,o4,o5].toArray),(1,.int .i64 p),(2,.pointer (some ⟨b1,0,none⟩)),(4,.pointer (some ⟨b2,0,none⟩)),(5,.bool false),(6,.pointer (some ⟨b3,0,none⟩)),(7,.pointer (some ⟨b4,0,none⟩)),(9,.agg [o1,.int .i64 x.graph.workers,.int .i64 x.graph.cap,o2,o3,o4,o5].toArray),(10,.agg [o6,.int .i64 x.graph.workers,.int .i64 x.graph.cap,o7,o8,o9,o10].toArray),(11,.agg [o1,.int .i64 x.graph.workers,.int .i64 x.graph.cap,o2,o3,o4,o5].toArray),(12,.int .i64 p),(13,.bool (Bs x p)),(14,.bool (!(Bs x p))),(16,.tuple [.agg [o19,o20,o21,o22,o23,o24,o25,o26].toArray,.bool ((V3 x.graph (x.workers[(Int.toNat p)]'hi1)).2)].toArray),(17,.pointer (some ⟨b1,0,none⟩)),(18,.agg [o1,.int .i64 x.graph.workers,.int .i64 x.graph.cap].toArray),(19,.pointer (some ⟨b1,3,none⟩)),(20,o2),(21,.int .i64 p),(22,.pointer (some ⟨Xf o2,Xm o2 + (Int.toNat p) * 8,none⟩)),(23,.agg [o11,o12,o13,o14,o15,o16,o17,o18].toArray),(24,.tuple [.agg [o19,o20,o21,o22,o23,o24,o25,o26].toArray,.bool ((V3 x.graph (x.workers[(Int.toNat p)]'hi1)).2)].toArray),(25,.agg [o19,o20,o21,o22,o23,o24,o25,o26].toArray),(26,.bool ((V3 x.graph (x.workers[(Int.toNat p)]'hi1)).2))] ⟨Z,Z,Z,Z,Z,Z,Z,Z,Z,Z,Z,Z,Z,Z,Z,Z,Z,Z,Z,Z,Z,Z,Z,Z,trivial⟩ ?_
  refine J2_of Z ?_
  refine Q6 (cs':=[o19,o20,o21,o22,o23,o24,o25,o26]) Kw Z Z Z (Qk hw1.one (Qk hw2.one (Qk hw3.one (Qk hw4.one (Qk hw5.one (Qk hw6.one (Qk hw7.one (Qk hw8.one Z)))))))) h4 (Nat.le_of_ble_eq_true Z) Z (fun w12 m3 h4'=>?_)
  replace h4:=h4'
  replace E:=E.step m3 (fun g hg=>by cases hg;omega);replace h1:=h1.mod m3 (fun g hg=>by cases hg;omega);replace h2:=h2.mod m3 (fun g hg=>by cases hg;omega);replace ho1:=ho1.mod m3 (fun g hg=>by cases hg;omega);replace h3:=h3.mod m3 (fun g hg=>by cases hg;omega);replace hw1:=hw1.mod m3 (fun g hg=>by cases hg;omega);replace hw2:=hw2.mod m3 (fun g hg=>by cases hg;omega);replace hw3:=hw3.mod m3 (fun g hg=>by cases hg;omega);replace hw4:=hw4.mod m3 (fun g hg=>by cases hg;omega);replace hw5:=hw5.mod m3 (fun g hg=>by cases hg;omega);replace hw6:=hw6.mod m3 (fun g hg=>by cases hg;omega);replace hw7:=hw7.mod m3 (fun g hg=>by cases hg;omega);replace hw8:=hw8.mod m3 (fun g hg=>by cases hg;omega)
  have z13:=m3.size
  refine Qa (Qe Z) Z (Qd (Qf (Qh [true,true,true,true,true,false] Z Z (Qa (Qb Kh Z) Z (Qa (Qj Gh Z (h3.one 3 Z)) Z (Qa (Qc Z) Z (Qa (Qt Kw Z h4.at Z) Z ?_)))))))
  have hi2 : (Int.toNat p) < x.workers.length:=(by first | assumption | omega | (simp only [List.length_set];first | assumption | omega))
  refine Qa (U3 (i:=(Int.toNat p)) U8 Z Z (OwC.rd2 ho1).1 (by omega) hi2) Z (Be Z Z (OwC.setW (lo2:=w9.heap.size) (hi2:=w12.heap.size) Kw ho1 hi2 (Worker.mkO ((V3 x.graph (x.workers[(Int.toNat p)]'hi1)).1) sp1 (Own.widen hw1 (by omega) (by omega)) (Own.widen hw2 (by omega) (by omega)) (Own.widen hw3 (by omega) (by omega)) (Own.widen hw4 (by omega) (by omega)) (Own.widen hw5 (by omega) (by omega)) (Own.widen hw6 (by omega) (by omega)) (Own.widen hw7 (by omega) (by omega)) (Own.widen hw8 (by omega) (by omega))) (by omega) (by omega) (by omega)) (fun w13 m4 ho1'=>?_))
  have hqb : ∀ g,Value.ownBlock o7 = some g → w2.heap.size ≤ g ∧ g < w3.heap.size:=OwC.blk2 ho1
  replace ho1:=ho1'
  replace E:=E.step m4 (fun g hg=>by have:=hqb g hg;omega);replace h1:=h1.mod m4 (fun g hg=>by have:=hqb g hg;omega);replace h2:=h2.mod m4 (fun g hg=>by have:=hqb g hg;omega);replace h3:=h3.mod m4 (fun g hg=>by have:=hqb g hg;omega);replace h4:=h4.mod m4 (fun g hg=>by have:=hqb g hg;omega)
  have z14:=m4.size
  clear hqb
  refine Qd (Qf (Qh [true,true,false,true] Z Z (Qa (Qt X5 Z h3.at Z) Z (Qa (Qc Z) Z (Q6 (cs':=[o6,.int .i64 x.graph.workers,.int .i64 x.graph.cap,o7,o8,o9,o10]) X5 Z Z Z (Qk (RdD.one (OwC.rd1 ho1)) (Qk Z (Qk Z (Qk (RdD.one (OwC.rd2 ho1)) (Qk (RdD.one (OwC.rd3 ho1)) (Qk (RdD.one (OwC.rd4 ho1)) (Qk (RdD.one (OwC.rd5 ho1)) Z))))))) h2 (Nat.le_of_ble_eq_true Z) Z (fun w14 m5 h2'=>?_))))))
  replace h2:=h2'
  replace E:=E.step m5 (fun g hg=>by cases hg;omega);replace h1:=h1.mod m5 (fun g hg=>by cases hg;omega);replace ho1:=ho1.mod m5 (fun g hg=>by cases hg;omega);replace h3:=h3.mod m5 (fun g hg=>by cases hg;omega);replace h4:=h4.mod m5 (fun g hg=>by cases hg;omega)
  have z15:=m5.size
  refine Qa (Qe Z) Z (Qd (Qw (Y5 (l:=[.cell 4 40,.tmp 5]) (vs:=[.agg [o6,.int .i64 x.graph.workers,.int .i64 x.graph.cap,o7,o8,o9,o10].toArray,.bool ((V3 x.graph (x.workers[(Int.toNat p)]'hi1)).2)]) Z ⟨.cell Z (Yi X5 h2.at Z),.tmp Z,trivial⟩ Z E ?_)))
  rw [Qu,if_pos (by simpa using hc1),← Ax hhw.2.2.2]
  exact ⟨_,_,_,_,_,Z,(OwC.widen ho1 (by have:=E.size;omega) (by omega))⟩

set_option maxRecDepth 20000 in
theorem s_PickWork (cx : List Value) (x : Cluster) (p : Int) (w : World) (hx : Dat.R w 0 w.heap.size cx x) (hb : Yg x ≤ 1048576) : Ct Tryz.prog 5 [.agg cx.toArray,.int .i64 p] w (fun v w'=>∃ c0,v = .tuple [.agg c0.toArray,.bool ((Qu x p).2)].toArray ∧ Dat.R w' w.heap.size w'.heap.size c0 ((Qu x p).1)):=by
 refine Yh Tryz.func5 Z Tryz.ntmps5 Z ?_
 obtain ⟨o1,o2,o3,o4,o5,rfl,hd1,hd2,hd3,hd4,hd5⟩:=Cluster.op hx
 refine Q7 [(0,.agg [o1,.int .i64 x.graph.workers,.int .i64 x.graph.cap,o2,o3,o4,o5].toArray),(1,.int .i64 p)] ⟨Z,Z,trivial⟩ ?_
 have E : Ext w w:=Ext.refl w
 refine Qf (Qh [false,false,true] Z Z (Y1 Z Z (fun b1 w1 e1 s1 h1=>?_)))
 have g_b1 : w.heap.size ≤ b1:=by have:=E.size;omega
 have y_b1:=h1.lt
 replace E:=E.trans e1
 have z1:=e1.size
 refine Yk X5 Z (fun b2 w2 e2 s2 h2=>?_)
 have g_b2 : w.heap.size ≤ b2:=by have:=E.size;omega
 have y_b2:=h2.lt
 replace E:=E.trans e2;replace h1:=h1.ext e2
 have z2:=e2.size
 refine Qa (Qe Z) Z (Qd (Qf (Qh [true,false,true] Z Z (Qa (Qt X5 Z h1.at Z) Z (Qv Tryz.call16 Z (s_l15Start [o1,.int .i64 x.graph.workers,.int .i64 x.graph.cap,o2,o3,o4,o5] x _ (Cluster.mkR x (RdD.any (hd1.ext E)) (RdD.any (hd2.ext E)) (RdD.any (hd3.ext E)) (RdD.any (hd4.ext E)) (RdD.any (hd5.ext E))) (by first | omega | (simp only [Qi];omega) | (rw [Qi];done) | (simp only [Qi];done))) Z (fun _ w3 e3 ho1=>?_))))))
 obtain ⟨b3,o6,o7,o8,o9,o10,rfl,ho1⟩:=ho1
 have g_ho1 : w.heap.size ≤ w2.heap.size:=E.size
 replace E:=E.trans e3;replace h1:=h1.ext e3;replace h2:=h2.ext e3
 have z3:=e3.size
 obtain ⟨f1,f2,f3,h3,hl1,hw1,hw2,hw3,hw4,hw5,sp1⟩:=ho1
 have y_q1:=h3.lt
 refine Qa (Qe Z) Z (Qd (Qf (Qh [true,true,false,true] Z Z (Qa (Qc Z) Z (Qa (Qc Z) Z ?_)))))
 have hr1 : OwR w3 w2.heap.size w3.heap.size b3 o6 o7 o8 o9 o10 x (Ug x):=⟨f1,f2,f3,h3,(by omega),(OwF.widen hw1 (Nat.le_refl _) (by omega)),(OwF.widen hw2 (Nat.le_refl _) (by omega)),(OwF.widen hw3 (Nat.le_refl _) (by omega)),(Own.widen hw4 (by omega) (by omega)),(Own.widen hw5 (by omega) (by omega)),sp1⟩
 refine Kj Tryz.call17 Z Z (s_l15Work b3 o6 o7 o8 o9 o10 w2.heap.size x (Ug x) p _ hr1 (fun h=>h) hb) Z (fun _ w4 e4 hv1=>?_)
 obtain ⟨rfl,ho2⟩:=hv1
 replace E:=E.stepR e4 (by omega);replace h1:=h1.modR e4 (by omega);replace h2:=h2.modR e4 (by omega)
 have z4:=e4.size
 obtain ⟨f4,f5,f6,h4,hl2,hw6,hw7,hw8,hw9,hw10,sp2⟩:=ho2
 have y_q2:=h4.lt
 refine Qa (Qe Z) Z (Qd (Qf (Qh [true,true,true,true,true,false,true] Z Z (Qa (Qc Z) Z (Qa (Ve Z) Z (Qa (Qb Ab Z) Z (Qa (Qt X5 Z (h4.part 0 [o6,.int .i64 ((((K0 x (Ug x) p).1).graph).workers),.int .i64 ((((K0 x (Ug x) p).1).graph).cap),o7,o8,o9,o10] Z) Z) Z (Qa (Qc Z) Z (Q6 (cs':=[o6,.int .i64 ((((K0 x (Ug x) p).1).graph).workers),.int .i64 ((((K0 x (Ug x) p).1).graph).cap),o7,o8,o9,o10]) X5 Z Z Z (Qk (RdD.one (OwF.rd hw6)) (Qk Z (Qk Z (Qk (RdD.one (OwF.rd hw7)) (Qk (RdD.one (OwF.rd hw8)) (Qk hw9.one (Qk hw10.one Z))))))) h2 (Nat.le_of_ble_eq_true Z) Z (fun w5 m1 h2'=>?_))))))))))
 replace h2:=h2'
 replace E:=E.step m1 (fun g hg=>by cases hg;omega);replace h1:=h1.mod m1 (fun g hg=>by cases hg;omega);replace hw6:=hw6.mod m1 (fun g hg=>by cases hg;omega);replace hw7:=hw7.mod m1 (fun g hg=>by cases hg;omega);replace hw8:=hw8.mod m1 (fun g hg=>by cases hg;omega);replace hw9:=hw9.mod m1 (fun g hg=>by cases hg;omega);replace hw10:=hw10.mod m1 (fun g hg=>by cases hg;omega);replace h4:=h4.mod m1 (fun g hg=>by cases hg;omega)
 have z5:=m1.size
 refine Qa (Qe Z) Z (Qd (Qw (Y5 (l:=[.cell 4 40,.tmp 5]) (vs:=[.agg [o6,.int .i64 ((((K0 x (Ug x) p).1).graph).workers),.int .i64 ((((K0 x (Ug x) p).1).graph).cap),o7,o8,o9,o10].toArray,.bool ((K0 x (Ug x) p).2)]) Z ⟨.cell Z (Yi X5 h2.at Z),.tmp Z,trivial⟩ Z E ?_)))
 rw [← pick_work (by exact hd2.1.1)]
 exact ⟨_,Z,(Cluster.mkR _ (RdD.widen (OwF.rd hw6) (by have:=E.size;omega) (by omega)) (RdD.widen (OwF.rd hw7) (by have:=E.size;omega) (by omega)) (RdD.widen (OwF.rd hw8) (by have:=E.size;omega) (by omega)) (RdD.widen (Own.rdD hw9) (by have:=E.size;omega) (by omega)) (RdD.widen (Own.rdD hw10) (by have:=E.size;omega) (by omega)))⟩

set_option maxHeartbeats 4000000 in
set_option maxRecDepth 20000 in
theorem l_PickWork (cx : List Value) (x : Cluster) (p : Int) (w : World) (hx : Dat.R w 0 w.heap.size cx x) (kx : D5 x) (kp : rg p) : Ct Tryz.prog 3 [.agg cx.toArray,.int .i64 p] w (fun v _=>v = .bool true):=by
 have hcn:=cnt_pickWork x p
 refine Yh Tryz.func3 Z Tryz.ntmps3 Z ?_
 obtain ⟨o1,o2,o3,o4,o5,rfl,hd1,hd2,hd3,hd4,hd5⟩:=Cluster.op hx
 refine Q7 [(0,.agg [o1,.int .i64 x.graph.workers,.int .i64 x.graph.cap,o2,o3,o4,o5].toArray),(1,.int .i64 p)] ⟨Z,Z,trivial⟩ ?_
 have E : Ext w w:=Ext.refl w
 refine Qf (Qh [false,true] Z Z (Y1 Z Z (fun b1 w1 e1 s1 h1=>?_)))
 have g_b1 : w.heap.size ≤ b1:=by have:=E.size;omega
 have y_b1:=h1.lt
 replace E:=E.trans e1
 have z1:=e1.size
 refine Qa (Qe Z) Z (Qd (Qf (Qh [true] Z Z (Qa (Qe Z) Z (Qd (Qf (Qh [true,true,false,true] Z Z (Qa (Qt st30 Z h1.at Z) Z (Qa (Qc Z) Z (Qv Tryz.call4 Z (c_szCluster [o1,.int .i64 x.graph.workers,.int .i64 x.graph.cap,o2,o3,o4,o5] x 1048576 _ (Cluster.mkR x (RdD.any (hd1.ext E)) (RdD.any (hd2.ext E)) (RdD.any (hd3.ext E)) (RdD.any (hd4.ext E)) (RdD.any (hd5.ext E))) (by first | omega | (simp only [Qi];omega) | (rw [Qi];done) | (simp only [Qi];done))) Z (fun _ w2 e2 hv=>?_)))))))))))
 subst hv
 replace E:=E.trans e2;replace h1:=h1.ext e2
 have z2:=e2.size
 refine Qa (Qe Z) Z (Qd (Qf (Qf (Qh [true,true] Z Z (Qa (Qc Z) Z (Qa (Yf Z Z) Z (Qd (Qs Z (fun hc1=>?_) (fun hc1=>?_)))))))))
 ·have q1:=Uo hc1 (by omega)
  refine Qf (Qh [true] Z Z (Qa (Qe Z) Z (Qd (Qw (Ql Z Z E ?_)))))
  rfl
 ·have q2:=Un hc1 (by omega)
  refine Qn (Qf (Qh [true,false,true,false,true,true,true,false,false,true] Z Z (Qa (Qt st30 Z h1.at Z) Z (Qv Tryz.call6 Z (c_toCluster [o1,.int .i64 x.graph.workers,.int .i64 x.graph.cap,o2,o3,o4,o5] x _ (Cluster.mkR x (RdD.any (hd1.ext E)) (RdD.any (hd2.ext E)) (RdD.any (hd3.ext E)) (RdD.any (hd4.ext E)) (RdD.any (hd5.ext E))) (by first | omega | (simp only [Qi];omega) | (rw [Qi];done) | (simp only [Qi];done))) Z (fun _ w3 e3 ho1=>?_)))))
  obtain ⟨o6,o7,o8,o9,o10,rfl,ho1⟩:=ho1
  have g_ho1 : w.heap.size ≤ w2.heap.size:=E.size
  replace E:=E.trans e3;replace h1:=h1.ext e3
  have z3:=e3.size
  refine Qa (Qc Z) Z (Qv Tryz.call5 Z (s_PickWork [o6,.int .i64 x.graph.workers,.int .i64 x.graph.cap,o7,o8,o9,o10] x p _ (Cluster.mkR x (RdD.any (OwC.rd1 ho1)) (RdD.any (OwC.rd2 ho1)) (RdD.any (OwC.rd3 ho1)) (RdD.any (OwC.rd4 ho1)) (RdD.any (OwC.rd5 ho1))) (by omega)) Z (fun _ w4 e4 ho2=>?_))
  obtain ⟨_,rfl,ho3⟩:=ho2
  have g_ho2 : w.heap.size ≤ w3.heap.size:=E.size
  replace E:=E.trans e4;replace h1:=h1.ext e4;replace ho1:=ho1.ext e4
  have z4:=e4.size
  obtain ⟨o11,o12,o13,o14,o15,rfl,hd6,hd7,hd8,hd9,hd10⟩:=Cluster.op ho3
  refine Qa (Qc Z) Z (Qa (Yv Z Z) Z (Qa (Yv Z Z) Z (Yk X5 Z (fun b2 w5 e5 s2 h2=>?_))))
  have g_b2 : w.heap.size ≤ b2:=by have:=E.size;omega
  have y_b2:=h2.lt
  replace E:=E.trans e5;replace h1:=h1.ext e5;replace ho1:=ho1.ext e5;replace hd6:=hd6.ext e5;replace hd7:=hd7.ext e5;replace hd8:=hd8.ext e5;replace hd9:=hd9.ext e5;replace hd10:=hd10.ext e5
  have z5:=e5.size
  refine Q6 (cs':=[o11,.int .i64 ((((Qu x p).1).graph).workers),.int .i64 ((((Qu x p).1).graph).cap),o12,o13,o14,o15]) X5 Z Z Z (Qk (RdD.one hd6) (Qk Z (Qk Z (Qk (RdD.one hd7) (Qk (RdD.one hd8) (Qk (RdD.one hd9) (Qk (RdD.one hd10) Z))))))) h2 (Nat.le_of_ble_eq_true Z) Z (fun w6 m1 h2'=>?_)
  replace h2:=h2'
  replace E:=E.step m1 (fun g hg=>by cases hg;omega);replace h1:=h1.mod m1 (fun g hg=>by cases hg;omega);replace ho1:=ho1.mod m1 (fun g hg=>by cases hg;omega);replace hd6:=hd6.mod m1 (fun g hg=>by cases hg;omega);replace hd7:=hd7.mod m1 (fun g hg=>by cases hg;omega);replace hd8:=hd8.mod m1 (fun g hg=>by cases hg;omega);replace hd9:=hd9.mod m1 (fun g hg=>by cases hg;omega);replace hd10:=hd10.mod m1 (fun g hg=>by cases hg;omega)
  have z6:=m1.size
  refine Qa (Qe Z) Z (Qd (Qf (Qh [true,false,false,false] Z Z (Qa (Qt st30 Z h1.at Z) Z (Qv Tryz.call6 Z (c_toCluster [o1,.int .i64 x.graph.workers,.int .i64 x.graph.cap,o2,o3,o4,o5] x _ (Cluster.mkR x (RdD.any (hd1.ext E)) (RdD.any (hd2.ext E)) (RdD.any (hd3.ext E)) (RdD.any (hd4.ext E)) (RdD.any (hd5.ext E))) (by first | omega | (simp only [Qi];omega) | (rw [Qi];done) | (simp only [Qi];done))) Z (fun _ w7 e6 ho4=>?_))))))
  obtain ⟨o16,o17,o18,o19,o20,rfl,ho4⟩:=ho4
  have g_ho4 : w.heap.size ≤ w6.heap.size:=E.size
  replace E:=E.trans e6;replace h1:=h1.ext e6;replace ho1:=ho1.ext e6;replace hd6:=hd6.ext e6;replace hd7:=hd7.ext e6;replace hd8:=hd8.ext e6;replace hd9:=hd9.ext e6;replace hd10:=hd10.ext e6;replace h2:=h2.ext e6
  have z7:=e6.size
  refine Yk X5 Z (fun b3 w8 e7 s3 h3=>?_)
  have g_b3 : w.heap.size ≤ b3:=by have:=E.size;omega
  have y_b3:=h3.lt
  replace E:=E.trans e7;replace h1:=h1.ext e7;replace ho1:=ho1.ext e7;replace hd6:=hd6.ext e7;replace hd7:=hd7.ext e7;replace hd8:=hd8.ext e7;replace hd9:=hd9.ext e7;replace hd10:=hd10.ext e7;replace h2:=h2.ext e7;replace ho4:=ho4.ext e7
  have z8:=e7.size
  refine Q6 (cs':=[o16,.int .i64 x.graph.workers,.int .i64 x.graph.cap,o17,o18,o19,o20]) X5 Z Z Z (Qk (RdD.one (OwC.rd1 ho4)) (Qk Z (Qk Z (Qk (RdD.one (OwC.rd2 ho4)) (Qk (RdD.one (OwC.rd3 ho4)) (Qk (RdD.one (OwC.rd4 ho4)) (Qk (RdD.one (OwC.rd5 ho4)) Z))))))) h3 (Nat.le_of_ble_eq_true Z) Z (fun w9 m2 h3'=>?_)
  replace h3:=h3'
  replace E:=E.step m2 (fun g hg=>by cases hg;omega);replace h1:=h1.mod m2 (fun g hg=>by cases hg;omega);replace ho1:=ho1.mod m2 (fun g hg=>by cases hg;omega);replace hd6:=hd6.mod m2 (fun g hg=>by cases hg;omega);replace hd7:=hd7.mod m2 (fun g hg=>by cases hg;omega);replace hd8:=hd8.mod m2 (fun g hg=>by cases hg;omega);replace hd9:=hd9.mod m2 (fun g hg=>by cases hg;omega);replace hd10:=hd10.mod m2 (fun g hg=>by cases hg;omega);replace h2:=h2.mod m2 (fun g hg=>by cases hg;omega);replace ho4:=ho4.mod m2 (fun g hg=>by cases hg;omega)
  have z9:=m2.size
  refine Qd (Qf (Qh [true,true,false,true,true,true,false,false,true] Z Z (Qa (Qt X5 Z h3.at Z) Z (Qa (Qc Z) Z (Qv Tryz.call7 Z (c_PickWork [o16,.int .i64 x.graph.workers,.int .i64 x.graph.cap,o17,o18,o19,o20] x p _ (Cluster.mkR x (RdD.any (OwC.rd1 ho4)) (RdD.any (OwC.rd2 ho4)) (RdD.any (OwC.rd3 ho4)) (RdD.any (OwC.rd4 ho4)) (RdD.any (OwC.rd5 ho4))) (by omega) (fun l hl=>(kx.2.2.1 l hl).2.2.2.2.2)) Z (fun _ w10 e8 ho5=>?_))))))
  obtain ⟨o21,o22,o23,o24,o25,rfl,ho6⟩:=ho5
  have g_ho5 : w.heap.size ≤ w9.heap.size:=E.size
  replace E:=E.trans e8;replace h1:=h1.ext e8;replace ho1:=ho1.ext e8;replace hd6:=hd6.ext e8;replace hd7:=hd7.ext e8;replace hd8:=hd8.ext e8;replace hd9:=hd9.ext e8;replace hd10:=hd10.ext e8;replace h2:=h2.ext e8;replace ho4:=ho4.ext e8;replace h3:=h3.ext e8
  have z10:=e8.size
  refine Qa (Qc Z) Z (Qa (Yv Z Z) Z (Qa (Yv Z Z) Z (Yk X5 Z (fun b4 w11 e9 s4 h4=>?_))))
  have g_b4 : w.heap.size ≤ b4:=by have:=E.size;omega
  have y_b4:=h4.lt
  replace E:=E.trans e9;replace h1:=h1.ext e9;replace ho1:=ho1.ext e9;replace hd6:=hd6.ext e9;replace hd7:=hd7.ext e9;replace hd8:=hd8.ext e9;replace hd9:=hd9.ext e9;replace hd10:=hd10.ext e9;replace h2:=h2.ext e9;replace ho4:=ho4.ext e9;replace h3:=h3.ext e9;replace ho6:=ho6.ext e9
  have z11:=e9.size
  refine Q6 (cs':=[o21,.int .i64 ((((Qu x p).1).graph).workers),.int .i64 ((((Qu x p).1).graph).cap),o22,o23,o24,o25]) X5 Z Z Z (Qk (RdD.one (OwC.rd1 ho6)) (Qk Z (Qk Z (Qk (RdD.one (OwC.rd2 ho6)) (Qk (RdD.one (OwC.rd3 ho6)) (Qk (RdD.one (OwC.rd4 ho6)) (Qk (RdD.one (OwC.rd5 ho6)) Z))))))) h4 (Nat.le_of_ble_eq_true Z) Z (fun w12 m3 h4'=>?_)
  replace h4:=h4'
  replace E:=E.step m3 (fun g hg=>by cases hg;omega);replace h1:=h1.mod m3 (fun g hg=>by cases hg;omega);replace ho1:=ho1.mod m3 (fun g hg=>by cases hg;omega);replace hd6:=hd6.mod m3 (fun g hg=>by cases hg;omega);replace hd7:=hd7.mod m3 (fun g hg=>by cases hg;omega);replace hd8:=hd8.mod m3 (fun g hg=>by cases hg;omega);replace hd9:=hd9.mod m3 (fun g hg=>by cases hg;omega);replace hd10:=hd10.mod m3 (fun g hg=>by cases hg;omega);replace h2:=h2.mod m3 (fun g hg=>by cases hg;omega);replace ho4:=ho4.mod m3 (fun g hg=>by cases hg;omega);replace h3:=h3.mod m3 (fun g hg=>by cases hg;omega);replace ho6:=ho6.mod m3 (fun g hg=>by cases hg;omega)
  have z12:=m3.size
  refine Qa (Qe Z) Z (Qd (Qf (Qf (Qh [true,true,false,true,true,true,true,true,true] Z Z (Qa (Qt X5 Z h4.at Z) Z (Qa (Qt X5 Z h2.at Z) Z (Qv Tryz.call8 Z (c_eqCluster [o21,.int .i64 ((((Qu x p).1).graph).workers),.int .i64 ((((Qu x p).1).graph).cap),o22,o23,o24,o25] ((Qu x p).1) [o11,.int .i64 ((((Qu x p).1).graph).workers),.int .i64 ((((Qu x p).1).graph).cap),o12,o13,o14,o15] ((Qu x p).1) _ (Cluster.mkR ((Qu x p).1) (RdD.any (OwC.rd1 ho6)) (RdD.any (OwC.rd2 ho6)) (RdD.any (OwC.rd3 ho6)) (RdD.any (OwC.rd4 ho6)) (RdD.any (OwC.rd5 ho6))) (Cluster.mkR ((Qu x p).1) (RdD.any hd6) (RdD.any hd7) (RdD.any hd8) (RdD.any hd9) (RdD.any hd10))) Z (fun _ w13 e10 hv=>?_))))))))
  subst hv
  replace E:=E.trans e10;replace h1:=h1.ext e10;replace ho1:=ho1.ext e10;replace hd6:=hd6.ext e10;replace hd7:=hd7.ext e10;replace hd8:=hd8.ext e10;replace hd9:=hd9.ext e10;replace hd10:=hd10.ext e10;replace h2:=h2.ext e10;replace ho4:=ho4.ext e10;replace h3:=h3.ext e10;replace ho6:=ho6.ext e10;replace h4:=h4.ext e10
  have z13:=e10.size
  refine Qa (Yq Z) Z (Qa (Qc Z) Z (Y7 4 [(0,.agg [o1,.int .i64 x.graph.workers,.int .i64 x.graph.cap,o2,o3,o4,o5].toArray),(1,.int .i64 p),(2,.pointer (some ⟨b1,0,none⟩)),(4,.bool false),(5,.int .i64 (Up (Yg x) 1048576)),(6,.pointer (some ⟨b2,0,none⟩)),(7,.bool ((Qu x p).2)),(8,.pointer (some ⟨b3,0,none⟩)),(9,.pointer (some ⟨b4,0,none⟩)),(10,.bool ((Qu x p).2)),(16,.agg [o1,.int .i64 x.graph.workers,.int .i64 x.graph.cap,o2,o3,o4,o5].toArray),(17,.int .i64 1048576),(18,.int .i64 (Up (Yg x) 1048576)),(19,.int .i64 (Up (Yg x) 1048576)),(20,.bool (decide ((Up (Yg x) 1048576) < 0))),(21,.tuple [.agg [o11,.int .i64 ((((Qu x p).1).graph).workers),.int .i64 ((((Qu x p).1).graph).cap),o12,o13,o14,o15].toArray,.bool ((Qu x p).2)].toArray),(22,.agg [o1,.int .i64 x.graph.workers,.int .i64 x.graph.cap,o2,o3,o4,o5].toArray),(23,.agg [o6,.int .i64 x.graph.workers,.int .i64 x.graph.cap,o7,o8,o9,o10].toArray),(24,.int .i64 p),(25,.tuple [.agg [o11,.int .i64 ((((Qu x p).1).graph).workers),.int .i64 ((((Qu x p).1).graph).cap),o12,o13,o14,o15].toArray,.bool ((Qu x p).2)].toArray),(26,.agg [o11,.int .i64 ((((Qu x p).1).graph).workers),.int .i64 ((((Qu x p).1).graph).cap),o12,o13,o14,o15].toArray),(27,.bool ((Qu x p).2)),(28,.agg [o1,.int .i64 x.graph.workers,.int .i64 x.graph.cap,o2,o3,o4,o5].toArray),(29,.agg [o16,.int .i64 x.graph.workers,.int .i64 x.graph.cap,o17,o18,o19,o20].toArray),(30,.tuple [.agg [o21,.int .i64 ((((Qu x p).1).graph).workers),.int .i64 ((((Qu x p).1).graph).cap),o22,o23,o24,o25].toArray,.bool ((Qu x p).2)].toArray),(31,.agg [o16,.int .i64 x.graph.workers,.int .i64 x.graph.cap,o17,o18,o19,o20].toArray),(32,.int .i64 p),(33,.tuple [.agg [o21,.int .i64 ((((Qu x p).1).graph).workers),.int .i64 ((((Qu x p).1).graph).cap),o22,o23,o24,o25].toArray,.bool ((Qu x p).2)].toArray),(34,.agg [o21,.int .i64 ((((Qu x p).1).graph).workers),.int .i64 ((((Qu x p).1).graph).cap),o22,o23,o24,o25].toArray),(35,.bool ((Qu x p).2)),(44,.bool ((!(decide ((Qu x p).1 = ((Qu x p).1)))) || (!(((Qu x p).2) == ((Qu x p).2)))))] (fun w'=>w13 = w') ?_ ?_))
  ·refine Y3 (gd:=40) Z Z (fun hg1=>?_) (fun hg1=>?_)
   ·exact absurd hg1 (by first | (simp;done) | (simp only [Qo] <;> simp) | (simp only [Qi,Qo] <;> simp) | (simp only [Qi] <;> simp))
   ·refine Qm Z Z (Qc Z) Z (Qm Z Z (Qc Z) Z (Qm Z Z (Vf (Tryz.underlying4) Z Z) Z (Qa (Qy Z Z) Z (Qp ⟨Z,Z,Z,Z,Z,Z,Z,Z,Z,Z,Z,Z,Z,Z,Z,Z,Z,Z,Z,Z,Z,Z,Z,Z,Z,Z,Z,Z,Z,Z,congrArg (fun b=>some (Value.bool b)) (show (!(((Qu x p).2) == ((Qu x p).2))) = ((!(decide ((Qu x p).1 = ((Qu x p).1)))) || (!(((Qu x p).2) == ((Qu x p).2)))) by first | (rw [hg1] <;> rfl) | (simp [hg1];done) | (simp only [Qo] <;> simp)),trivial⟩ Z))))
  rintro _ rfl
  refine Qd (Yy Z (by first | (simp;done) | (simp only [Qo] <;> simp) | (simp only [Qi,Qo] <;> simp) | (simp only [Qi] <;> simp)) (Qn (Qf (Qf (Xj Xi [(0,true),(1,true),(2,false),(3,false),(4,true)] (by decide +kernel) Z (fun w15 e11=>?_))))))
  replace E:=E.trans e11;replace h1:=h1.ext e11;replace ho1:=ho1.ext e11;replace hd6:=hd6.ext e11;replace hd7:=hd7.ext e11;replace hd8:=hd8.ext e11;replace hd9:=hd9.ext e11;replace hd10:=hd10.ext e11;replace h2:=h2.ext e11;replace ho4:=ho4.ext e11;replace h3:=h3.ext e11;replace ho6:=ho6.ext e11;replace h4:=h4.ext e11
  have z14:=e11.size
  refine Qa (Qt X5 Z h3.at Z) Z (Qa (Qt st30 Z h1.at Z) Z (Qv Tryz.call6 Z (c_toCluster [o1,.int .i64 x.graph.workers,.int .i64 x.graph.cap,o2,o3,o4,o5] x _ (Cluster.mkR x (RdD.any (hd1.ext E)) (RdD.any (hd2.ext E)) (RdD.any (hd3.ext E)) (RdD.any (hd4.ext E)) (RdD.any (hd5.ext E))) (by first | omega | (simp only [Qi];omega) | (rw [Qi];done) | (simp only [Qi];done))) Z (fun _ w16 e12 ho7=>?_)))
  obtain ⟨o26,o27,o28,o29,o30,rfl,ho7⟩:=ho7
  have g_ho7 : w.heap.size ≤ w15.heap.size:=E.size
  replace E:=E.trans e12;replace h1:=h1.ext e12;replace ho1:=ho1.ext e12;replace hd6:=hd6.ext e12;replace hd7:=hd7.ext e12;replace hd8:=hd8.ext e12;replace hd9:=hd9.ext e12;replace hd10:=hd10.ext e12;replace h2:=h2.ext e12;replace ho4:=ho4.ext e12;replace h3:=h3.ext e12;replace ho6:=ho6.ext e12;replace h4:=h4.ext e12
  have z15:=e12.size
  refine Qv Tryz.call8 Z (c_eqCluster [o16,.int .i64 x.graph.workers,.int .i64 x.graph.cap,o17,o18,o19,o20] x [o26,.int .i64 x.graph.workers,.int .i64 x.graph.cap,o27,o28,o29,o30] x _ (Cluster.mkR x (RdD.any (OwC.rd1 ho4)) (RdD.any (OwC.rd2 ho4)) (RdD.any (OwC.rd3 ho4)) (RdD.any (OwC.rd4 ho4)) (RdD.any (OwC.rd5 ho4))) (Cluster.mkR x (RdD.any (OwC.rd1 ho7)) (RdD.any (OwC.rd2 ho7)) (RdD.any (OwC.rd3 ho7)) (RdD.any (OwC.rd4 ho7)) (RdD.any (OwC.rd5 ho7)))) Z (fun _ w17 e13 hv=>?_)
  subst hv
  replace E:=E.trans e13;replace h1:=h1.ext e13;replace ho1:=ho1.ext e13;replace hd6:=hd6.ext e13;replace hd7:=hd7.ext e13;replace hd8:=hd8.ext e13;replace hd9:=hd9.ext e13;replace hd10:=hd10.ext e13;replace h2:=h2.ext e13;replace ho4:=ho4.ext e13;replace h3:=h3.ext e13;replace ho6:=ho6.ext e13;replace h4:=h4.ext e13;replace ho7:=ho7.ext e13
  have z16:=e13.size
  refine Qa (Yq Z) Z (Qd (Yy Z (by first | (simp;done) | (simp only [Qo] <;> simp) | (simp only [Qi,Qo] <;> simp) | (simp only [Qi] <;> simp)) (Qn (Qf (Qh [true] Z Z (Qa (Qe Z) Z (Qd (Qf (Qh [true,true,false,true] Z Z (Qa (Qt X5 Z h3.at Z) Z (Qa (Qc Z) Z (Kj Tryz.call9 Z Z (markCluster o16 o17 o18 o19 o20 w6.heap.size w7.heap.size x 1 _ ho4 (by omega) (by omega)) Z (fun _ w18 e14 hv=>?_)))))))))))))
  obtain ⟨rfl,ho4'⟩:=hv
  replace ho4:=ho4'
  replace E:=E.stepR e14 (by omega);replace h1:=h1.modR e14 (by omega);replace ho1:=ho1.modR e14 (by omega);replace hd6:=hd6.modR e14 (by omega);replace hd7:=hd7.modR e14 (by omega);replace hd8:=hd8.modR e14 (by omega);replace hd9:=hd9.modR e14 (by omega);replace hd10:=hd10.modR e14 (by omega);replace h2:=h2.modR e14 (by omega);replace h3:=h3.modR e14 (by omega);replace ho6:=ho6.modR e14 (by omega);replace h4:=h4.modR e14 (by omega);replace ho7:=ho7.modR e14 (by omega)
  have z17:=e14.size
  refine Qa (Qe Z) Z (Qd (Qf (Qf (Qh [true,true,true,true,true,false,true,true,true,true,true,true,true] Z Z (Qa (Qc Z) Z (Qa (Yf Z Z) Z (Qa (Qc Z) Z (Y7 10 [(0,.agg [o1,.int .i64 x.graph.workers,.int .i64 x.graph.cap,o2,o3,o4,o5].toArray),(1,.int .i64 p),(2,.pointer (some ⟨b1,0,none⟩)),(4,.bool false),(5,.int .i64 (Up (Yg x) 1048576)),(6,.pointer (some ⟨b2,0,none⟩)),(7,.bool ((Qu x p).2)),(8,.pointer (some ⟨b3,0,none⟩)),(9,.pointer (some ⟨b4,0,none⟩)),(10,.bool ((Qu x p).2)),(11,.int .i64 ((Vb 1 x : Nat) : Int)),(16,.agg [o1,.int .i64 x.graph.workers,.int .i64 x.graph.cap,o2,o3,o4,o5].toArray),(17,.int .i64 1048576),(18,.int .i64 (Up (Yg x) 1048576)),(19,.int .i64 (Up (Yg x) 1048576)),(20,.bool (decide ((Up (Yg x) 1048576) < 0))),(21,.tuple [.agg [o11,.int .i64 ((((Qu x p).1).graph).workers),.int .i64 ((((Qu x p).1).graph).cap),o12,o13,o14,o15].toArray,.bool ((Qu x p).2)].toArray),(22,.agg [o1,.int .i64 x.graph.workers,.int .i64 x.graph.cap,o2,o3,o4,o5].toArray),(23,.agg [o6,.int .i64 x.graph.workers,.int .i64 x.graph.cap,o7,o8,o9,o10].toArray),(24,.int .i64 p),(25,.tuple [.agg [o11,.int .i64 ((((Qu x p).1).graph).workers),.int .i64 ((((Qu x p).1).graph).cap),o12,o13,o14,o15].toArray,.bool ((Qu x p).2)].toArray),(26,.agg [o11,.int .i64 ((((Qu x p).1).graph).workers),.int .i64 ((((Qu x p).1).graph).cap),o12,o13,o14,o15].toArray),(27,.bool ((Qu x p).2)),(28,.agg [o1,.int .i64 x.graph.workers,.int .i64 x.graph.cap,o2,o3,o4,o5].toArray),(29,.agg [o16,.int .i64 x.graph.workers,.int .i64 x.graph.cap,o17,o18,o19,o20].toArray),(30,.tuple [.agg [o21,.int .i64 ((((Qu x p).1).graph).workers),.int .i64 ((((Qu x p).1).graph).cap),o22,o23,o24,o25].toArray,.bool ((Qu x p).2)].toArray),(31,.agg [o16,.int .i64 x.graph.workers,.int .i64 x.graph.cap,o17,o18,o19,o20].toArray),(32,.int .i64 p),(33,.tuple [.agg [o21,.int .i64 ((((Qu x p).1).graph).workers),.int .i64 ((((Qu x p).1).graph).cap),o22,o23,o24,o25].toArray,.bool ((Qu x p).2)].toArray),(34,.agg [o21,.int .i64 ((((Qu x p).1).graph).workers),.int .i64 ((((Qu x p).1).graph).cap),o22,o23,o24,o25].toArray),(35,.bool ((Qu x p).2)),(44,.bool ((!(decide ((Qu x p).1 = ((Qu x p).1)))) || (!(((Qu x p).2) == ((Qu x p).2))))),(45,.agg [o16,.int .i64 x.graph.workers,.int .i64 x.graph.cap,o17,o18,o19,o20].toArray),(46,.agg [o1,.int .i64 x.graph.workers,.int .i64 x.graph.cap,o2,o3,o4,o5].toArray),(47,.agg [o26,.int .i64 x.graph.workers,.int .i64 x.graph.cap,o27,o28,o29,o30].toArray),(48,.bool (decide (x = x))),(49,.bool (!(decide (x = x)))),(50,.agg [o16,.int .i64 x.graph.workers,.int .i64 x.graph.cap,o17,o18,o19,o20].toArray),(51,.int .i64 1),(52,.int .i64 ((Vb 1 x : Nat) : Int)),(65,.bool (((decide (((Vb 1 x : Nat) : Int) < 0)) || (!(decide ((Qu x p).1 = ((Qu x p).1))))) || (!(((Qu x p).2) == ((Qu x p).2)))))] (fun w'=>Ext w w' ∧ w18.heap.size ≤ w'.heap.size ∧ Blk w' b1 ([o1,.int .i64 x.graph.workers,.int .i64 x.graph.cap,o2,o3,o4,o5]) ∧ OwC w' w2.heap.size w3.heap.size o6 o7 o8 o9 o10 x ∧ RdD w' w3.heap.size w4.heap.size o11 ((((Qu x p).1).graph).nodes) ∧ RdD w' w3.heap.size w4.heap.size o12 (((Qu x p).1).workers) ∧ RdD w' w3.heap.size w4.heap.size o13 (((Qu x p).1).links) ∧ RdD w' w3.heap.size w4.heap.size o14 (((Qu x p).1).tokens) ∧ RdD w' w3.heap.size w4.heap.size o15 (((Qu x p).1).news) ∧ Blk w' b2 [o11,.int .i64 ((((Qu x p).1).graph).workers),.int .i64 ((((Qu x p).1).graph).cap),o12,o13,o14,o15] ∧ OwC w' w6.heap.size w7.heap.size o16 o17 o18 o19 o20 (Uj 1 x) ∧ Blk w' b3 [o16,.int .i64 x.graph.workers,.int .i64 x.graph.cap,o17,o18,o19,o20] ∧ OwC w' w9.heap.size w10.heap.size o21 o22 o23 o24 o25 ((Qu x p).1) ∧ Blk w' b4 [o21,.int .i64 ((((Qu x p).1).graph).workers),.int .i64 ((((Qu x p).1).graph).cap),o22,o23,o24,o25] ∧ OwC w' w15.heap.size w16.heap.size o26 o27 o28 o29 o30 x) ?_ ?_))))))))
  ·refine Y3 (gd:=55) Z Z (fun hg2=>?_) (fun hg2=>?_)
   ·exact absurd hg2 (by first | (simp;done) | (simp only [Qo] <;> simp) | (simp only [Qi,Qo] <;> simp) | (simp only [Qi] <;> simp))
   ·have hg2n : ¬ Vb 1 x < 0:=by first | (have h:=of_decide_eq_false hg2;omega) | (have h:=hg2;simp at h;omega)
    refine Qm Z Z (Qt X5 Z h4.at Z) Z (Qm Z Z (Qt X5 Z h2.at Z) Z ?_)
    refine Xp Z Z ?_
    refine Qv Tryz.call8 Z (c_eqCluster [o21,.int .i64 ((((Qu x p).1).graph).workers),.int .i64 ((((Qu x p).1).graph).cap),o22,o23,o24,o25] ((Qu x p).1) [o11,.int .i64 ((((Qu x p).1).graph).workers),.int .i64 ((((Qu x p).1).graph).cap),o12,o13,o14,o15] ((Qu x p).1) _ (Cluster.mkR ((Qu x p).1) (RdD.any (OwC.rd1 ho6)) (RdD.any (OwC.rd2 ho6)) (RdD.any (OwC.rd3 ho6)) (RdD.any (OwC.rd4 ho6)) (RdD.any (OwC.rd5 ho6))) (Cluster.mkR ((Qu x p).1) (RdD.any hd6) (RdD.any hd7) (RdD.any hd8) (RdD.any hd9) (RdD.any hd10))) Z (fun _ w20 e15 hv=>?_)
    subst hv
    replace E:=E.trans e15;replace h1:=h1.ext e15;replace ho1:=ho1.ext e15;replace hd6:=hd6.ext e15;replace hd7:=hd7.ext e15;replace hd8:=hd8.ext e15;replace hd9:=hd9.ext e15;replace hd10:=hd10.ext e15;replace h2:=h2.ext e15;replace ho4:=ho4.ext e15;replace h3:=h3.ext e15;replace ho6:=ho6.ext e15;replace h4:=h4.ext e15;replace ho7:=ho7.ext e15
    have z18:=e15.size
    refine Qm Z Z (Yq Z) Z (Qa (Qy Z Z) Z (Qa (Qc Z) Z ?_))
    refine Y3 (gd:=61) Z Z (fun hg3=>?_) (fun hg3=>?_)
    ·exact absurd hg3 (by first | (simp;done) | (simp only [Qo] <;> simp) | (simp only [Qi,Qo] <;> simp) | (simp only [Qi] <;> simp))
    ·refine Qm Z Z (Qc Z) Z (Qm Z Z (Qc Z) Z (Qm Z Z (Vf (Tryz.underlying4) Z Z) Z (Qa (Qy Z Z) Z (Qp ⟨Z,Z,Z,Z,Z,Z,Z,Z,Z,Z,Z,Z,Z,Z,Z,Z,Z,Z,Z,Z,Z,Z,Z,Z,Z,Z,Z,Z,Z,Z,Z,Z,Z,Z,Z,Z,Z,Z,Z,Z,congrArg (fun b=>some (Value.bool b)) (show (!(((Qu x p).2) == ((Qu x p).2))) = (((decide (((Vb 1 x : Nat) : Int) < 0)) || (!(decide ((Qu x p).1 = ((Qu x p).1))))) || (!(((Qu x p).2) == ((Qu x p).2)))) by first | (rw [hg2,hg3] <;> rfl) | (simp [hg2,hg3];done) | (simp only [Qo] <;> simp)),trivial⟩ ⟨E,(by omega),h1,ho1,hd6,hd7,hd8,hd9,hd10,h2,ho4,h3,ho6,h4,ho7⟩))))
  clear E h1 ho1 hd6 hd7 hd8 hd9 hd10 h2 ho4 h3 ho6 h4 ho7
  rintro w19 ⟨E,z19,h1,ho1,hd6,hd7,hd8,hd9,hd10,h2,ho4,h3,ho6,h4,ho7⟩
  refine Qd (Yy Z (by first | (simp;done) | (simp only [Qo] <;> simp) | (simp only [Qi,Qo] <;> simp) | (simp only [Qi] <;> simp)) (Qn (Qf (Qh [true] Z Z (Qa (Qe Z) Z (Qd (Qf (Qh [true,true,false,true] Z Z (Qa (Qt X5 Z h4.at Z) Z (Qa (Qc Z) Z (Kj Tryz.call9 Z Z (markCluster o21 o22 o23 o24 o25 w9.heap.size w10.heap.size ((Qu x p).1) 1 _ ho6 (by omega) (by omega)) Z (fun _ w21 e16 hv=>?_))))))))))))
  obtain ⟨rfl,ho6'⟩:=hv
  replace ho6:=ho6'
  replace E:=E.stepR e16 (by omega);replace h1:=h1.modR e16 (by omega);replace ho1:=ho1.modR e16 (by omega);replace hd6:=hd6.modR e16 (by omega);replace hd7:=hd7.modR e16 (by omega);replace hd8:=hd8.modR e16 (by omega);replace hd9:=hd9.modR e16 (by omega);replace hd10:=hd10.modR e16 (by omega);replace h2:=h2.modR e16 (by omega);replace ho4:=ho4.modR e16 (by omega);replace h3:=h3.modR e16 (by omega);replace h4:=h4.modR e16 (by omega);replace ho7:=ho7.modR e16 (by omega)
  have z20:=e16.size
  refine Qa (Qe Z) Z (Qd (Qf (Qh [true] Z Z (Qa (Qe Z) Z (Qd (Qf (Qh [true,true,false,true] Z Z (Qa (Qt X5 Z h4.at Z) Z (Qa (Qc Z) Z (Qv Tryz.call10 Z (heldCluster [o21,.int .i64 ((((Qu x p).1).graph).workers),.int .i64 ((((Qu x p).1).graph).cap),o22,o23,o24,o25] (Uj 1 ((Qu x p).1)) 1 _ (Cluster.mkR (Uj 1 ((Qu x p).1)) (RdD.any (OwC.rd1 ho6)) (RdD.any (OwC.rd2 ho6)) (RdD.any (OwC.rd3 ho6)) (RdD.any (OwC.rd4 ho6)) (RdD.any (OwC.rd5 ho6))) (Bi _ _) (by rw [Dr];omega)) Z (fun _ w22 e17 hv=>?_)))))))))))
  subst hv
  replace E:=E.trans e17;replace h1:=h1.ext e17;replace ho1:=ho1.ext e17;replace hd6:=hd6.ext e17;replace hd7:=hd7.ext e17;replace hd8:=hd8.ext e17;replace hd9:=hd9.ext e17;replace hd10:=hd10.ext e17;replace h2:=h2.ext e17;replace ho4:=ho4.ext e17;replace h3:=h3.ext e17;replace ho6:=ho6.ext e17;replace h4:=h4.ext e17;replace ho7:=ho7.ext e17
  have z21:=e17.size
  refine Qa (Qe Z) Z (Qd (Qf (Qf (Qh [true,true] Z Z (Qa (Qc Z) Z (Qa (Yf Z Z) Z (Qd (Yy Z (by first | (simp;done) | (simp only [Qo] <;> simp) | (simp only [Qi,Qo] <;> simp) | (simp only [Qi] <;> simp)) (Qn (Qf (Qf (Qh [true,true,true] Z Z (Qa (Qc Z) Z (Qa (Qc Z) Z (Qa (Yu Z Z) Z (Qd (Yy Z (by rw [Db];simp) (Qn (Qf (Qh [true,false,true,false,true,true,true,false,false,true] Z Z (Qa (Qt st30 Z h1.at Z) Z (Qv Tryz.call6 Z (c_toCluster [o1,.int .i64 x.graph.workers,.int .i64 x.graph.cap,o2,o3,o4,o5] x _ (Cluster.mkR x (RdD.any (hd1.ext E)) (RdD.any (hd2.ext E)) (RdD.any (hd3.ext E)) (RdD.any (hd4.ext E)) (RdD.any (hd5.ext E))) (by first | omega | (simp only [Qi];omega) | (rw [Qi];done) | (simp only [Qi];done))) Z (fun _ w23 e18 ho8=>?_)))))))))))))))))))))))
  obtain ⟨o31,o32,o33,o34,o35,rfl,ho8⟩:=ho8
  have g_ho8 : w.heap.size ≤ w22.heap.size:=E.size
  replace E:=E.trans e18;replace h1:=h1.ext e18;replace ho1:=ho1.ext e18;replace hd6:=hd6.ext e18;replace hd7:=hd7.ext e18;replace hd8:=hd8.ext e18;replace hd9:=hd9.ext e18;replace hd10:=hd10.ext e18;replace h2:=h2.ext e18;replace ho4:=ho4.ext e18;replace h3:=h3.ext e18;replace ho6:=ho6.ext e18;replace h4:=h4.ext e18;replace ho7:=ho7.ext e18
  have z22:=e18.size
  refine Qa (Qc Z) Z (Qv Tryz.call7 Z (c_PickWork [o31,.int .i64 x.graph.workers,.int .i64 x.graph.cap,o32,o33,o34,o35] x p _ (Cluster.mkR x (RdD.any (OwC.rd1 ho8)) (RdD.any (OwC.rd2 ho8)) (RdD.any (OwC.rd3 ho8)) (RdD.any (OwC.rd4 ho8)) (RdD.any (OwC.rd5 ho8))) (by omega) (fun l hl=>(kx.2.2.1 l hl).2.2.2.2.2)) Z (fun _ w24 e19 ho9=>?_))
  obtain ⟨o36,o37,o38,o39,o40,rfl,ho10⟩:=ho9
  have g_ho9 : w.heap.size ≤ w23.heap.size:=E.size
  replace E:=E.trans e19;replace h1:=h1.ext e19;replace ho1:=ho1.ext e19;replace hd6:=hd6.ext e19;replace hd7:=hd7.ext e19;replace hd8:=hd8.ext e19;replace hd9:=hd9.ext e19;replace hd10:=hd10.ext e19;replace h2:=h2.ext e19;replace ho4:=ho4.ext e19;replace h3:=h3.ext e19;replace ho6:=ho6.ext e19;replace h4:=h4.ext e19;replace ho7:=ho7.ext e19;replace ho8:=ho8.ext e19
  have z23:=e19.size
  refine Qa (Qc Z) Z (Qa (Yv Z Z) Z (Qa (Yv Z Z) Z (Yk X5 Z (fun b5 w25 e20 s5 h5=>?_))))
  have g_b5 : w.heap.size ≤ b5:=by have:=E.size;omega
  have y_b5:=h5.lt
  replace E:=E.trans e20;replace h1:=h1.ext e20;replace ho1:=ho1.ext e20;replace hd6:=hd6.ext e20;replace hd7:=hd7.ext e20;replace hd8:=hd8.ext e20;replace hd9:=hd9.ext e20;replace hd10:=hd10.ext e20;replace h2:=h2.ext e20;replace ho4:=ho4.ext e20;replace h3:=h3.ext e20;replace ho6:=ho6.ext e20;replace h4:=h4.ext e20;replace ho7:=ho7.ext e20;replace ho8:=ho8.ext e20;replace ho10:=ho10.ext e20
  have z24:=e20.size
  refine Q6 (cs':=[o36,.int .i64 ((((Qu x p).1).graph).workers),.int .i64 ((((Qu x p).1).graph).cap),o37,o38,o39,o40]) X5 Z Z Z (Qk (RdD.one (OwC.rd1 ho10)) (Qk Z (Qk Z (Qk (RdD.one (OwC.rd2 ho10)) (Qk (RdD.one (OwC.rd3 ho10)) (Qk (RdD.one (OwC.rd4 ho10)) (Qk (RdD.one (OwC.rd5 ho10)) Z))))))) h5 (Nat.le_of_ble_eq_true Z) Z (fun w26 m4 h5'=>?_)
  replace h5:=h5'
  replace E:=E.step m4 (fun g hg=>by cases hg;omega);replace h1:=h1.mod m4 (fun g hg=>by cases hg;omega);replace ho1:=ho1.mod m4 (fun g hg=>by cases hg;omega);replace hd6:=hd6.mod m4 (fun g hg=>by cases hg;omega);replace hd7:=hd7.mod m4 (fun g hg=>by cases hg;omega);replace hd8:=hd8.mod m4 (fun g hg=>by cases hg;omega);replace hd9:=hd9.mod m4 (fun g hg=>by cases hg;omega);replace hd10:=hd10.mod m4 (fun g hg=>by cases hg;omega);replace h2:=h2.mod m4 (fun g hg=>by cases hg;omega);replace ho4:=ho4.mod m4 (fun g hg=>by cases hg;omega);replace h3:=h3.mod m4 (fun g hg=>by cases hg;omega);replace ho6:=ho6.mod m4 (fun g hg=>by cases hg;omega);replace h4:=h4.mod m4 (fun g hg=>by cases hg;omega);replace ho7:=ho7.mod m4 (fun g hg=>by cases hg;omega);replace ho8:=ho8.mod m4 (fun g hg=>by cases hg;omega);replace ho10:=ho10.mod m4 (fun g hg=>by cases hg;omega)
  have z25:=m4.size
  refine Qa (Qe Z) Z (Qd (Qf (Qf (Qh [true,true,false,true,true,true,true,true,true] Z Z (Qa (Qt X5 Z h5.at Z) Z (Qa (Qt X5 Z h2.at Z) Z (Qv Tryz.call8 Z (c_eqCluster [o36,.int .i64 ((((Qu x p).1).graph).workers),.int .i64 ((((Qu x p).1).graph).cap),o37,o38,o39,o40] ((Qu x p).1) [o11,.int .i64 ((((Qu x p).1).graph).workers),.int .i64 ((((Qu x p).1).graph).cap),o12,o13,o14,o15] ((Qu x p).1) _ (Cluster.mkR ((Qu x p).1) (RdD.any (OwC.rd1 ho10)) (RdD.any (OwC.rd2 ho10)) (RdD.any (OwC.rd3 ho10)) (RdD.any (OwC.rd4 ho10)) (RdD.any (OwC.rd5 ho10))) (Cluster.mkR ((Qu x p).1) (RdD.any hd6) (RdD.any hd7) (RdD.any hd8) (RdD.any hd9) (RdD.any hd10))) Z (fun _ w27 e21 hv=>?_))))))))
  subst hv
  replace E:=E.trans e21;replace h1:=h1.ext e21;replace ho1:=ho1.ext e21;replace hd6:=hd6.ext e21;replace hd7:=hd7.ext e21;replace hd8:=hd8.ext e21;replace hd9:=hd9.ext e21;replace hd10:=hd10.ext e21;replace h2:=h2.ext e21;replace ho4:=ho4.ext e21;replace h3:=h3.ext e21;replace ho6:=ho6.ext e21;replace h4:=h4.ext e21;replace ho7:=ho7.ext e21;replace ho8:=ho8.ext e21;replace ho10:=ho10.ext e21;replace h5:=h5.ext e21
  have z26:=e21.size
  refine Qa (Yq Z) Z (Qa (Qc Z) Z (Y7 4 [(0,.agg [o1,.int .i64 x.graph.workers,.int .i64 x.graph.cap,o2,o3,o4,o5].toArray),(1,.int .i64 p),(2,.pointer (some ⟨b1,0,none⟩)),(4,.bool false),(5,.int .i64 (Up (Yg x) 1048576)),(6,.pointer (some ⟨b2,0,none⟩)),(7,.bool ((Qu x p).2)),(8,.pointer (some ⟨b3,0,none⟩)),(9,.pointer (some ⟨b4,0,none⟩)),(10,.bool ((Qu x p).2)),(11,.int .i64 ((Vb 1 x : Nat) : Int)),(12,.int .i64 ((Vb 1 ((Qu x p).1) : Nat) : Int)),(13,.int .i64 ((Vb 1 (Uj 1 ((Qu x p).1)) : Nat) : Int)),(14,.pointer (some ⟨b5,0,none⟩)),(15,.bool ((Qu x p).2)),(16,.agg [o1,.int .i64 x.graph.workers,.int .i64 x.graph.cap,o2,o3,o4,o5].toArray),(17,.int .i64 1048576),(18,.int .i64 (Up (Yg x) 1048576)),(19,.int .i64 (Up (Yg x) 1048576)),(20,.bool (decide ((Up (Yg x) 1048576) < 0))),(21,.tuple [.agg [o11,.int .i64 ((((Qu x p).1).graph).workers),.int .i64 ((((Qu x p).1).graph).cap),o12,o13,o14,o15].toArray,.bool ((Qu x p).2)].toArray),(22,.agg [o1,.int .i64 x.graph.workers,.int .i64 x.graph.cap,o2,o3,o4,o5].toArray),(23,.agg [o6,.int .i64 x.graph.workers,.int .i64 x.graph.cap,o7,o8,o9,o10].toArray),(24,.int .i64 p),(25,.tuple [.agg [o11,.int .i64 ((((Qu x p).1).graph).workers),.int .i64 ((((Qu x p).1).graph).cap),o12,o13,o14,o15].toArray,.bool ((Qu x p).2)].toArray),(26,.agg [o11,.int .i64 ((((Qu x p).1).graph).workers),.int .i64 ((((Qu x p).1).graph).cap),o12,o13,o14,o15].toArray),(27,.bool ((Qu x p).2)),(28,.agg [o1,.int .i64 x.graph.workers,.int .i64 x.graph.cap,o2,o3,o4,o5].toArray),(29,.agg [o16,.int .i64 x.graph.workers,.int .i64 x.graph.cap,o17,o18,o19,o20].toArray),(30,.tuple [.agg [o21,.int .i64 ((((Qu x p).1).graph).workers),.int .i64 ((((Qu x p).1).graph).cap),o22,o23,o24,o25].toArray,.bool ((Qu x p).2)].toArray),(31,.agg [o16,.int .i64 x.graph.workers,.int .i64 x.graph.cap,o17,o18,o19,o20].toArray),(32,.int .i64 p),(33,.tuple [.agg [o21,.int .i64 ((((Qu x p).1).graph).workers),.int .i64 ((((Qu x p).1).graph).cap),o22,o23,o24,o25].toArray,.bool ((Qu x p).2)].toArray),(34,.agg [o21,.int .i64 ((((Qu x p).1).graph).workers),.int .i64 ((((Qu x p).1).graph).cap),o22,o23,o24,o25].toArray),(35,.bool ((Qu x p).2)),(44,.bool ((!(decide ((Qu x p).1 = ((Qu x p).1)))) || (!(((Qu x p).2) == ((Qu x p).2))))),(45,.agg [o16,.int .i64 x.graph.workers,.int .i64 x.graph.cap,o17,o18,o19,o20].toArray),(46,.agg [o1,.int .i64 x.graph.workers,.int .i64 x.graph.cap,o2,o3,o4,o5].toArray),(47,.agg [o26,.int .i64 x.graph.workers,.int .i64 x.graph.cap,o27,o28,o29,o30].toArray),(48,.bool (decide (x = x))),(49,.bool (!(decide (x = x)))),(50,.agg [o16,.int .i64 x.graph.workers,.int .i64 x.graph.cap,o17,o18,o19,o20].toArray),(51,.int .i64 1),(52,.int .i64 ((Vb 1 x : Nat) : Int)),(65,.bool (((decide (((Vb 1 x : Nat) : Int) < 0)) || (!(decide ((Qu x p).1 = ((Qu x p).1))))) || (!(((Qu x p).2) == ((Qu x p).2))))),(66,.agg [o21,.int .i64 ((((Qu x p).1).graph).workers),.int .i64 ((((Qu x p).1).graph).cap),o22,o23,o24,o25].toArray),(67,.int .i64 1),(68,.int .i64 ((Vb 1 ((Qu x p).1) : Nat) : Int)),(69,.agg [o21,.int .i64 ((((Qu x p).1).graph).workers),.int .i64 ((((Qu x p).1).graph).cap),o22,o23,o24,o25].toArray),(70,.int .i64 1),(71,.int .i64 ((Vb 1 (Uj 1 ((Qu x p).1)) : Nat) : Int)),(72,.int .i64 ((Vb 1 (Uj 1 ((Qu x p).1)) : Nat) : Int)),(73,.bool (decide (((Vb 1 (Uj 1 ((Qu x p).1)) : Nat) : Int) < 0))),(74,.int .i64 ((Vb 1 (Uj 1 ((Qu x p).1)) : Nat) : Int)),(75,.int .i64 ((Vb 1 ((Qu x p).1) : Nat) : Int)),(76,.bool (((Vb 1 (Uj 1 ((Qu x p).1)) : Nat) : Int) != ((Vb 1 ((Qu x p).1) : Nat) : Int))),(77,.tuple [.agg [o36,.int .i64 ((((Qu x p).1).graph).workers),.int .i64 ((((Qu x p).1).graph).cap),o37,o38,o39,o40].toArray,.bool ((Qu x p).2)].toArray),(78,.agg [o1,.int .i64 x.graph.workers,.int .i64 x.graph.cap,o2,o3,o4,o5].toArray),(79,.agg [o31,.int .i64 x.graph.workers,.int .i64 x.graph.cap,o32,o33,o34,o35].toArray),(80,.int .i64 p),(81,.tuple [.agg [o36,.int .i64 ((((Qu x p).1).graph).workers),.int .i64 ((((Qu x p).1).graph).cap),o37,o38,o39,o40].toArray,.bool ((Qu x p).2)].toArray),(82,.agg [o36,.int .i64 ((((Qu x p).1).graph).workers),.int .i64 ((((Qu x p).1).graph).cap),o37,o38,o39,o40].toArray),(83,.bool ((Qu x p).2)),(92,.bool ((!(decide ((Qu x p).1 = ((Qu x p).1)))) || (!(((Qu x p).2) == ((Qu x p).2)))))] (fun w'=>w27 = w') ?_ ?_))
  ·refine Y3 (gd:=88) Z Z (fun hg4=>?_) (fun hg4=>?_)
   ·exact absurd hg4 (by first | (simp;done) | (simp only [Qo] <;> simp) | (simp only [Qi,Qo] <;> simp) | (simp only [Qi] <;> simp))
   ·refine Qm Z Z (Qc Z) Z (Qm Z Z (Qc Z) Z (Qm Z Z (Vf (Tryz.underlying4) Z Z) Z (Qa (Qy Z Z) Z (Qp ⟨Z,Z,Z,Z,Z,Z,Z,Z,Z,Z,Z,Z,Z,Z,Z,Z,Z,Z,Z,Z,Z,Z,Z,Z,Z,Z,Z,Z,Z,Z,Z,Z,Z,Z,Z,Z,Z,Z,Z,Z,Z,Z,Z,Z,Z,Z,Z,Z,Z,Z,Z,Z,Z,Z,Z,Z,Z,Z,Z,Z,Z,Z,Z,congrArg (fun b=>some (Value.bool b)) (show (!(((Qu x p).2) == ((Qu x p).2))) = ((!(decide ((Qu x p).1 = ((Qu x p).1)))) || (!(((Qu x p).2) == ((Qu x p).2)))) by first | (rw [hg4] <;> rfl) | (simp [hg4];done) | (simp only [Qo] <;> simp)),trivial⟩ Z))))
  rintro _ rfl
  refine Qd (Yy Z (by first | (simp;done) | (simp only [Qo] <;> simp) | (simp only [Qi,Qo] <;> simp) | (simp only [Qi] <;> simp)) (Qn (Qf (Qh [true] Z Z (Qa (Qe Z) Z (Qd (Qf (Qh [true,true,false,true] Z Z (Qa (Qt X5 Z h4.at Z) Z (Qa (Qc Z) Z (Qv Tryz.call10 Z (heldCluster [o21,.int .i64 ((((Qu x p).1).graph).workers),.int .i64 ((((Qu x p).1).graph).cap),o22,o23,o24,o25] (Uj 1 ((Qu x p).1)) 1 _ (Cluster.mkR (Uj 1 ((Qu x p).1)) (RdD.any (OwC.rd1 ho6)) (RdD.any (OwC.rd2 ho6)) (RdD.any (OwC.rd3 ho6)) (RdD.any (OwC.rd4 ho6)) (RdD.any (OwC.rd5 ho6))) (Bi _ _) (by rw [Dr];omega)) Z (fun _ w29 e22 hv=>?_))))))))))))
  subst hv
  replace E:=E.trans e22;replace h1:=h1.ext e22;replace ho1:=ho1.ext e22;replace hd6:=hd6.ext e22;replace hd7:=hd7.ext e22;replace hd8:=hd8.ext e22;replace hd9:=hd9.ext e22;replace hd10:=hd10.ext e22;replace h2:=h2.ext e22;replace ho4:=ho4.ext e22;replace h3:=h3.ext e22;replace ho6:=ho6.ext e22;replace h4:=h4.ext e22;replace ho7:=ho7.ext e22;replace ho8:=ho8.ext e22;replace ho10:=ho10.ext e22;replace h5:=h5.ext e22
  have z27:=e22.size
  refine Qa (Qe Z) Z (Qd (Qf (Qf (Qh [true,true] Z Z (Qa (Qc Z) Z (Qa (Yf Z Z) Z (Qd (Yy Z (by first | (simp;done) | (simp only [Qo] <;> simp) | (simp only [Qi,Qo] <;> simp) | (simp only [Qi] <;> simp)) (Qn (Qf (Qf (Qh [true,true,true] Z Z (Qa (Qc Z) Z (Qa (Qc Z) Z (Qa (Yu Z Z) Z (Qd (Yy Z (by rw [Db];simp) (Qn (Qf (Qh [true] Z Z (Qa (Qe Z) Z (Qd (Qw (Ql Z Z E ?_))))))))))))))))))))))))
  rfl

end Go.Proofs.YtaangeddnfnhdaaGreat
