/- What the functions that the laws call come to: a contract each; no condition. -/
import Derived.Test.YtjpoipdddpmeiaaGreatFns3
namespace Go.Proofs.YtjpoipdddpmeiaaGreat
open Go Go.Proofs.YtjpoipdddpmeiaaGreat.X Go.Proofs
set_option maxHeartbeats 4000000 in
set_option maxRecDepth 20000 in
theorem c_ClusterOk (cx : List Value) (x : Cluster) (w : World) (hx : Dat.R w 0 w.heap.size cx x) (hok : ∀ l ∈ x.links,rg l.got) : Ct Tryz.prog 69 [.agg cx.toArray] w (fun v _=>v = .bool (Kf x)):=by
 refine Ym Tryz.func69 Z Tryz.ntmps69 Z ?_
 obtain ⟨o1,o2,o3,o4,o5,rfl,hd1,hd2,hd3,hd4,hd5⟩:=Cluster.op hx
 refine Q8 [(0,.agg [o1,.int .i64 x.graph.workers,.int .i64 x.graph.cap,o2,o3,o4,o5].toArray)] ⟨Z,trivial⟩ ?_
 have E : Ext w w:=Ext.refl w
 refine Qe (Qh [false,true] Z Z (Y1 Z Z (fun b1 w1 e1 s1 h1=>?_)))
 have g_b1 : w.heap.size ≤ b1:=by have:=E.size;omega
 have y_b1:=h1.lt
 replace E:=E.trans e1
 have z1:=e1.size
 refine Qa (Qf Z) Z (Qc (Qe (Qh [true,true,true,true] Z Z (Qa (Qb Ue Z) Z (Qa (Qb Vf Z) Z (Qa (Qk Yt Z (h1.one 1 Z)) Z (Qa (Qf Z) Z (Qc (Qe (Qe (Qh [true,true,false,true,true,true,true,true,true,true,true,true,true,true,true,true,true,true,true,true,true,true,true,true,true,true] Z Z (Qa (Qb Ue Z) Z (Qa (Qy Uq Z (h1.part 0 [o1,.int .i64 x.graph.workers,.int .i64 x.graph.cap] Z) Z) Z (Qw Tryz.call116 Z (c_GraphOk [o1,.int .i64 x.graph.workers,.int .i64 x.graph.cap] x.graph _ (Graph.mkR x.graph (RdD.any (hd1.ext E)))) Z (fun _ w2 e2 hv=>?_)))))))))))))))
 subst hv
 replace E:=E.trans e2;replace h1:=h1.ext e2
 have z2:=e2.size
 refine Qa (Yy Z) Z (Qa (Qd Z) Z (Xf 21 [(0,.agg [o1,.int .i64 x.graph.workers,.int .i64 x.graph.cap,o2,o3,o4,o5].toArray),(1,.pointer (some ⟨b1,0,none⟩)),(2,.bool false),(3,.int .i64 x.graph.workers),(12,.pointer (some ⟨b1,0,none⟩)),(13,.pointer (some ⟨b1,1,none⟩)),(14,.int .i64 x.graph.workers),(40,.bool ((((!(Xb x.graph)) || (((x.workers.length : Nat) : Int) != x.graph.workers)) || (((x.links.length : Nat) : Int) != (IntKind.i64.wrap (x.graph.workers * x.graph.workers)))) || (((x.tokens.length : Nat) : Int) != 4)))] (fun w'=>w2 = w') ?_ ?_))
 ·refine Y4 (gd:=19) Z Z (fun hg1=>?_) (fun hg1=>?_)
  ·refine Qg Z Z Z Z (Qg Z Z Z Z (Qg Z Z Z Z (Qg Z Z Z Z (Qg Z Z Z Z (Qa (Qx Z Z) Z (Qa (Qd Z) Z (Qg Z Z Z Z (Qg Z Z Z Z (Qg Z Z Z Z (Qg Z Z Z Z (Qg Z Z Z Z (Qg Z Z Z Z (Qg Z Z Z Z (Qa (Qx Z Z) Z (Qa (Qd Z) Z (Qg Z Z Z Z (Qg Z Z Z Z (Qg Z Z Z Z (Qg Z Z Z Z (Qa (Qx Z Z) Z (Qr ⟨Z,Z,Z,Z,Z,Z,Z,congrArg (fun b=>some (Value.bool b)) (show true = ((((!(Xb x.graph)) || (((x.workers.length : Nat) : Int) != x.graph.workers)) || (((x.links.length : Nat) : Int) != (IntKind.i64.wrap (x.graph.workers * x.graph.workers)))) || (((x.tokens.length : Nat) : Int) != 4)) by first | (rw [hg1] <;> rfl) | (simp [hg1];done) | (simp only [Qq] <;> simp)),trivial⟩ Z)))))))))))))))))))))
  ·refine Qn Z Z (Qb Xn Z) Z (Qn Z Z (Qk Uy Z (h1.one 3 Z)) Z (Qn Z Z (Yc Tryz.underlying35 Z (hd2.ext E).len) Z (Qn Z Z (Qd Z) Z (Qn Z Z (Yu Z Z) Z (Qa (Q1 Z Z) Z (Qa (Qd Z) Z ?_))))))
   refine Y4 (gd:=26) Z Z (fun hg2=>?_) (fun hg2=>?_)
   ·refine Qg Z Z Z Z (Qg Z Z Z Z (Qg Z Z Z Z (Qg Z Z Z Z (Qg Z Z Z Z (Qg Z Z Z Z (Qg Z Z Z Z (Qa (Qx Z Z) Z (Qa (Qd Z) Z (Qg Z Z Z Z (Qg Z Z Z Z (Qg Z Z Z Z (Qg Z Z Z Z (Qa (Qx Z Z) Z (Qr ⟨Z,Z,Z,Z,Z,Z,Z,congrArg (fun b=>some (Value.bool b)) (show true = ((((!(Xb x.graph)) || (((x.workers.length : Nat) : Int) != x.graph.workers)) || (((x.links.length : Nat) : Int) != (IntKind.i64.wrap (x.graph.workers * x.graph.workers)))) || (((x.tokens.length : Nat) : Int) != 4)) by first | (rw [hg1,hg2] <;> rfl) | (simp [hg1,hg2];done) | (simp only [Qq] <;> simp)),trivial⟩ Z))))))))))))))
   ·refine Qn Z Z (Qb Ko Z) Z (Qn Z Z (Qk Gh Z (h1.one 4 Z)) Z (Qn Z Z (Yc Tryz.underlying36 Z (hd3.ext E).len) Z (Qn Z Z (Qd Z) Z (Qn Z Z (Qd Z) Z (Qn Z Z (R_mul Z Z Z) Z (Qn Z Z (Yu Z Z) Z (Qa (Q1 Z Z) Z (Qa (Qd Z) Z ?_))))))))
    refine Y4 (gd:=35) Z Z (fun hg3=>?_) (fun hg3=>?_)
    ·refine Qg Z Z Z Z (Qg Z Z Z Z (Qg Z Z Z Z (Qg Z Z Z Z (Qa (Qx Z Z) Z (Qr ⟨Z,Z,Z,Z,Z,Z,Z,congrArg (fun b=>some (Value.bool b)) (show true = ((((!(Xb x.graph)) || (((x.workers.length : Nat) : Int) != x.graph.workers)) || (((x.links.length : Nat) : Int) != (IntKind.i64.wrap (x.graph.workers * x.graph.workers)))) || (((x.tokens.length : Nat) : Int) != 4)) by first | (rw [hg1,hg2,hg3] <;> rfl) | (simp [hg1,hg2,hg3];done) | (simp only [Qq] <;> simp)),trivial⟩ Z)))))
    ·refine Qn Z Z (Qb Ve Z) Z (Qn Z Z (Qk Co Z (h1.one 5 Z)) Z (Qn Z Z (Yc Tryz.underlying37 Z (hd4.ext E).len) Z (Qn Z Z (Yu Z Z) Z (Qa (Q1 Z Z) Z (Qr ⟨Z,Z,Z,Z,Z,Z,Z,congrArg (fun b=>some (Value.bool b)) (show (((x.tokens.length : Nat) : Int) != 4) = ((((!(Xb x.graph)) || (((x.workers.length : Nat) : Int) != x.graph.workers)) || (((x.links.length : Nat) : Int) != (IntKind.i64.wrap (x.graph.workers * x.graph.workers)))) || (((x.tokens.length : Nat) : Int) != 4)) by first | (rw [hg1,hg2,hg3] <;> rfl) | (simp [hg1,hg2,hg3];done) | (simp only [Qq] <;> simp)),trivial⟩ Z)))))
 rintro _ rfl
 refine Qc (Qt Z (fun hc1=>?_) (fun hc1=>?_))
 ·refine Qe (Qh [true] Z Z (Qa (Qf Z) Z (Qc (Qv (Qm Z Z E ?_)))))
  exact cl_0 hc1
 ·have hgw:=cl_g hc1
  have hlw:=cl_w hc1
  refine Qo (Qe (Qe (Qh [true,true,true,true] Z Z (Qa (Qb Xn Z) Z (Qa (Qk Uy Z (h1.one 3 Z)) Z (Qa (Yc Tryz.underlying35 Z (hd2.ext E).len) Z (Qa (Qd Z) Z (Qc (Q0 (Yp (fun (k : Nat)=>[(1,.pointer (some ⟨b1,0,none⟩)),(2,.bool false),(3,.int .i64 x.graph.workers),(42,o2),(43,.int .i64 ((x.workers.length : Nat) : Int)),(44,.int .i64 ((k : Nat) : Int))]) (fun (k : Nat) w'=>Ext w w' ∧ w2.heap.size ≤ w'.heap.size ∧ Blk w' b1 ([o1,.int .i64 x.graph.workers,.int .i64 x.graph.cap,o2,o3,o4,o5]) ∧ k ≤ x.workers.length ∧ (x.workers.take k).all (Xd x.graph) = true) (fun (k : Nat)=>x.workers.length - k) 0 ⟨Z,Z,Z,Z,Z,Z,trivial⟩ ⟨E,Nat.le_refl _,h1,Nat.zero_le _,Z⟩ ?_))))))))))
  clear E h1
  rintro k w4 ⟨E,z3,h1,hk,hI1⟩
  have hmw:=hd2.1.1
  unfold maxLen at hmw
  refine Qe (Qh [true] Z Z (Qa (Yi Z Z) Z (Qc (Qe (Qt Z (fun hc2=>?_) (fun hc2=>?_))))))
  ·have hc2n : k < x.workers.length:=by first | (have h:=of_decide_eq_true hc2;omega) | (have h:=hc2;simp at h;omega)
   refine Qo (Qe (Q0 (Qe (Qh [true,true,false,false] Z Z ?_))))
   have hi1 : k < x.workers.length:=(by first | assumption | omega | (simp only [List.length_set];first | assumption | omega) | (simp only [List.getElem_set_self,List.length_set];first | assumption | omega) | (simp only [Yn,Yh,List.length_set];first | assumption | omega))
   obtain ⟨_,hr1,ha1⟩:=RdD.get hd2 hi1
   obtain ⟨o6,o7,o8,o9,o10,o11,o12,o13,rfl,hd6,hd7,hd8,hd9,hd10,hd11,hd12,hd13⟩:=Worker.op hr1
   replace ha1 : At w (Y6 o2) (Y8 o2 + k * 8) [o6,o7,o8,o9,o10,o11,o12,o13]:=ha1
   refine Qa (Qz (i:=k) K5 Z Z (hd2.ext E).1 hi1) Z (Qa (Qy X8 Z (ha1.ext E) Z) Z (Yo X8 Z (fun b2 w5 e3 s2 h2=>?_)))
   have g_b2 : w.heap.size ≤ b2:=by have:=E.size;omega
   have y_b2:=h2.lt
   replace E:=E.trans e3;replace h1:=h1.ext e3
   have z4:=e3.size
   refine Q4 (cs':=[o6,o7,o8,o9,o10,o11,o12,o13]) X8 Z Z Z (Qj (RdD.one (hd6.ext E)) (Qj (RdD.one (hd7.ext E)) (Qj (RdD.one (hd8.ext E)) (Qj (RdD.one (hd9.ext E)) (Qj (RdD.one (hd10.ext E)) (Qj (RdD.one (hd11.ext E)) (Qj (RdD.one (hd12.ext E)) (Qj (RdD.one (hd13.ext E)) Z)))))))) h2 (Nat.le_of_ble_eq_true Z) Z (fun w6 m1 h2'=>?_)
   replace h2:=h2'
   replace E:=E.step m1 (fun g hg=>by cases hg;omega);replace h1:=h1.mod m1 (fun g hg=>by cases hg;omega)
   have z5:=m1.size
   refine Qc (Qe (Qh [true,true,true,false,true] Z Z (Qa (Qb Ue Z) Z (Qa (Qy Uq Z (h1.part 0 [o1,.int .i64 x.graph.workers,.int .i64 x.graph.cap] Z) Z) Z (Qa (Qy X8 Z h2.at Z) Z (Qw Tryz.call117 Z (c_WorkerOk [o1,.int .i64 x.graph.workers,.int .i64 x.graph.cap] x.graph [o6,o7,o8,o9,o10,o11,o12,o13] (x.workers[k]'hi1) _ (Graph.mkR x.graph (RdD.any (hd1.ext E))) (Worker.mkR (x.workers[k]'hi1) (RdD.any (hd6.ext E)) (RdD.any (hd7.ext E)) (RdD.any (hd8.ext E)) (RdD.any (hd9.ext E)) (RdD.any (hd10.ext E)) (RdD.any (hd11.ext E)) (RdD.any (hd12.ext E)) (RdD.any (hd13.ext E)))) Z (fun _ w7 e4 hv=>?_)))))))
   subst hv
   replace E:=E.trans e4;replace h1:=h1.ext e4;replace h2:=h2.ext e4
   have z6:=e4.size
   refine Qa (Yy Z) Z (Qc (Qt Z (fun hc3=>?_) (fun hc3=>?_)))
   ·refine Qe (Qh [true] Z Z (Qa (Qf Z) Z (Qc (Qv (Q2 (Yv (Q2 (Qm Z Z E ?_))))))))
    exact cl_1 (by assumption) (by simpa using hc3)
   ·refine Qo (Q6 (Y0 (Qh [true,true] Z Z (Qa (Ye Z Z (Yg (by unfold maxLen;omega))) Z (Qa (Qd Z) Z (Qc (Q6 (Yk (k + 1) (by omega) ⟨Z,Z,Z,Z,Z,Z,trivial⟩ ⟨E,(by omega),h1,(by omega),Kh hI1 (by assumption) (by simpa using hc3)⟩))))))))
  ·have hc2n : ¬ k < x.workers.length:=by first | (have h:=of_decide_eq_false hc2;omega) | (have h:=hc2;simp at h;omega)
   refine Yq (Q5 (Q3 ?_))
   refine Qe (Qe (Qh [true,true,true,true] Z Z (Qa (Qb Ko Z) Z (Qa (Qk Gh Z (h1.one 4 Z)) Z (Qa (Yc Tryz.underlying36 Z (hd3.ext E).len) Z (Qa (Qd Z) Z (Qc (Q0 (Yp (fun (k : Nat)=>[(1,.pointer (some ⟨b1,0,none⟩)),(2,.bool false),(3,.int .i64 x.graph.workers),(55,o3),(56,.int .i64 ((x.links.length : Nat) : Int)),(57,.int .i64 ((k : Nat) : Int))]) (fun (k : Nat) w'=>Ext w w' ∧ w4.heap.size ≤ w'.heap.size ∧ Blk w' b1 ([o1,.int .i64 x.graph.workers,.int .i64 x.graph.cap,o2,o3,o4,o5]) ∧ k ≤ x.links.length ∧ Ho k (fun j=>!A3 x.graph j (List.getD x.links j default)) = true) (fun (k : Nat)=>x.links.length - k) 0 ⟨Z,Z,Z,Z,Z,Z,trivial⟩ ⟨E,Nat.le_refl _,h1,Nat.zero_le _,Z⟩ ?_)))))))))
   clear E h1
   rintro k w8 ⟨E,z7,h1,hk,hI2⟩
   have hml:=hd3.1.1
   unfold maxLen at hml
   refine Qe (Qh [true] Z Z (Qa (Yi Z Z) Z (Qc (Qe (Qt Z (fun hc4=>?_) (fun hc4=>?_))))))
   ·have hc4n : k < x.links.length:=by first | (have h:=of_decide_eq_true hc4;omega) | (have h:=hc4;simp at h;omega)
    refine Qo (Qe (Q0 (Qe (Qh [true,true,true,false,true,false] Z Z (Qa (Qd Z) Z ?_)))))
    have hi2 : k < x.links.length:=(by first | assumption | omega | (simp only [List.length_set];first | assumption | omega) | (simp only [List.getElem_set_self,List.length_set];first | assumption | omega) | (simp only [Yn,Yh,List.length_set];first | assumption | omega))
    obtain ⟨_,hr2,ha2⟩:=RdD.get hd3 hi2
    obtain ⟨o14,rfl,hd14⟩:=Link.op hr2
    replace ha2 : At w (Y6 o3) (Y8 o3 + k * 6) [.int .i64 ((x.links[k]'hi2).cap),o14,.int .i64 ((x.links[k]'hi2).credits),.int .i64 ((x.links[k]'hi2).back),.int .i64 ((x.links[k]'hi2).sent),.int .i64 ((x.links[k]'hi2).got)]:=ha2
    refine Qa (Qz (i:=k) Vl Z Z (hd3.ext E).1 hi2) Z (Qa (Qy X4 Z (ha2.ext E) Z) Z (Yo X4 Z (fun b3 w9 e5 s3 h3=>?_)))
    have g_b3 : w.heap.size ≤ b3:=by have:=E.size;omega
    have y_b3:=h3.lt
    replace E:=E.trans e5;replace h1:=h1.ext e5
    have z8:=e5.size
    refine Qa (Qf Z) Z (Q4 (cs':=[.int .i64 ((x.links[k]'hi2).cap),o14,.int .i64 ((x.links[k]'hi2).credits),.int .i64 ((x.links[k]'hi2).back),.int .i64 ((x.links[k]'hi2).sent),.int .i64 ((x.links[k]'hi2).got)]) X4 Z Z Z (Qj Z (Qj (RdD.one (hd14.ext E)) (Qj Z (Qj Z (Qj Z (Qj Z Z)))))) h3 (Nat.le_of_ble_eq_true Z) Z (fun w10 m2 h3'=>?_))
    replace h3:=h3'
    replace E:=E.step m2 (fun g hg=>by cases hg;omega);replace h1:=h1.mod m2 (fun g hg=>by cases hg;omega)
    have z9:=m2.size
    refine Qc (Qe (Xx Xs [(0,true),(1,false),(2,true),(3,true),(4,true),(5,true),(6,true),(7,true),(8,true),(9,true),(10,true),(11,true),(12,true),(13,true),(14,true),(15,true),(16,false),(17,true),(18,true),(19,true),(20,true),(21,true),(22,true),(23,true),(24,true),(25,true),(26,true),(27,true),(28,true),(29,true),(30,true),(31,true),(32,true),(33,true)] (by decide +kernel) Z (fun w11 e6=>?_)))
    replace E:=E.trans e6;replace h1:=h1.ext e6;replace h3:=h3.ext e6
    have z10:=e6.size
    refine Qa (Qy X4 Z h3.at Z) Z (Qw Tryz.call70 Z (c_LinkOk [.int .i64 ((x.links[k]'hi2).cap),o14,.int .i64 ((x.links[k]'hi2).credits),.int .i64 ((x.links[k]'hi2).back),.int .i64 ((x.links[k]'hi2).sent),.int .i64 ((x.links[k]'hi2).got)] (x.links[k]'hi2) _ (Link.mkR (x.links[k]'hi2) (RdD.any (hd14.ext E))) (hok _ (List.getElem_mem _))) Z (fun _ w12 e7 hv=>?_))
    subst hv
    replace E:=E.trans e7;replace h1:=h1.ext e7;replace h3:=h3.ext e7
    have z11:=e7.size
    refine Qa (Yy Z) Z (Qa (Qd Z) Z (Xf 30 [(1,.pointer (some ⟨b1,0,none⟩)),(2,.bool false),(3,.int .i64 x.graph.workers),(6,.int .i64 ((k : Nat) : Int)),(7,.pointer (some ⟨b3,0,none⟩)),(55,o3),(56,.int .i64 ((x.links.length : Nat) : Int)),(57,.int .i64 ((k : Nat) : Int)),(58,.bool (decide (((k : Nat) : Int) < ((x.links.length : Nat) : Int)))),(59,.int .i64 ((k : Nat) : Int)),(60,.pointer (some ⟨Y6 o3,Y8 o3 + k * 6,none⟩)),(61,.agg [.int .i64 ((x.links[k]'hi2).cap),o14,.int .i64 ((x.links[k]'hi2).credits),.int .i64 ((x.links[k]'hi2).back),.int .i64 ((x.links[k]'hi2).sent),.int .i64 ((x.links[k]'hi2).got)].toArray),(95,.bool ((((!(Xa (x.links[k]'hi2))) || (((x.links[k]'hi2).cap) != x.graph.cap)) || (!(((x.links[k]'hi2).queue).all (Xo x.graph)))) || (((IntKind.i64.wrap (Int.tdiv ((k : Nat) : Int) x.graph.workers)) == (Int.tmod ((k : Nat) : Int) x.graph.workers)) && (decide (0 < ((((x.links[k]'hi2).queue).length : Nat) : Int))))))] (fun w'=>Ext w w' ∧ w12.heap.size ≤ w'.heap.size ∧ Blk w' b1 ([o1,.int .i64 x.graph.workers,.int .i64 x.graph.cap,o2,o3,o4,o5]) ∧ Blk w' b3 [.int .i64 ((x.links[k]'hi2).cap),o14,.int .i64 ((x.links[k]'hi2).credits),.int .i64 ((x.links[k]'hi2).back),.int .i64 ((x.links[k]'hi2).sent),.int .i64 ((x.links[k]'hi2).got)]) ?_ ?_))
    ·refine Y4 (gd:=65) Z Z (fun hg4=>?_) (fun hg4=>?_)
     ·refine Qg Z Z Z Z (Qg Z Z Z Z (Qg Z Z Z Z (Qg Z Z Z Z (Qg Z Z Z Z (Qg Z Z Z Z (Qa (Qx Z Z) Z (Qa (Qd Z) Z (Qg Z Z Z Z (Qg Z Z Z Z (Qg Z Z Z Z (Qg Z Z Z Z ?_)))))))))))
      refine Yx Z Z Z Z ?_
      refine Qg Z Z Z Z (Qa (Qx Z Z) Z (Qa (Qd Z) Z (Qg Z Z Z Z (Qg Z Z Z Z (Qg Z Z Z Z (Qg Z Z Z Z (Qg Z Z Z Z (Qg Z Z Z Z (Qg Z Z Z Z (Qg Z Z Z Z (Ya Z Z Z (Ya Z Z Z (Ya Z Z Z (Ya Z Z Z (Qg Z Z Z Z (Qa (Qx Z Z) Z (Qr ⟨Z,Z,Z,Z,Z,Z,Z,Z,Z,Z,Z,Z,congrArg (fun b=>some (Value.bool b)) (show true = ((((!(Xa (x.links[k]'hi2))) || (((x.links[k]'hi2).cap) != x.graph.cap)) || (!(((x.links[k]'hi2).queue).all (Xo x.graph)))) || (((IntKind.i64.wrap (Int.tdiv ((k : Nat) : Int) x.graph.workers)) == (Int.tmod ((k : Nat) : Int) x.graph.workers)) && (decide (0 < ((((x.links[k]'hi2).queue).length : Nat) : Int))))) by first | (rw [hg4] <;> rfl) | (simp [hg4];done) | (simp only [Qq] <;> simp)),trivial⟩ ⟨E,(by omega),h1,h3⟩)))))))))))))))))
     ·refine Qn Z Z (Qb Vo Z) Z (Qn Z Z (Qk Yt Z (h3.one 0 Z)) Z (Qn Z Z (Qb Ue Z) Z (Qn Z Z (Qb T8 Z) Z (Qn Z Z (Qk Yt Z (h1.one 2 Z)) Z (Qn Z Z (Yu Z Z) Z (Qa (Q1 Z Z) Z (Qa (Qd Z) Z ?_)))))))
      refine Y4 (gd:=73) Z Z (fun hg5=>?_) (fun hg5=>?_)
      ·refine Qg Z Z Z Z (Qg Z Z Z Z (Qg Z Z Z Z (Qg Z Z Z Z ?_)))
       refine Yx Z Z Z Z ?_
       refine Qg Z Z Z Z (Qa (Qx Z Z) Z (Qa (Qd Z) Z (Qg Z Z Z Z (Qg Z Z Z Z (Qg Z Z Z Z (Qg Z Z Z Z (Qg Z Z Z Z (Qg Z Z Z Z (Qg Z Z Z Z (Qg Z Z Z Z (Ya Z Z Z (Ya Z Z Z (Ya Z Z Z (Ya Z Z Z (Qg Z Z Z Z (Qa (Qx Z Z) Z (Qr ⟨Z,Z,Z,Z,Z,Z,Z,Z,Z,Z,Z,Z,congrArg (fun b=>some (Value.bool b)) (show true = ((((!(Xa (x.links[k]'hi2))) || (((x.links[k]'hi2).cap) != x.graph.cap)) || (!(((x.links[k]'hi2).queue).all (Xo x.graph)))) || (((IntKind.i64.wrap (Int.tdiv ((k : Nat) : Int) x.graph.workers)) == (Int.tmod ((k : Nat) : Int) x.graph.workers)) && (decide (0 < ((((x.links[k]'hi2).queue).length : Nat) : Int))))) by first | (rw [hg4,hg5] <;> rfl) | (simp [hg4,hg5];done) | (simp only [Qq] <;> simp)),trivial⟩ ⟨E,(by omega),h1,h3⟩)))))))))))))))))
      ·refine Qn Z Z (Qb Ue Z) Z (Qn Z Z (Qy Uq Z (h1.part 0 [o1,.int .i64 x.graph.workers,.int .i64 x.graph.cap] Z) Z) Z (Qn Z Z (Qb Kv Z) Z (Qn Z Z (Qk Xq Z (h3.one 1 Z)) Z ?_)))
       refine X2 Z Z ?_
       refine Qw Tryz.call118 Z (c_opsOk [o1,.int .i64 x.graph.workers,.int .i64 x.graph.cap] x.graph o14 ((x.links[k]'hi2).queue) _ (Graph.mkR x.graph (RdD.any (hd1.ext E))) (hd14.rd.ext E)) Z (fun _ w14 e8 hv=>?_)
       subst hv
       replace E:=E.trans e8;replace h1:=h1.ext e8;replace h3:=h3.ext e8
       have z12:=e8.size
       refine Qn Z Z (Yy Z) Z (Qa (Q1 Z Z) Z (Qa (Qd Z) Z ?_))
       refine Y4 (gd:=81) Z Z (fun hg6=>?_) (fun hg6=>?_)
       ·refine Qg Z Z Z Z (Qg Z Z Z Z (Qg Z Z Z Z (Qg Z Z Z Z (Qg Z Z Z Z (Qg Z Z Z Z (Qg Z Z Z Z (Qg Z Z Z Z (Ya Z Z Z (Ya Z Z Z (Ya Z Z Z (Ya Z Z Z (Qg Z Z Z Z (Qa (Qx Z Z) Z (Qr ⟨Z,Z,Z,Z,Z,Z,Z,Z,Z,Z,Z,Z,congrArg (fun b=>some (Value.bool b)) (show true = ((((!(Xa (x.links[k]'hi2))) || (((x.links[k]'hi2).cap) != x.graph.cap)) || (!(((x.links[k]'hi2).queue).all (Xo x.graph)))) || (((IntKind.i64.wrap (Int.tdiv ((k : Nat) : Int) x.graph.workers)) == (Int.tmod ((k : Nat) : Int) x.graph.workers)) && (decide (0 < ((((x.links[k]'hi2).queue).length : Nat) : Int))))) by first | (rw [hg4,hg5,hg6] <;> rfl) | (simp [hg4,hg5,hg6];done) | (simp only [Qq] <;> simp)),trivial⟩ ⟨E,(by omega),h1,h3⟩))))))))))))))
       ·refine Qn Z Z (Qd Z) Z (Qn Z Z (Qd Z) Z (Qn Z Z (R_quo Z Z (by omega) Z) Z (Qn Z Z (Qd Z) Z (Qn Z Z (Qd Z) Z (Qn Z Z (Gm Z Z (by omega) Z) Z (Qn Z Z (Xm Z Z) Z (Qn Z Z (Qd Z) Z ?_)))))))
        refine Y4 (gd:=89) Z Z (fun hg7=>?_) (fun hg7=>?_)
        ·refine Qn Z Z (Qb Kv Z) Z (Qn Z Z (Qk Xq Z (h3.one 1 Z)) Z (Qn Z Z (Yc Tryz.underlying66 Z (hd14.ext E).len) Z (Qn Z Z (G8 Z Z) Z (Qn Z Z (Qx Z Z) Z (Qa (Q1 Z Z) Z (Qr ⟨Z,Z,Z,Z,Z,Z,Z,Z,Z,Z,Z,Z,congrArg (fun b=>some (Value.bool b)) (show (decide (0 < ((((x.links[k]'hi2).queue).length : Nat) : Int))) = ((((!(Xa (x.links[k]'hi2))) || (((x.links[k]'hi2).cap) != x.graph.cap)) || (!(((x.links[k]'hi2).queue).all (Xo x.graph)))) || (((IntKind.i64.wrap (Int.tdiv ((k : Nat) : Int) x.graph.workers)) == (Int.tmod ((k : Nat) : Int) x.graph.workers)) && (decide (0 < ((((x.links[k]'hi2).queue).length : Nat) : Int))))) by first | (rw [hg4,hg5,hg6,hg7] <;> rfl) | (simp [hg4,hg5,hg6,hg7];done) | (simp only [Qq] <;> simp)),trivial⟩ ⟨E,(by omega),h1,h3⟩))))))
        ·refine Qg Z Z Z Z (Qg Z Z Z Z (Qg Z Z Z Z (Qg Z Z Z Z (Qn Z Z (Q1 Z Z) Z (Qa (Q1 Z Z) Z (Qr ⟨Z,Z,Z,Z,Z,Z,Z,Z,Z,Z,Z,Z,congrArg (fun b=>some (Value.bool b)) (show false = ((((!(Xa (x.links[k]'hi2))) || (((x.links[k]'hi2).cap) != x.graph.cap)) || (!(((x.links[k]'hi2).queue).all (Xo x.graph)))) || (((IntKind.i64.wrap (Int.tdiv ((k : Nat) : Int) x.graph.workers)) == (Int.tmod ((k : Nat) : Int) x.graph.workers)) && (decide (0 < ((((x.links[k]'hi2).queue).length : Nat) : Int))))) by first | (rw [hg4,hg5,hg6,hg7] <;> rfl) | (simp [hg4,hg5,hg6,hg7];done) | (simp only [Qq] <;> simp)),trivial⟩ ⟨E,(by omega),h1,h3⟩))))))
    clear E h1 h3
    rintro w13 ⟨E,z13,h1,h3⟩
    refine Qc (Qt Z (fun hc5=>?_) (fun hc5=>?_))
    ·refine Qe (Qh [true] Z Z (Qa (Qf Z) Z (Qc (Qv (Q2 (Yv (Q2 (Qm Z Z E ?_))))))))
     exact cl_2 (by assumption) hc5
    ·refine Qo (Q6 (Y0 (Qh [true,true] Z Z (Qa (Ye Z Z (Yg (by unfold maxLen;omega))) Z (Qa (Qd Z) Z (Qc (Q6 (Yk (k + 1) (by omega) ⟨Z,Z,Z,Z,Z,Z,trivial⟩ ⟨E,(by omega),h1,(by omega),Ax hI2 (lk_at (by assumption) hc5)⟩))))))))
   ·have hc4n : ¬ k < x.links.length:=by first | (have h:=of_decide_eq_false hc4;omega) | (have h:=hc4;simp at h;omega)
    refine Yq (Q5 (Q3 ?_))
    refine Qe (Qe (Qh [true,true,true,true] Z Z (Qa (Qb Ve Z) Z (Qa (Qk Co Z (h1.one 5 Z)) Z (Qa (Yc Tryz.underlying37 Z (hd4.ext E).len) Z (Qa (Qd Z) Z (Qc (Q0 (Yp (fun (k : Nat)=>[(1,.pointer (some ⟨b1,0,none⟩)),(2,.bool false),(3,.int .i64 x.graph.workers),(98,o4),(99,.int .i64 ((x.tokens.length : Nat) : Int)),(100,.int .i64 ((k : Nat) : Int))]) (fun (k : Nat) w'=>Ext w w' ∧ w8.heap.size ≤ w'.heap.size ∧ Blk w' b1 ([o1,.int .i64 x.graph.workers,.int .i64 x.graph.cap,o2,o3,o4,o5]) ∧ k ≤ x.tokens.length ∧ (x.tokens.take k).all (fun t=>!tkBad x.graph t) = true) (fun (k : Nat)=>x.tokens.length - k) 0 ⟨Z,Z,Z,Z,Z,Z,trivial⟩ ⟨E,Nat.le_refl _,h1,Nat.zero_le _,Z⟩ ?_)))))))))
    clear E h1
    rintro k w15 ⟨E,z14,h1,hk,hI3⟩
    have hmt:=hd4.1.1
    unfold maxLen at hmt
    refine Qe (Qh [true] Z Z (Qa (Yi Z Z) Z (Qc (Qe (Qt Z (fun hc6=>?_) (fun hc6=>?_))))))
    ·have hc6n : k < x.tokens.length:=by first | (have h:=of_decide_eq_true hc6;omega) | (have h:=hc6;simp at h;omega)
     refine Qo (Qe (Q0 (Qe (Qh [true,true,false,false] Z Z ?_))))
     have hi3 : k < x.tokens.length:=(by first | assumption | omega | (simp only [List.length_set];first | assumption | omega) | (simp only [List.getElem_set_self,List.length_set];first | assumption | omega) | (simp only [Yn,Yh,List.length_set];first | assumption | omega))
     refine Qa (Qz (i:=k) Gz Z Z (hd4.rd.ext E) hi3) Z (Qa (Qy Tz Z ((hd4.rd.ext E).get hi3) Z) Z (Yo Tz Z (fun b4 w16 e9 s4 h4=>?_)))
     have g_b4 : w.heap.size ≤ b4:=by have:=E.size;omega
     have y_b4:=h4.lt
     replace E:=E.trans e9;replace h1:=h1.ext e9
     have z15:=e9.size
     refine Q4 (cs':=[.bool ((x.tokens[k]'hi3).going),.int .i64 ((x.tokens[k]'hi3).place),.int .i64 ((x.tokens[k]'hi3).sum),.bool ((x.tokens[k]'hi3).black),.bool ((x.tokens[k]'hi3).capped)]) Tz Z Z Z Z h4 (Nat.le_of_ble_eq_true Z) Z (fun w17 m3 h4'=>?_)
     replace h4:=h4'
     replace E:=E.step m3 (fun g hg=>by cases hg;omega);replace h1:=h1.mod m3 (fun g hg=>by cases hg;omega)
     have z16:=m3.size
     refine Qc (Qe (Qh [true,true,true,true,false,true,true,true,true,true,true,true,true,true,true,true,true,true,true,false,true,true] Z Z (Qa (Qb Gx Z) Z (Qa (Qk Yt Z (h4.one 1 Z)) Z (Qa (Qd Z) Z (Qa (K6 Z Z Z) Z (Qw Tryz.call71 Z (c_within ((x.tokens[k]'hi3).place) 0 (IntKind.i64.wrap (x.graph.workers - 1)) _ ) Z (fun _ w18 e10 hv=>?_))))))))
     subst hv
     replace E:=E.trans e10;replace h1:=h1.ext e10;replace h4:=h4.ext e10
     have z17:=e10.size
     refine Qa (Yy Z) Z (Qa (Qd Z) Z (Xf 15 [(1,.pointer (some ⟨b1,0,none⟩)),(2,.bool false),(3,.int .i64 x.graph.workers),(9,.pointer (some ⟨b4,0,none⟩)),(98,o4),(99,.int .i64 ((x.tokens.length : Nat) : Int)),(100,.int .i64 ((k : Nat) : Int)),(101,.bool (decide (((k : Nat) : Int) < ((x.tokens.length : Nat) : Int)))),(102,.pointer (some ⟨Y6 o4,Y8 o4 + k * 5,none⟩)),(103,.agg (Enc.enc (x.tokens[k]'hi3)).toArray),(125,.bool (((!(Yr ((x.tokens[k]'hi3).place) 0 (IntKind.i64.wrap (x.graph.workers - 1)))) || ((!((x.tokens[k]'hi3).going)) && (((x.tokens[k]'hi3).place) != 0))) || (!(Yr ((x.tokens[k]'hi3).sum) (-1000000) 1000000))))] (fun w'=>Ext w w' ∧ w18.heap.size ≤ w'.heap.size ∧ Blk w' b1 ([o1,.int .i64 x.graph.workers,.int .i64 x.graph.cap,o2,o3,o4,o5]) ∧ Blk w' b4 [.bool ((x.tokens[k]'hi3).going),.int .i64 ((x.tokens[k]'hi3).place),.int .i64 ((x.tokens[k]'hi3).sum),.bool ((x.tokens[k]'hi3).black),.bool ((x.tokens[k]'hi3).capped)]) ?_ ?_))
     ·refine Y4 (gd:=110) Z Z (fun hg8=>?_) (fun hg8=>?_)
      ·refine Qg Z Z Z Z (Qg Z Z Z Z (Qg Z Z Z Z (Qg Z Z Z Z (Ya Z Z Z (Ya Z Z Z (Ya Z Z Z (Qg Z Z Z Z (Qa (Qx Z Z) Z (Qa (Qd Z) Z (Qg Z Z Z Z (Qg Z Z Z Z ?_)))))))))))
       refine Yx Z Z Z Z ?_
       refine Qg Z Z Z Z (Qa (Qx Z Z) Z (Qr ⟨Z,Z,Z,Z,Z,Z,Z,Z,Z,Z,congrArg (fun b=>some (Value.bool b)) (show true = (((!(Yr ((x.tokens[k]'hi3).place) 0 (IntKind.i64.wrap (x.graph.workers - 1)))) || ((!((x.tokens[k]'hi3).going)) && (((x.tokens[k]'hi3).place) != 0))) || (!(Yr ((x.tokens[k]'hi3).sum) (-1000000) 1000000))) by first | (rw [hg8] <;> rfl) | (simp [hg8];done) | (simp only [Qq] <;> simp)),trivial⟩ ⟨E,(by omega),h1,h4⟩))
      ·refine Qn Z Z (Qb Tl Z) Z (Qn Z Z (Qk Hs Z (h4.one 0 Z)) Z (Qn Z Z (Yy Z) Z (Qn Z Z (Qd Z) Z ?_)))
       refine Y4 (gd:=114) Z Z (fun hg9=>?_) (fun hg9=>?_)
       ·refine Qn Z Z (Qb Gx Z) Z (Qn Z Z (Qk Yt Z (h4.one 1 Z)) Z (Qn Z Z (Yu Z Z) Z (Qn Z Z (Qx Z Z) Z (Qa (Q1 Z Z) Z (Qa (Qd Z) Z ?_)))))
        refine Y4 (gd:=120) Z Z (fun hg10=>?_) (fun hg10=>?_)
        ·refine Qg Z Z Z Z (Qg Z Z Z Z ?_)
         refine Yx Z Z Z Z ?_
         refine Qg Z Z Z Z (Qa (Qx Z Z) Z (Qr ⟨Z,Z,Z,Z,Z,Z,Z,Z,Z,Z,congrArg (fun b=>some (Value.bool b)) (show true = (((!(Yr ((x.tokens[k]'hi3).place) 0 (IntKind.i64.wrap (x.graph.workers - 1)))) || ((!((x.tokens[k]'hi3).going)) && (((x.tokens[k]'hi3).place) != 0))) || (!(Yr ((x.tokens[k]'hi3).sum) (-1000000) 1000000))) by first | (rw [hg8,hg9,hg10] <;> rfl) | (simp [hg8,hg9,hg10];done) | (simp only [Qq] <;> simp)),trivial⟩ ⟨E,(by omega),h1,h4⟩))
        ·refine Qn Z Z (Qb Gw Z) Z (Qn Z Z (Qk Yt Z (h4.one 2 Z)) Z ?_)
         refine X2 Z Z ?_
         refine Qw Tryz.call71 Z (c_within ((x.tokens[k]'hi3).sum) (-1000000) 1000000 _ ) Z (fun _ w20 e11 hv=>?_)
         subst hv
         replace E:=E.trans e11;replace h1:=h1.ext e11;replace h4:=h4.ext e11
         have z18:=e11.size
         refine Qn Z Z (Yy Z) Z (Qa (Q1 Z Z) Z (Qr ⟨Z,Z,Z,Z,Z,Z,Z,Z,Z,Z,congrArg (fun b=>some (Value.bool b)) (show (!(Yr ((x.tokens[k]'hi3).sum) (-1000000) 1000000)) = (((!(Yr ((x.tokens[k]'hi3).place) 0 (IntKind.i64.wrap (x.graph.workers - 1)))) || ((!((x.tokens[k]'hi3).going)) && (((x.tokens[k]'hi3).place) != 0))) || (!(Yr ((x.tokens[k]'hi3).sum) (-1000000) 1000000))) by first | (rw [hg8,hg9,hg10] <;> rfl) | (simp [hg8,hg9,hg10];done) | (simp only [Qq] <;> simp)),trivial⟩ ⟨E,(by omega),h1,h4⟩))
       ·refine Qg Z Z Z Z (Qg Z Z Z Z (Qg Z Z Z Z (Qn Z Z (Q1 Z Z) Z (Qa (Q1 Z Z) Z (Qa (Qd Z) Z (Qn Z Z (Qb Gw Z) Z (Qn Z Z (Qk Yt Z (h4.one 2 Z)) Z ?_)))))))
        refine X2 Z Z ?_
        refine Qw Tryz.call71 Z (c_within ((x.tokens[k]'hi3).sum) (-1000000) 1000000 _ ) Z (fun _ w21 e12 hv=>?_)
        subst hv
        replace E:=E.trans e12;replace h1:=h1.ext e12;replace h4:=h4.ext e12
        have z19:=e12.size
        refine Qn Z Z (Yy Z) Z (Qa (Q1 Z Z) Z (Qr ⟨Z,Z,Z,Z,Z,Z,Z,Z,Z,Z,congrArg (fun b=>some (Value.bool b)) (show (!(Yr ((x.tokens[k]'hi3).sum) (-1000000) 1000000)) = (((!(Yr ((x.tokens[k]'hi3).place) 0 (IntKind.i64.wrap (x.graph.workers - 1)))) || ((!((x.tokens[k]'hi3).going)) && (((x.tokens[k]'hi3).place) != 0))) || (!(Yr ((x.tokens[k]'hi3).sum) (-1000000) 1000000))) by first | (rw [hg8,hg9] <;> rfl) | (simp [hg8,hg9];done) | (simp only [Qq] <;> simp)),trivial⟩ ⟨E,(by omega),h1,h4⟩))
     clear E h1 h4
     rintro w19 ⟨E,z20,h1,h4⟩
     refine Qc (Qt Z (fun hc7=>?_) (fun hc7=>?_))
     ·refine Qe (Qh [true] Z Z (Qa (Qf Z) Z (Qc (Qv (Q2 (Yv (Q2 (Qm Z Z E ?_))))))))
      exact cl_3 (by assumption) hc7
     ·refine Qo (Q6 (Y0 (Qh [true,true] Z Z (Qa (Ye Z Z (Yg (by unfold maxLen;omega))) Z (Qa (Qd Z) Z (Qc (Q6 (Yk (k + 1) (by omega) ⟨Z,Z,Z,Z,Z,Z,trivial⟩ ⟨E,(by omega),h1,(by omega),Kh hI3 (by assumption) (nb hc7)⟩))))))))
    ·have hc6n : ¬ k < x.tokens.length:=by first | (have h:=of_decide_eq_false hc6;omega) | (have h:=hc6;simp at h;omega)
     refine Yq (Q5 (Q3 ?_))
     refine Qe (Qe (Qh [true,true,true,true] Z Z (Qa (Qb G6 Z) Z (Qa (Qk Bn Z (h1.one 6 Z)) Z (Qa (Yc Tryz.underlying38 Z (hd5.ext E).len) Z (Qa (Qd Z) Z (Qc (Q0 (Yp (fun (k : Nat)=>[(2,.bool false),(3,.int .i64 x.graph.workers),(128,o5),(129,.int .i64 ((x.news.length : Nat) : Int)),(130,.int .i64 ((k : Nat) : Int))]) (fun (k : Nat) w'=>Ext w w' ∧ w15.heap.size ≤ w'.heap.size ∧ Blk w' b1 ([o1,.int .i64 x.graph.workers,.int .i64 x.graph.cap,o2,o3,o4,o5]) ∧ k ≤ x.news.length ∧ (x.news.take k).all (fun t=>!nwBad x.graph t) = true) (fun (k : Nat)=>x.news.length - k) 0 ⟨Z,Z,Z,Z,Z,trivial⟩ ⟨E,Nat.le_refl _,h1,Nat.zero_le _,Z⟩ ?_)))))))))
     clear E h1
     rintro k w22 ⟨E,z21,h1,hk,hI4⟩
     have hmn:=hd5.1.1
     unfold maxLen at hmn
     refine Qe (Qh [true] Z Z (Qa (Yi Z Z) Z (Qc (Qe (Qt Z (fun hc8=>?_) (fun hc8=>?_))))))
     ·have hc8n : k < x.news.length:=by first | (have h:=of_decide_eq_true hc8;omega) | (have h:=hc8;simp at h;omega)
      refine Qo (Qe (Q0 (Qe (Qh [true,true,false,false] Z Z ?_))))
      have hi4 : k < x.news.length:=(by first | assumption | omega | (simp only [List.length_set];first | assumption | omega) | (simp only [List.getElem_set_self,List.length_set];first | assumption | omega) | (simp only [Yn,Yh,List.length_set];first | assumption | omega))
      refine Qa (Qz (i:=k) Cn Z Z (hd5.rd.ext E) hi4) Z (Qa (Qy Ty Z ((hd5.rd.ext E).get hi4) Z) Z (Yo Ty Z (fun b5 w23 e13 s5 h5=>?_)))
      have g_b5 : w.heap.size ≤ b5:=by have:=E.size;omega
      have y_b5:=h5.lt
      replace E:=E.trans e13;replace h1:=h1.ext e13
      have z22:=e13.size
      refine Q4 (cs':=[.int .i64 ((x.news[k]'hi4).dest),.int .i64 ((x.news[k]'hi4).epoch),.bool ((x.news[k]'hi4).capped)]) Ty Z Z Z Z h5 (Nat.le_of_ble_eq_true Z) Z (fun w24 m4 h5'=>?_)
      replace h5:=h5'
      replace E:=E.step m4 (fun g hg=>by cases hg;omega);replace h1:=h1.mod m4 (fun g hg=>by cases hg;omega)
      have z23:=m4.size
      refine Qc (Qe (Qh [true,true,true,true,false,true,true,true,true,false,true,true] Z Z (Qa (Qb Tk Z) Z (Qa (Qk Yt Z (h5.one 0 Z)) Z (Qa (Qd Z) Z (Qa (K6 Z Z Z) Z (Qw Tryz.call71 Z (c_within ((x.news[k]'hi4).dest) 0 (IntKind.i64.wrap (x.graph.workers - 1)) _ ) Z (fun _ w25 e14 hv=>?_))))))))
      subst hv
      replace E:=E.trans e14;replace h1:=h1.ext e14;replace h5:=h5.ext e14
      have z24:=e14.size
      refine Qa (Yy Z) Z (Qa (Qd Z) Z (Xf 5 [(2,.bool false),(3,.int .i64 x.graph.workers),(11,.pointer (some ⟨b5,0,none⟩)),(128,o5),(129,.int .i64 ((x.news.length : Nat) : Int)),(130,.int .i64 ((k : Nat) : Int)),(131,.bool (decide (((k : Nat) : Int) < ((x.news.length : Nat) : Int)))),(132,.pointer (some ⟨Y6 o5,Y8 o5 + k * 3,none⟩)),(133,.agg (Enc.enc (x.news[k]'hi4)).toArray),(145,.bool ((!(Yr ((x.news[k]'hi4).dest) 0 (IntKind.i64.wrap (x.graph.workers - 1)))) || (!(Yr ((x.news[k]'hi4).epoch) 0 3))))] (fun w'=>Ext w w' ∧ w25.heap.size ≤ w'.heap.size ∧ Blk w' b1 ([o1,.int .i64 x.graph.workers,.int .i64 x.graph.cap,o2,o3,o4,o5]) ∧ Blk w' b5 [.int .i64 ((x.news[k]'hi4).dest),.int .i64 ((x.news[k]'hi4).epoch),.bool ((x.news[k]'hi4).capped)]) ?_ ?_))
      ·refine Y4 (gd:=140) Z Z (fun hg11=>?_) (fun hg11=>?_)
       ·refine Qg Z Z Z Z (Qg Z Z Z Z ?_)
        refine Yx Z Z Z Z ?_
        refine Qg Z Z Z Z (Qa (Qx Z Z) Z (Qr ⟨Z,Z,Z,Z,Z,Z,Z,Z,Z,congrArg (fun b=>some (Value.bool b)) (show true = ((!(Yr ((x.news[k]'hi4).dest) 0 (IntKind.i64.wrap (x.graph.workers - 1)))) || (!(Yr ((x.news[k]'hi4).epoch) 0 3))) by first | (rw [hg11] <;> rfl) | (simp [hg11];done) | (simp only [Qq] <;> simp)),trivial⟩ ⟨E,(by omega),h1,h5⟩))
       ·refine Qn Z Z (Qb Tj Z) Z (Qn Z Z (Qk Yt Z (h5.one 1 Z)) Z ?_)
        refine X2 Z Z ?_
        refine Qw Tryz.call71 Z (c_within ((x.news[k]'hi4).epoch) 0 3 _ ) Z (fun _ w27 e15 hv=>?_)
        subst hv
        replace E:=E.trans e15;replace h1:=h1.ext e15;replace h5:=h5.ext e15
        have z25:=e15.size
        refine Qn Z Z (Yy Z) Z (Qa (Q1 Z Z) Z (Qr ⟨Z,Z,Z,Z,Z,Z,Z,Z,Z,congrArg (fun b=>some (Value.bool b)) (show (!(Yr ((x.news[k]'hi4).epoch) 0 3)) = ((!(Yr ((x.news[k]'hi4).dest) 0 (IntKind.i64.wrap (x.graph.workers - 1)))) || (!(Yr ((x.news[k]'hi4).epoch) 0 3))) by first | (rw [hg11] <;> rfl) | (simp [hg11];done) | (simp only [Qq] <;> simp)),trivial⟩ ⟨E,(by omega),h1,h5⟩))
      clear E h1 h5
      rintro w26 ⟨E,z26,h1,h5⟩
      refine Qc (Qt Z (fun hc9=>?_) (fun hc9=>?_))
      ·refine Qe (Qh [true] Z Z (Qa (Qf Z) Z (Qc (Qv (Q2 (Yv (Q2 (Qm Z Z E ?_))))))))
       exact cl_4 (by assumption) hc9
      ·refine Qo (Q6 (Y0 (Qh [true,true] Z Z (Qa (Ye Z Z (Yg (by unfold maxLen;omega))) Z (Qa (Qd Z) Z (Qc (Q6 (Yk (k + 1) (by omega) ⟨Z,Z,Z,Z,Z,trivial⟩ ⟨E,(by omega),h1,(by omega),Kh hI4 (by assumption) (nb hc9)⟩))))))))
     ·have hc8n : ¬ k < x.news.length:=by first | (have h:=of_decide_eq_false hc8;omega) | (have h:=hc8;simp at h;omega)
      refine Yq (Q5 (Q3 ?_))
      refine Qe (Qh [true] Z Z (Qa (Qf Z) Z (Qc (Qv (Qm Z Z E ?_)))))
      exact cl_5 hc1 (Gy hI1 (by omega)) (Cl hI2 (by omega)) (Gy hI3 (by omega)) (Gy hI4 (by omega))

set_option maxRecDepth 20000 in
theorem c_Unstaged (cx : List Value) (x : Worker) (w : World) (hx : Dat.R w 0 w.heap.size cx x) (hb : Q7 x ≤ 1048576) : Ct Tryz.prog 47 [.agg cx.toArray] w (fun v w'=>∃ c0,v = .tuple [.agg c0.toArray,.agg (Enc.enc ((Q9 x).2.1)).toArray,.bool ((Q9 x).2.2)].toArray ∧ Own1.O w' w.heap.size w'.heap.size c0 ((Q9 x).1)):=by
 refine Ym Tryz.func47 Z Tryz.ntmps47 Z ?_
 obtain ⟨o1,o2,o3,o4,o5,o6,o7,o8,rfl,hd1,hd2,hd3,hd4,hd5,hd6,hd7,hd8⟩:=Worker.op hx
 refine Q8 [(0,.agg [o1,o2,o3,o4,o5,o6,o7,o8].toArray)] ⟨Z,trivial⟩ ?_
 have E : Ext w w:=Ext.refl w
 refine Qe (Qh [false,false,false,true] Z Z (Y1 Z Z (fun b1 w1 e1 s1 h1=>?_)))
 have g_b1 : w.heap.size ≤ b1:=by have:=E.size;omega
 have y_b1:=h1.lt
 replace E:=E.trans e1
 have z1:=e1.size
 refine Yo X8 Z (fun b2 w2 e2 s2 h2=>?_)
 have g_b2 : w.heap.size ≤ b2:=by have:=E.size;omega
 have y_b2:=h2.lt
 replace E:=E.trans e2;replace h1:=h1.ext e2
 have z2:=e2.size
 refine Yo Ul Z (fun b3 w3 e3 s3 h3=>?_)
 have g_b3 : w.heap.size ≤ b3:=by have:=E.size;omega
 have y_b3:=h3.lt
 replace E:=E.trans e3;replace h1:=h1.ext e3;replace h2:=h2.ext e3
 have z3:=e3.size
 refine Qa (Qf Z) Z (Qc (Qe (Qh [true,false,false,false] Z Z (Qa (Qy X8 Z h1.at Z) Z (Qw Tryz.call67 Z (c_copyWorker [o1,o2,o3,o4,o5,o6,o7,o8] x _ (Worker.mkR x (RdD.any (hd1.ext E)) (RdD.any (hd2.ext E)) (RdD.any (hd3.ext E)) (RdD.any (hd4.ext E)) (RdD.any (hd5.ext E)) (RdD.any (hd6.ext E)) (RdD.any (hd7.ext E)) (RdD.any (hd8.ext E))) (by first | omega | (simp only [Qi];omega) | (rw [Qi];done) | (simp only [Qi];done))) Z (fun _ w4 e4 ho1=>?_))))))
 obtain ⟨_,rfl,ho1⟩:=ho1
 have g_ho1 : w.heap.size ≤ w3.heap.size:=E.size
 replace E:=E.trans e4;replace h1:=h1.ext e4;replace h2:=h2.ext e4;replace h3:=h3.ext e4
 have z4:=e4.size
 obtain ⟨o9,o10,o11,o12,o13,o14,o15,o16,rfl,sp1,hw1,hw2,hw3,hw4,hw5,hw6,hw7,hw8⟩:=Worker.opO ho1
 refine Yo X8 Z (fun b4 w5 e5 s4 h4=>?_)
 have g_b4 : w.heap.size ≤ b4:=by have:=E.size;omega
 have y_b4:=h4.lt
 replace E:=E.trans e5;replace h1:=h1.ext e5;replace h2:=h2.ext e5;replace h3:=h3.ext e5;replace hw1:=hw1.ext e5;replace hw2:=hw2.ext e5;replace hw3:=hw3.ext e5;replace hw4:=hw4.ext e5;replace hw5:=hw5.ext e5;replace hw6:=hw6.ext e5;replace hw7:=hw7.ext e5;replace hw8:=hw8.ext e5
 have z5:=e5.size
 refine Q4 (cs':=[o9,o10,o11,o12,o13,o14,o15,o16]) X8 Z Z Z (Qj hw1.one (Qj hw2.one (Qj hw3.one (Qj hw4.one (Qj hw5.one (Qj hw6.one (Qj hw7.one (Qj hw8.one Z)))))))) h4 (Nat.le_of_ble_eq_true Z) Z (fun w6 m1 h4'=>?_)
 replace h4:=h4'
 replace E:=E.step m1 (fun g hg=>by cases hg;omega);replace h1:=h1.mod m1 (fun g hg=>by cases hg;omega);replace h2:=h2.mod m1 (fun g hg=>by cases hg;omega);replace h3:=h3.mod m1 (fun g hg=>by cases hg;omega);replace hw1:=hw1.mod m1 (fun g hg=>by cases hg;omega);replace hw2:=hw2.mod m1 (fun g hg=>by cases hg;omega);replace hw3:=hw3.mod m1 (fun g hg=>by cases hg;omega);replace hw4:=hw4.mod m1 (fun g hg=>by cases hg;omega);replace hw5:=hw5.mod m1 (fun g hg=>by cases hg;omega);replace hw6:=hw6.mod m1 (fun g hg=>by cases hg;omega);replace hw7:=hw7.mod m1 (fun g hg=>by cases hg;omega);replace hw8:=hw8.mod m1 (fun g hg=>by cases hg;omega)
 have z6:=m1.size
 refine Qc (Qe (Qe (Qh [true,true,true,true] Z Z (Qa (Qb Un Z) Z (Qa (Qk Xq Z (h1.one 1 Z)) Z (Qa (Yc Tryz.underlying66 Z (hd2.ext E).len) Z (Qa (Xm Z Z) Z (Qc (Qt Z (fun hc1=>?_) (fun hc1=>?_))))))))))
 ·have hc1n : x.staged.length = 0:=by first | (have h:=of_decide_eq_true hc1;omega) | (have h:=hc1;simp at h;omega)
  refine Qe (Qh [true,true,false,false,true] Z Z (Qa (Qy X8 Z h4.at Z) Z (Qa (R_build (⟨0,(⟨0,0⟩ : Stamp),0,0⟩ : Record) Z (fun _=>by kernel_rfl)) Z (Q4 (cs':=[o9,o10,o11,o12,o13,o14,o15,o16]) X8 Z Z Z (Qj hw1.one (Qj hw2.one (Qj hw3.one (Qj hw4.one (Qj hw5.one (Qj hw6.one (Qj hw7.one (Qj hw8.one Z)))))))) h2 (Nat.le_of_ble_eq_true Z) Z (fun w7 m2 h2'=>?_)))))
  replace h2:=h2'
  replace E:=E.step m2 (fun g hg=>by cases hg;omega);replace h1:=h1.mod m2 (fun g hg=>by cases hg;omega);replace h3:=h3.mod m2 (fun g hg=>by cases hg;omega);replace hw1:=hw1.mod m2 (fun g hg=>by cases hg;omega);replace hw2:=hw2.mod m2 (fun g hg=>by cases hg;omega);replace hw3:=hw3.mod m2 (fun g hg=>by cases hg;omega);replace hw4:=hw4.mod m2 (fun g hg=>by cases hg;omega);replace hw5:=hw5.mod m2 (fun g hg=>by cases hg;omega);replace hw6:=hw6.mod m2 (fun g hg=>by cases hg;omega);replace hw7:=hw7.mod m2 (fun g hg=>by cases hg;omega);replace hw8:=hw8.mod m2 (fun g hg=>by cases hg;omega);replace h4:=h4.mod m2 (fun g hg=>by cases hg;omega)
  have z7:=m2.size
  refine Q4 (cs':=[.int .i64 ((⟨0,(⟨0,0⟩ : Stamp),0,0⟩ : Record).op),.int .i64 (((⟨0,(⟨0,0⟩ : Stamp),0,0⟩ : Record).stamp).epoch),.int .i64 (((⟨0,(⟨0,0⟩ : Stamp),0,0⟩ : Record).stamp).turn),.int .i64 ((⟨0,(⟨0,0⟩ : Stamp),0,0⟩ : Record).key),.int .i64 ((⟨0,(⟨0,0⟩ : Stamp),0,0⟩ : Record).val)]) Ul Z Z Z Z h3 (Nat.le_of_ble_eq_true Z) Z (fun w8 m3 h3'=>?_)
  replace h3:=h3'
  replace E:=E.step m3 (fun g hg=>by cases hg;omega);replace h1:=h1.mod m3 (fun g hg=>by cases hg;omega);replace h2:=h2.mod m3 (fun g hg=>by cases hg;omega);replace hw1:=hw1.mod m3 (fun g hg=>by cases hg;omega);replace hw2:=hw2.mod m3 (fun g hg=>by cases hg;omega);replace hw3:=hw3.mod m3 (fun g hg=>by cases hg;omega);replace hw4:=hw4.mod m3 (fun g hg=>by cases hg;omega);replace hw5:=hw5.mod m3 (fun g hg=>by cases hg;omega);replace hw6:=hw6.mod m3 (fun g hg=>by cases hg;omega);replace hw7:=hw7.mod m3 (fun g hg=>by cases hg;omega);replace hw8:=hw8.mod m3 (fun g hg=>by cases hg;omega);replace h4:=h4.mod m3 (fun g hg=>by cases hg;omega)
  have z8:=m3.size
  refine Qa (Qf Z) Z (Qc (Qv (Vk (l:=[.cell 2 80,.cell 3 72,.tmp 4]) (vs:=[.agg [o9,o10,o11,o12,o13,o14,o15,o16].toArray,.agg (Enc.enc (⟨0,(⟨0,0⟩ : Stamp),0,0⟩ : Record)).toArray,.bool false]) Z ⟨.cell Z (Yd X8 h2.at Z),.cell Z (Yd Ul h3.at Z),.tmp Z,trivial⟩ Z E ?_)))
  rw [unst_no hc1]
  exact ⟨_,Z,(Worker.mkO x sp1 (Own.widen hw1 (by omega) (by omega)) (Own.widen hw2 (by omega) (by omega)) (Own.widen hw3 (by omega) (by omega)) (Own.widen hw4 (by omega) (by omega)) (Own.widen hw5 (by omega) (by omega)) (Own.widen hw6 (by omega) (by omega)) (Own.widen hw7 (by omega) (by omega)) (Own.widen hw8 (by omega) (by omega)))⟩
 ·have hsl:=unst_lt hc1
  have hc1n : ¬ x.staged.length = 0:=by first | (have h:=of_decide_eq_false hc1;omega) | (have h:=hc1;simp at h;omega)
  refine Qo (Qe (Qh [true,true,true,true,false] Z Z (Qa (Qb Un Z) Z (Qa (Qk Xq Z (h4.one 1 Z)) Z ?_))))
  have hk1 : 1 ≤ x.staged.length:=by first | assumption | omega
  have hs1:=Own.slFromE (α:=Record) hw2 hk1
  replace hs1 : Own w6 w3.heap.size w4.heap.size 5 (slFrom o10 1 5) (List.flatMap (Enc.enc (α:=Record)) (List.drop 1 x.staged)):=hs1
  have hb1 : Become w6 o10 (slFrom o10 1 5):=fun g hg=>.inl (by rwa [Cw] at hg)
  replace sp1:=SepL.set hb1 1 rfl sp1 ⟨(Own.lt hw1),(Own.lt hw2),(Own.lt hw3),(Own.lt hw4),(Own.lt hw5),(Own.lt hw6),(Own.lt hw7),(Own.lt hw8),trivial⟩
  replace sp1 : SepL [o9,slFrom o10 1 5,o11,o12,o13,o14,o15,o16]:=sp1
  refine Qa (Cb Kn Z Z (Own.roomE (α:=Record) hw2) hk1) Z (Qa (Qb Un Z) Z (Yj (cs':=[o9,slFrom o10 1 5,o11,o12,o13,o14,o15,o16]) Xq Z Z hs1.one h4 (Nat.le_of_ble_eq_true Z) Z (fun w9 m4 h4'=>?_)))
  replace h4:=h4'
  replace E:=E.step m4 (fun g hg=>by cases hg;omega);replace h1:=h1.mod m4 (fun g hg=>by cases hg;omega);replace h2:=h2.mod m4 (fun g hg=>by cases hg;omega);replace h3:=h3.mod m4 (fun g hg=>by cases hg;omega);replace hw1:=hw1.mod m4 (fun g hg=>by cases hg;omega);replace hw3:=hw3.mod m4 (fun g hg=>by cases hg;omega);replace hw4:=hw4.mod m4 (fun g hg=>by cases hg;omega);replace hw5:=hw5.mod m4 (fun g hg=>by cases hg;omega);replace hw6:=hw6.mod m4 (fun g hg=>by cases hg;omega);replace hw7:=hw7.mod m4 (fun g hg=>by cases hg;omega);replace hw8:=hw8.mod m4 (fun g hg=>by cases hg;omega);replace hs1:=hs1.mod m4 (fun g hg=>by cases hg;omega)
  have z9:=m4.size
  refine Qc (Qe (S_regS Xs 5 [2,18] [(0,true)] [(1,true),(2,true),(3,true),(4,true)] [(6,false),(7,true)] (by decide +kernel) Z Z Z Z Z Z Z [(0,.agg [o1,o2,o3,o4,o5,o6,o7,o8].toArray),(1,.pointer (some ⟨b1,0,none⟩)),(2,.pointer (some ⟨b2,0,none⟩)),(3,.pointer (some ⟨b3,0,none⟩)),(4,.bool false),(5,.pointer (some ⟨b4,0,none⟩)),(6,.agg [o1,o2,o3,o4,o5,o6,o7,o8].toArray),(7,.agg [o9,o10,o11,o12,o13,o14,o15,o16].toArray),(8,.pointer (some ⟨b1,1,none⟩)),(9,o2),(10,.int .i64 ((x.staged.length : Nat) : Int)),(11,.bool (((x.staged.length : Nat) : Int) == 0)),(14,.pointer (some ⟨b4,1,none⟩)),(15,o10),(16,slFrom o10 1 5),(17,.pointer (some ⟨b4,1,none⟩)),(18,.agg [o9,slFrom o10 1 5,o11,o12,o13,o14,o15,o16].toArray)] [(2,.pointer (some ⟨b2,0,none⟩)),(18,.agg [o9,slFrom o10 1 5,o11,o12,o13,o14,o15,o16].toArray)] Z ⟨Z,Z,trivial⟩ (fun w'=>Ext w w' ∧ w9.heap.size ≤ w'.heap.size ∧ Blk w' b1 ([o1,o2,o3,o4,o5,o6,o7,o8]) ∧ Blk w' b2 [.slice none 0 0,.slice none 0 0,.slice none 0 0,.slice none 0 0,.slice none 0 0,.slice none 0 0,.slice none 0 0,.slice none 0 0] ∧ Blk w' b3 [.int .i64 0,.int .i64 0,.int .i64 0,.int .i64 0,.int .i64 0] ∧ Own w' w3.heap.size w4.heap.size 5 o9 (List.flatMap (Enc.enc (α:=Record)) x.queue) ∧ Own w' w3.heap.size w4.heap.size 5 o11 (List.flatMap (Enc.enc (α:=Record)) x.inputs) ∧ Own w' w3.heap.size w4.heap.size 4 o12 (List.flatMap (Enc.enc (α:=Cell)) x.cells) ∧ Own w' w3.heap.size w4.heap.size 1 o13 (List.flatMap (Enc.enc (α:=Int)) x.sums) ∧ Own w' w3.heap.size w4.heap.size 1 o14 (List.flatMap (Enc.enc (α:=Bool)) x.black) ∧ Own w' w3.heap.size w4.heap.size 1 o15 (List.flatMap (Enc.enc (α:=Bool)) x.caps) ∧ Own w' w3.heap.size w4.heap.size 2 o16 (List.flatMap (Enc.enc (α:=Done)) x.dones) ∧ Blk w' b4 [o9,slFrom o10 1 5,o11,o12,o13,o14,o15,o16] ∧ Own w' w3.heap.size w4.heap.size 5 (slFrom o10 1 5) (List.flatMap (Enc.enc (α:=Record)) (List.drop 1 x.staged))) b2 (fun w'=>Blk w' b2 [o9,slFrom o10 1 5,o11,o12,o13,o14,o15,o16]) (fun w10 e6=>?_) (fun w10 hphi_w10=>?_)))
  ·replace E:=E.trans e6;replace h1:=h1.ext e6;replace h2:=h2.ext e6;replace h3:=h3.ext e6;replace hw1:=hw1.ext e6;replace hw3:=hw3.ext e6;replace hw4:=hw4.ext e6;replace hw5:=hw5.ext e6;replace hw6:=hw6.ext e6;replace hw7:=hw7.ext e6;replace hw8:=hw8.ext e6;replace h4:=h4.ext e6;replace hs1:=hs1.ext e6
   have z10:=e6.size
   refine Qa (Qy X8 Z h4.at Z) Z (Qr ⟨Z,Z,Z,Z,Z,Z,Z,Z,Z,Z,Z,Z,Z,Z,Z,Z,Z,trivial⟩ ⟨E,(by omega),h1,h2,h3,hw1,hw3,hw4,hw5,hw6,hw7,hw8,h4,hs1⟩)
  clear E h1 h2 h3 hw1 hw3 hw4 hw5 hw6 hw7 hw8 h4 hs1
  obtain ⟨E,z11,h1,h2,h3,hw1,hw3,hw4,hw5,hw6,hw7,hw8,h4,hs1⟩:=hphi_w10
  refine ⟨fs_store (cs':=[o9,slFrom o10 1 5,o11,o12,o13,o14,o15,o16]) X8 Z Z Z (Qj hw1.one (Qj hs1.one (Qj hw3.one (Qj hw4.one (Qj hw5.one (Qj hw6.one (Qj hw7.one (Qj hw8.one Z)))))))) h2 (Nat.le_of_ble_eq_true Z) Z,?_⟩
  refine JS_st (v:=.pointer (some ⟨b1,1,none⟩)) (fun wX mX=>?_) Z ?_
  ·have E:=E.step mX (fun g hg=>by cases hg;omega);exact Qb Un rfl
  refine JS_st (v:=o2) (fun wX mX=>?_) Z ?_
  ·have E:=E.step mX (fun g hg=>by cases hg;omega);replace h1:=h1.mod mX (fun g hg=>by cases hg;omega);exact Qk Xq rfl (h1.one 1 rfl)
  have hi1 : 0 < x.staged.length:=(by first | assumption | omega | (simp only [List.length_set];first | assumption | omega) | (simp only [List.getElem_set_self,List.length_set];first | assumption | omega) | (simp only [Yn,Yh,List.length_set];first | assumption | omega))
  refine JS_st (v:=.pointer (some ⟨Y6 o2,Y8 o2 + 0 * 5,none⟩)) (fun wX mX=>?_) Z ?_
  ·have E:=E.step mX (fun g hg=>by cases hg;omega);exact Qz (i:=0) Kn rfl rfl (hd2.rd.ext E) hi1
  refine JS_st (v:=.agg (Enc.enc (x.staged[0]'hi1)).toArray) (fun wX mX=>?_) Z ?_
  ·have E:=E.step mX (fun g hg=>by cases hg;omega);exact Qy Ul rfl ((hd2.rd.ext E).get hi1) rfl
  refine JS_end (fun w11 m5 hR=>?_)
  replace h2:=hR
  clear hR
  replace E:=E.step m5 (fun g hg=>by cases hg;omega);replace h1:=h1.mod m5 (fun g hg=>by cases hg;omega);replace h3:=h3.mod m5 (fun g hg=>by cases hg;omega);replace hw1:=hw1.mod m5 (fun g hg=>by cases hg;omega);replace hw3:=hw3.mod m5 (fun g hg=>by cases hg;omega);replace hw4:=hw4.mod m5 (fun g hg=>by cases hg;omega);replace hw5:=hw5.mod m5 (fun g hg=>by cases hg;omega);replace hw6:=hw6.mod m5 (fun g hg=>by cases hg;omega);replace hw7:=hw7.mod m5 (fun g hg=>by cases hg;omega);replace hw8:=hw8.mod m5 (fun g hg=>by cases hg;omega);replace h4:=h4.mod m5 (fun g hg=>by cases hg;omega);replace hs1:=hs1.mod m5 (fun g hg=>by cases hg;omega)
  have z12:=m5.size
  refine Q4 (cs':=[.int .i64 ((x.staged[0]'hi1).op),.int .i64 (((x.staged[0]'hi1).stamp).epoch),.int .i64 (((x.staged[0]'hi1).stamp).turn),.int .i64 ((x.staged[0]'hi1).key),.int .i64 ((x.staged[0]'hi1).val)]) Ul Z Z Z Z h3 (Nat.le_of_ble_eq_true Z) Z (fun w12 m6 h3'=>?_)
  replace h3:=h3'
  replace E:=E.step m6 (fun g hg=>by cases hg;omega);replace h1:=h1.mod m6 (fun g hg=>by cases hg;omega);replace h2:=h2.mod m6 (fun g hg=>by cases hg;omega);replace hw1:=hw1.mod m6 (fun g hg=>by cases hg;omega);replace hw3:=hw3.mod m6 (fun g hg=>by cases hg;omega);replace hw4:=hw4.mod m6 (fun g hg=>by cases hg;omega);replace hw5:=hw5.mod m6 (fun g hg=>by cases hg;omega);replace hw6:=hw6.mod m6 (fun g hg=>by cases hg;omega);replace hw7:=hw7.mod m6 (fun g hg=>by cases hg;omega);replace hw8:=hw8.mod m6 (fun g hg=>by cases hg;omega);replace h4:=h4.mod m6 (fun g hg=>by cases hg;omega);replace hs1:=hs1.mod m6 (fun g hg=>by cases hg;omega)
  have z13:=m6.size
  refine Qa (Qf Z) Z (Qc (Qv (Vk (l:=[.cell 2 80,.cell 3 72,.tmp 4]) (vs:=[.agg [o9,slFrom o10 1 5,o11,o12,o13,o14,o15,o16].toArray,.agg (Enc.enc (x.staged[0]'hi1)).toArray,.bool true]) Z ⟨.cell Z (Yd X8 h2.at Z),.cell Z (Yd Ul h3.at Z),.tmp Z,trivial⟩ Z E ?_)))
  rw [unst_yes hsl]
  exact ⟨_,Z,(Worker.mkO (⟨x.queue,List.drop 1 x.staged,x.inputs,x.cells,x.sums,x.black,x.caps,x.dones⟩ : Worker) sp1 (Own.widen hw1 (by omega) (by omega)) (Own.widen hs1 (by omega) (by omega)) (Own.widen hw3 (by omega) (by omega)) (Own.widen hw4 (by omega) (by omega)) (Own.widen hw5 (by omega) (by omega)) (Own.widen hw6 (by omega) (by omega)) (Own.widen hw7 (by omega) (by omega)) (Own.widen hw8 (by omega) (by omega)))⟩

set_option maxRecDepth 20000 in
theorem markTokenS (vxs : Value) (lo hi : Nat) (xs : List Token) (k : Nat) (w : World) (hxs : Own w lo hi 5 vxs (List.flatMap (Enc.enc (α:=Token)) xs)) (hb : k + xs.length * 5 ≤ 1099511627776) : CtR Tryz.prog 38 [vxs,.int .i64 ((k : Nat) : Int)] w lo hi (fun v w'=>v = .int .i64 ((k + 5 * xs.length : Nat) : Int) ∧ Own w' lo hi 5 vxs (List.flatMap (Enc.enc (α:=Token)) (Vv 5 Gp k xs.length))):=by
 refine V0 Tryz.func38 Z Tryz.ntmps38 Z ?_
 refine Q8 [(0,vxs),(1,.int .i64 ((k : Nat) : Int))] ⟨Z,Z,trivial⟩ ?_
 have E : ModR w w lo hi:=ModR.refl w lo hi
 refine Qe (Qh [true] Z Z (Qa (Qf Z) Z (Qc (Qe (Qe (Qh [true] Z Z (Qa (Qf Z) Z (Qc (Q0 (Yp (fun (xq : Nat × Nat × List Token)=>let ⟨i,q,bs⟩:=xq;[(0,vxs),(1,.int .i64 ((q : Nat) : Int)),(4,.int .i64 0),(5,.int .i64 ((i : Nat) : Int))]) (fun (xq : Nat × Nat × List Token) w'=>let ⟨i,q,bs⟩:=xq;ModR w w' lo hi ∧ w.heap.size ≤ w'.heap.size ∧ i + bs.length = xs.length ∧ q = k + 5 * i ∧ Own w' lo hi 5 vxs (List.flatMap (Enc.enc (α:=Token)) (Vv 5 Gp k i ++ bs))) (fun (xq : Nat × Nat × List Token)=>let ⟨i,q,bs⟩:=xq;xs.length - i) (0,k,xs) ⟨Z,Z,Z,Z,trivial⟩ ⟨E,Nat.le_refl _,(by simp),(by simp),(by simpa [Vv] using hxs)⟩ ?_))))))))))
 clear E hxs
 rintro ⟨i,q,bs⟩ w1 ⟨E,z1,hi,hq,hxs⟩
 refine Q8 [(0,vxs),(1,.int .i64 ((q : Nat) : Int)),(4,.int .i64 0),(5,.int .i64 ((i : Nat) : Int))] ⟨Z,Z,Z,Z,trivial⟩ ?_
 refine Qe (Qe (Qh [true,true,true,true] Z Z (Qa (Qd Z) Z (Qa (Qd Z) Z (Qa (Yc Tryz.underlying37 Z (Own.lenE (by decide) hxs (by simp only [List.length_append,Qi,List.length_cons];omega))) Z (Qa (Yi Z Z) Z (Qc (Qt Z (fun hc1=>?_) (fun hc1=>?_)))))))))
 ·rcases bs with _ | ⟨x,bs⟩
  ·exact absurd hi (by have h:=hc1;simp at h ⊢;omega)
  simp only [List.length_cons] at hi
  have hc1n : i < xs.length:=by first | (have h:=of_decide_eq_true hc1;omega) | (have h:=hc1;simp at h;omega)
  refine Qo (Qe (Q0 (Qe (Qh [true,true,true,true,true,true,true,false] Z Z (Qa (Qd Z) Z (Qa (Qd Z) Z (Qa (Qd Z) Z (Qa (Gm Z Z (by decide) Z) Z (Qa (Xm Z Z) Z (Qa (Qz Gz Z Z (Own.rd (by decide) hxs) (by simp only [List.length_append,Qi,List.length_cons];omega)) Z (Qa (Qs Tl Z) Z (Xc (α:=Token) (i:=i) (f:=0) (⟨(Int.tmod ((q : Nat) : Int) 3) == 0,x.place,x.sum,x.black,x.capped⟩ : Token) Hs Z Z Z Z hxs (Qi _ _ _ _) (by decide) Z (fun w2 m1 hxs'=>?_)))))))))))))
  have hq:=hxs.blk
  replace hxs:=hxs'
  replace E:=E.mod m1 (fun g hg=>by have:=hq g hg;omega)
  have z2:=m1.size
  clear hq
  refine Qc (Qe (Qh [true,true,true] Z Z (Qa (Qd Z) Z (Qa (Ye Z Z (Yg (by unfold maxLen;omega))) Z (Qa (Qf Z) Z (Qc (Qe (Qh [true,true,true,true,true,false] Z Z (Qa (Qd Z) Z (Qa (Qd Z) Z (Qa (Qd Z) Z (Qa (Qz Gz Z Z (Own.rd (by decide) hxs) (by simp only [List.length_append,Qi,List.length_cons];omega)) Z (Qa (Qs Gx Z) Z (Xc (α:=Token) (i:=i) (f:=1) (⟨(Int.tmod ((q : Nat) : Int) 3) == 0,((q + 1 : Nat) : Int),x.sum,x.black,x.capped⟩ : Token) Yt Z Z Z Z hxs (Qi _ _ _ _) (by decide) Z (fun w3 m2 hxs'=>?_)))))))))))))))
  have hq:=hxs.blk
  replace hxs:=hxs'
  replace E:=E.mod m2 (fun g hg=>by have:=hq g hg;omega)
  have z3:=m2.size
  clear hq
  refine Qc (Qe (Qh [true,true,true] Z Z (Qa (Qd Z) Z (Qa (Ye Z Z (Yg (by unfold maxLen;omega))) Z (Qa (Qf Z) Z (Qc (Qe (Qh [true,true,true,true,true,false] Z Z (Qa (Qd Z) Z (Qa (Qd Z) Z (Qa (Qd Z) Z (Qa (Qz Gz Z Z (Own.rd (by decide) hxs) (by simp only [List.length_append,Qi,List.length_cons];omega)) Z (Qa (Qs Gw Z) Z (Xc (α:=Token) (i:=i) (f:=2) (⟨(Int.tmod ((q : Nat) : Int) 3) == 0,((q + 1 : Nat) : Int),((q + 1 + 1 : Nat) : Int),x.black,x.capped⟩ : Token) Yt Z Z Z Z hxs (Qi _ _ _ _) (by decide) Z (fun w4 m3 hxs'=>?_)))))))))))))))
  have hq:=hxs.blk
  replace hxs:=hxs'
  replace E:=E.mod m3 (fun g hg=>by have:=hq g hg;omega)
  have z4:=m3.size
  clear hq
  refine Qc (Qe (Qh [true,true,true] Z Z (Qa (Qd Z) Z (Qa (Ye Z Z (Yg (by unfold maxLen;omega))) Z (Qa (Qf Z) Z (Qc (Qe (Qh [true,true,true,true,true,true,true,false] Z Z (Qa (Qd Z) Z (Qa (Qd Z) Z (Qa (Qd Z) Z (Qa (Gm Z Z (by decide) Z) Z (Qa (Xm Z Z) Z (Qa (Qz Gz Z Z (Own.rd (by decide) hxs) (by simp only [List.length_append,Qi,List.length_cons];omega)) Z (Qa (Qs Ak Z) Z (Xc (α:=Token) (i:=i) (f:=3) (⟨(Int.tmod ((q : Nat) : Int) 3) == 0,((q + 1 : Nat) : Int),((q + 1 + 1 : Nat) : Int),(Int.tmod ((q + 1 + 1 + 1 : Nat) : Int) 3) == 0,x.capped⟩ : Token) Hs Z Z Z Z hxs (Qi _ _ _ _) (by decide) Z (fun w5 m4 hxs'=>?_)))))))))))))))))
  have hq:=hxs.blk
  replace hxs:=hxs'
  replace E:=E.mod m4 (fun g hg=>by have:=hq g hg;omega)
  have z5:=m4.size
  clear hq
  refine Qc (Qe (Qh [true,true,true] Z Z (Qa (Qd Z) Z (Qa (Ye Z Z (Yg (by unfold maxLen;omega))) Z (Qa (Qf Z) Z (Qc (Qe (Qh [true,true,true,true,true,true,true,false] Z Z (Qa (Qd Z) Z (Qa (Qd Z) Z (Qa (Qd Z) Z (Qa (Gm Z Z (by decide) Z) Z (Qa (Xm Z Z) Z (Qa (Qz Gz Z Z (Own.rd (by decide) hxs) (by simp only [List.length_append,Qi,List.length_cons];omega)) Z (Qa (Qs Aj Z) Z (Xc (α:=Token) (i:=i) (f:=4) (⟨(Int.tmod ((q : Nat) : Int) 3) == 0,((q + 1 : Nat) : Int),((q + 1 + 1 : Nat) : Int),(Int.tmod ((q + 1 + 1 + 1 : Nat) : Int) 3) == 0,(Int.tmod ((q + 1 + 1 + 1 + 1 : Nat) : Int) 3) == 0⟩ : Token) Hs Z Z Z Z hxs (Qi _ _ _ _) (by decide) Z (fun w6 m5 hxs'=>?_)))))))))))))))))
  have hq:=hxs.blk
  replace hxs:=hxs'
  replace E:=E.mod m5 (fun g hg=>by have:=hq g hg;omega)
  have z6:=m5.size
  clear hq
  refine Qc (Qh [true,true,true] Z Z (Qa (Qd Z) Z (Qa (Ye Z Z (Yg (by unfold maxLen;omega))) Z (Qa (Qf Z) Z (Qc (Q6 (Y0 (Qh [true,true,true] Z Z (Qa (Qd Z) Z (Qa (Ye Z Z (Yg (by unfold maxLen;omega))) Z (Qa (Qf Z) Z (Qc (Q6 (Yk (i + 1,q + 1 + 1 + 1 + 1 + 1,bs) (by simp;omega) ⟨rfl,rfl,rfl,rfl,trivial⟩ ⟨E,(by omega),(by omega),(by omega),(by subst hq;rw [← G3];exact hxs)⟩))))))))))))))
 ·have hc1n : ¬ i < xs.length:=by first | (have h:=of_decide_eq_false hc1;omega) | (have h:=hc1;simp at h;omega)
  refine Yq (Q5 (Q3 ?_))
  refine Qe (Qh [true,true] Z Z (Qa (Qd Z) Z (Qa (Qf Z) Z (Qc (Qv (Qm Z Z E ?_))))))
  exact ⟨by subst hq;rw [show i = xs.length from by omega],by obtain rfl : bs = []:=List.eq_nil_of_length_eq_zero (by omega);rw [show xs.length = i from by simp at hi;omega];simpa using hxs⟩

set_option maxRecDepth 20000 in
theorem heldTokenS (vxs : Value) (xs : List Token) (k : Nat) (w : World) (hxs : RdS w vxs xs) (hm : xs = Vv 5 Gp k xs.length) (hb : k + xs.length * 5 ≤ 1099511627776) : Ct Tryz.prog 43 [vxs,.int .i64 ((k : Nat) : Int)] w (fun v _=>v = .int .i64 ((k + 5 * xs.length : Nat) : Int)):=by
 refine Ym Tryz.func43 Z Tryz.ntmps43 Z ?_
 refine Q8 [(0,vxs),(1,.int .i64 ((k : Nat) : Int))] ⟨Z,Z,trivial⟩ ?_
 have E : Ext w w:=Ext.refl w
 refine Qe (Qh [true] Z Z (Qa (Qf Z) Z (Qc (Qe (Qe (Qh [true] Z Z (Qa (Qf Z) Z (Qc (Q0 (Yp (fun (xq : Nat × Nat)=>let ⟨i,q⟩:=xq;[(0,vxs),(1,.int .i64 ((q : Nat) : Int)),(4,.int .i64 0),(5,.int .i64 ((i : Nat) : Int))]) (fun (xq : Nat × Nat) w'=>let ⟨i,q⟩:=xq;Ext w w' ∧ w.heap.size ≤ w'.heap.size ∧ i ≤ xs.length ∧ q = k + 5 * i) (fun (xq : Nat × Nat)=>let ⟨i,q⟩:=xq;xs.length - i) (0,k) ⟨Z,Z,Z,Z,trivial⟩ ⟨E,Nat.le_refl _,Nat.zero_le _,(by simp)⟩ ?_))))))))))
 clear E
 rintro ⟨i,q⟩ w1 ⟨E,z1,hi,hq⟩
 refine Q8 [(0,vxs),(1,.int .i64 ((q : Nat) : Int)),(4,.int .i64 0),(5,.int .i64 ((i : Nat) : Int))] ⟨Z,Z,Z,Z,trivial⟩ ?_
 refine Qe (Qe (Qh [true,true,true,true] Z Z (Qa (Qd Z) Z (Qa (Qd Z) Z (Qa (Yc Tryz.underlying37 Z (hxs.ext E).len) Z (Qa (Yi Z Z) Z (Qc (Qt Z (fun hc1=>?_) (fun hc1=>?_)))))))))
 ·have hc1n : i < xs.length:=by first | (have h:=of_decide_eq_true hc1;omega) | (have h:=hc1;simp at h;omega)
  refine Qo (Qe (Q0 (Qe (Qe (Qh [true,true,true,true,true,true,true,true,true] Z Z (Qa (Qd Z) Z (Qa (Qd Z) Z ?_)))))))
  have hi1 : i < xs.length:=(by first | assumption | omega | (simp only [List.length_set];first | assumption | omega) | (simp only [List.getElem_set_self,List.length_set];first | assumption | omega) | (simp only [Yn,Yh,List.length_set];first | assumption | omega))
  refine Qa (Qz (i:=i) Gz Z Z (hxs.ext E) hi1) Z (Qa (Qs Tl Z) Z (Qa (Qk Hs Z (((hxs.ext E).get hi1).one 0 Z)) Z (Qa (Qd Z) Z (Qa (Gm Z Z (by decide) Z) Z (Qa (Xm Z Z) Z (Qa (U8 (Tryz.underlying4) Z Z) Z (Qc (Ys rfl (by subst hq;rw [Uc hm (by omega)];simp [Gp]) (Qo (Qe (Qh [true,true,true] Z Z (Qa (Qd Z) Z (Qa (Ye Z Z (Yg (by unfold maxLen;omega))) Z (Qa (Qf Z) Z (Qc (Qe (Qe (Qh [true,true,true,true,true,true,true] Z Z (Qa (Qd Z) Z (Qa (Qd Z) Z (Qa (Qz (i:=i) Gz Z Z (hxs.ext E) hi1) Z (Qa (Qs Gx Z) Z (Qa (Qk Yt Z (((hxs.ext E).get hi1).one 1 Z)) Z (Qa (Qd Z) Z (Qa (Yu Z Z) Z (Qc (Ys rfl (by subst hq;rw [Uc hm (by omega)];simp [Gp]) (Qo (Qe (Qh [true,true,true] Z Z (Qa (Qd Z) Z (Qa (Ye Z Z (Yg (by unfold maxLen;omega))) Z (Qa (Qf Z) Z (Qc (Qe (Qe (Qh [true,true,true,true,true,true,true] Z Z (Qa (Qd Z) Z (Qa (Qd Z) Z (Qa (Qz (i:=i) Gz Z Z (hxs.ext E) hi1) Z (Qa (Qs Gw Z) Z (Qa (Qk Yt Z (((hxs.ext E).get hi1).one 2 Z)) Z (Qa (Qd Z) Z (Qa (Yu Z Z) Z (Qc (Ys rfl (by subst hq;rw [Uc hm (by omega)];simp [Gp]) (Qo (Qe (Qh [true,true,true] Z Z (Qa (Qd Z) Z (Qa (Ye Z Z (Yg (by unfold maxLen;omega))) Z (Qa (Qf Z) Z (Qc (Qe (Qe (Qh [true,true,true,true,true,true,true,true,true] Z Z (Qa (Qd Z) Z (Qa (Qd Z) Z (Qa (Qz (i:=i) Gz Z Z (hxs.ext E) hi1) Z (Qa (Qs Ak Z) Z (Qa (Qk Hs Z (((hxs.ext E).get hi1).one 3 Z)) Z (Qa (Qd Z) Z (Qa (Gm Z Z (by decide) Z) Z (Qa (Xm Z Z) Z (Qa (U8 (Tryz.underlying4) Z Z) Z (Qc (Ys rfl (by subst hq;rw [Uc hm (by omega)];simp [Gp]) (Qo (Qe (Qh [true,true,true] Z Z (Qa (Qd Z) Z (Qa (Ye Z Z (Yg (by unfold maxLen;omega))) Z (Qa (Qf Z) Z (Qc (Qe (Qe (Qh [true,true,true,true,true,true,true,true,true] Z Z (Qa (Qd Z) Z (Qa (Qd Z) Z (Qa (Qz (i:=i) Gz Z Z (hxs.ext E) hi1) Z (Qa (Qs Aj Z) Z (Qa (Qk Hs Z (((hxs.ext E).get hi1).one 4 Z)) Z (Qa (Qd Z) Z (Qa (Gm Z Z (by decide) Z) Z (Qa (Xm Z Z) Z (Qa (U8 (Tryz.underlying4) Z Z) Z (Qc (Ys rfl (by subst hq;rw [Uc hm (by omega)];simp [Gp]) (Qo (Qh [true,true,true] Z Z (Qa (Qd Z) Z (Qa (Ye Z Z (Yg (by unfold maxLen;omega))) Z (Qa (Qf Z) Z (Qc (Q6 (Y0 (Qh [true,true,true] Z Z (Qa (Qd Z) Z (Qa (Ye Z Z (Yg (by unfold maxLen;omega))) Z (Qa (Qf Z) Z (Qc (Q6 (Yk (i + 1,q + 1 + 1 + 1 + 1 + 1) (by simp;omega) ⟨Z,Z,Z,Z,trivial⟩ ⟨E,(by omega),(by omega),(by omega)⟩)))))))))))))))))))))))))))))))))))))))))))))))))))))))))))))))))))))))))))))))))))))))))))))))))))))))
 ·have hc1n : ¬ i < xs.length:=by first | (have h:=of_decide_eq_false hc1;omega) | (have h:=hc1;simp at h;omega)
  refine Yq (Q5 (Q3 ?_))
  refine Qe (Qh [true,true] Z Z (Qa (Qd Z) Z (Qa (Qf Z) Z (Qc (Qv (Qm Z Z E ?_))))))
  subst hq;rw [show i = xs.length from by omega]

set_option maxRecDepth 20000 in
theorem markNewsS (vxs : Value) (lo hi : Nat) (xs : List News) (k : Nat) (w : World) (hxs : Own w lo hi 3 vxs (List.flatMap (Enc.enc (α:=News)) xs)) (hb : k + xs.length * 3 ≤ 1099511627776) : CtR Tryz.prog 39 [vxs,.int .i64 ((k : Nat) : Int)] w lo hi (fun v w'=>v = .int .i64 ((k + 3 * xs.length : Nat) : Int) ∧ Own w' lo hi 3 vxs (List.flatMap (Enc.enc (α:=News)) (Vv 3 C2 k xs.length))):=by
 refine V0 Tryz.func39 Z Tryz.ntmps39 Z ?_
 refine Q8 [(0,vxs),(1,.int .i64 ((k : Nat) : Int))] ⟨Z,Z,trivial⟩ ?_
 have E : ModR w w lo hi:=ModR.refl w lo hi
 refine Qe (Qh [true] Z Z (Qa (Qf Z) Z (Qc (Qe (Qe (Qh [true] Z Z (Qa (Qf Z) Z (Qc (Q0 (Yp (fun (xq : Nat × Nat × List News)=>let ⟨i,q,bs⟩:=xq;[(0,vxs),(1,.int .i64 ((q : Nat) : Int)),(4,.int .i64 0),(5,.int .i64 ((i : Nat) : Int))]) (fun (xq : Nat × Nat × List News) w'=>let ⟨i,q,bs⟩:=xq;ModR w w' lo hi ∧ w.heap.size ≤ w'.heap.size ∧ i + bs.length = xs.length ∧ q = k + 3 * i ∧ Own w' lo hi 3 vxs (List.flatMap (Enc.enc (α:=News)) (Vv 3 C2 k i ++ bs))) (fun (xq : Nat × Nat × List News)=>let ⟨i,q,bs⟩:=xq;xs.length - i) (0,k,xs) ⟨Z,Z,Z,Z,trivial⟩ ⟨E,Nat.le_refl _,(by simp),(by simp),(by simpa [Vv] using hxs)⟩ ?_))))))))))
 clear E hxs
 rintro ⟨i,q,bs⟩ w1 ⟨E,z1,hi,hq,hxs⟩
 refine Q8 [(0,vxs),(1,.int .i64 ((q : Nat) : Int)),(4,.int .i64 0),(5,.int .i64 ((i : Nat) : Int))] ⟨Z,Z,Z,Z,trivial⟩ ?_
 refine Qe (Qe (Qh [true,true,true,true] Z Z (Qa (Qd Z) Z (Qa (Qd Z) Z (Qa (Yc Tryz.underlying38 Z (Own.lenE (by decide) hxs (by simp only [List.length_append,Qi,List.length_cons];omega))) Z (Qa (Yi Z Z) Z (Qc (Qt Z (fun hc1=>?_) (fun hc1=>?_)))))))))
 ·rcases bs with _ | ⟨x,bs⟩
  ·exact absurd hi (by have h:=hc1;simp at h ⊢;omega)
  simp only [List.length_cons] at hi
  have hc1n : i < xs.length:=by first | (have h:=of_decide_eq_true hc1;omega) | (have h:=hc1;simp at h;omega)
  refine Qo (Qe (Q0 (Qe (Qh [true,true,true,true,true,false] Z Z (Qa (Qd Z) Z (Qa (Qd Z) Z (Qa (Qd Z) Z (Qa (Qz Cn Z Z (Own.rd (by decide) hxs) (by simp only [List.length_append,Qi,List.length_cons];omega)) Z (Qa (Qs Tk Z) Z (Xc (α:=News) (i:=i) (f:=0) (⟨((q : Nat) : Int),x.epoch,x.capped⟩ : News) Yt Z Z Z Z hxs (Qi _ _ _ _) (by decide) Z (fun w2 m1 hxs'=>?_)))))))))))
  have hq:=hxs.blk
  replace hxs:=hxs'
  replace E:=E.mod m1 (fun g hg=>by have:=hq g hg;omega)
  have z2:=m1.size
  clear hq
  refine Qc (Qe (Qh [true,true,true] Z Z (Qa (Qd Z) Z (Qa (Ye Z Z (Yg (by unfold maxLen;omega))) Z (Qa (Qf Z) Z (Qc (Qe (Qh [true,true,true,true,true,false] Z Z (Qa (Qd Z) Z (Qa (Qd Z) Z (Qa (Qd Z) Z (Qa (Qz Cn Z Z (Own.rd (by decide) hxs) (by simp only [List.length_append,Qi,List.length_cons];omega)) Z (Qa (Qs Tj Z) Z (Xc (α:=News) (i:=i) (f:=1) (⟨((q : Nat) : Int),((q + 1 : Nat) : Int),x.capped⟩ : News) Yt Z Z Z Z hxs (Qi _ _ _ _) (by decide) Z (fun w3 m2 hxs'=>?_)))))))))))))))
  have hq:=hxs.blk
  replace hxs:=hxs'
  replace E:=E.mod m2 (fun g hg=>by have:=hq g hg;omega)
  have z3:=m2.size
  clear hq
  refine Qc (Qe (Qh [true,true,true] Z Z (Qa (Qd Z) Z (Qa (Ye Z Z (Yg (by unfold maxLen;omega))) Z (Qa (Qf Z) Z (Qc (Qe (Qh [true,true,true,true,true,true,true,false] Z Z (Qa (Qd Z) Z (Qa (Qd Z) Z (Qa (Qd Z) Z (Qa (Gm Z Z (by decide) Z) Z (Qa (Xm Z Z) Z (Qa (Qz Cn Z Z (Own.rd (by decide) hxs) (by simp only [List.length_append,Qi,List.length_cons];omega)) Z (Qa (Qs Ai Z) Z (Xc (α:=News) (i:=i) (f:=2) (⟨((q : Nat) : Int),((q + 1 : Nat) : Int),(Int.tmod ((q + 1 + 1 : Nat) : Int) 3) == 0⟩ : News) Hs Z Z Z Z hxs (Qi _ _ _ _) (by decide) Z (fun w4 m3 hxs'=>?_)))))))))))))))))
  have hq:=hxs.blk
  replace hxs:=hxs'
  replace E:=E.mod m3 (fun g hg=>by have:=hq g hg;omega)
  have z4:=m3.size
  clear hq
  refine Qc (Qh [true,true,true] Z Z (Qa (Qd Z) Z (Qa (Ye Z Z (Yg (by unfold maxLen;omega))) Z (Qa (Qf Z) Z (Qc (Q6 (Y0 (Qh [true,true,true] Z Z (Qa (Qd Z) Z (Qa (Ye Z Z (Yg (by unfold maxLen;omega))) Z (Qa (Qf Z) Z (Qc (Q6 (Yk (i + 1,q + 1 + 1 + 1,bs) (by simp;omega) ⟨rfl,rfl,rfl,rfl,trivial⟩ ⟨E,(by omega),(by omega),(by omega),(by subst hq;rw [← G3];exact hxs)⟩))))))))))))))
 ·have hc1n : ¬ i < xs.length:=by first | (have h:=of_decide_eq_false hc1;omega) | (have h:=hc1;simp at h;omega)
  refine Yq (Q5 (Q3 ?_))
  refine Qe (Qh [true,true] Z Z (Qa (Qd Z) Z (Qa (Qf Z) Z (Qc (Qv (Qm Z Z E ?_))))))
  exact ⟨by subst hq;rw [show i = xs.length from by omega],by obtain rfl : bs = []:=List.eq_nil_of_length_eq_zero (by omega);rw [show xs.length = i from by simp at hi;omega];simpa using hxs⟩

set_option maxRecDepth 20000 in
theorem heldNewsS (vxs : Value) (xs : List News) (k : Nat) (w : World) (hxs : RdS w vxs xs) (hm : xs = Vv 3 C2 k xs.length) (hb : k + xs.length * 3 ≤ 1099511627776) : Ct Tryz.prog 44 [vxs,.int .i64 ((k : Nat) : Int)] w (fun v _=>v = .int .i64 ((k + 3 * xs.length : Nat) : Int)):=by
 refine Ym Tryz.func44 Z Tryz.ntmps44 Z ?_
 refine Q8 [(0,vxs),(1,.int .i64 ((k : Nat) : Int))] ⟨Z,Z,trivial⟩ ?_
 have E : Ext w w:=Ext.refl w
 refine Qe (Qh [true] Z Z (Qa (Qf Z) Z (Qc (Qe (Qe (Qh [true] Z Z (Qa (Qf Z) Z (Qc (Q0 (Yp (fun (xq : Nat × Nat)=>let ⟨i,q⟩:=xq;[(0,vxs),(1,.int .i64 ((q : Nat) : Int)),(4,.int .i64 0),(5,.int .i64 ((i : Nat) : Int))]) (fun (xq : Nat × Nat) w'=>let ⟨i,q⟩:=xq;Ext w w' ∧ w.heap.size ≤ w'.heap.size ∧ i ≤ xs.length ∧ q = k + 3 * i) (fun (xq : Nat × Nat)=>let ⟨i,q⟩:=xq;xs.length - i) (0,k) ⟨Z,Z,Z,Z,trivial⟩ ⟨E,Nat.le_refl _,Nat.zero_le _,(by simp)⟩ ?_))))))))))
 clear E
 rintro ⟨i,q⟩ w1 ⟨E,z1,hi,hq⟩
 refine Q8 [(0,vxs),(1,.int .i64 ((q : Nat) : Int)),(4,.int .i64 0),(5,.int .i64 ((i : Nat) : Int))] ⟨Z,Z,Z,Z,trivial⟩ ?_
 refine Qe (Qe (Qh [true,true,true,true] Z Z (Qa (Qd Z) Z (Qa (Qd Z) Z (Qa (Yc Tryz.underlying38 Z (hxs.ext E).len) Z (Qa (Yi Z Z) Z (Qc (Qt Z (fun hc1=>?_) (fun hc1=>?_)))))))))
 ·have hc1n : i < xs.length:=by first | (have h:=of_decide_eq_true hc1;omega) | (have h:=hc1;simp at h;omega)
  refine Qo (Qe (Q0 (Qe (Qe (Qh [true,true,true,true,true,true,true] Z Z (Qa (Qd Z) Z (Qa (Qd Z) Z ?_)))))))
  have hi1 : i < xs.length:=(by first | assumption | omega | (simp only [List.length_set];first | assumption | omega) | (simp only [List.getElem_set_self,List.length_set];first | assumption | omega) | (simp only [Yn,Yh,List.length_set];first | assumption | omega))
  refine Qa (Qz (i:=i) Cn Z Z (hxs.ext E) hi1) Z (Qa (Qs Tk Z) Z (Qa (Qk Yt Z (((hxs.ext E).get hi1).one 0 Z)) Z (Qa (Qd Z) Z (Qa (Yu Z Z) Z (Qc (Ys rfl (by subst hq;rw [Uc hm (by omega)];simp [C2]) (Qo (Qe (Qh [true,true,true] Z Z (Qa (Qd Z) Z (Qa (Ye Z Z (Yg (by unfold maxLen;omega))) Z (Qa (Qf Z) Z (Qc (Qe (Qe (Qh [true,true,true,true,true,true,true] Z Z (Qa (Qd Z) Z (Qa (Qd Z) Z (Qa (Qz (i:=i) Cn Z Z (hxs.ext E) hi1) Z (Qa (Qs Tj Z) Z (Qa (Qk Yt Z (((hxs.ext E).get hi1).one 1 Z)) Z (Qa (Qd Z) Z (Qa (Yu Z Z) Z (Qc (Ys rfl (by subst hq;rw [Uc hm (by omega)];simp [C2]) (Qo (Qe (Qh [true,true,true] Z Z (Qa (Qd Z) Z (Qa (Ye Z Z (Yg (by unfold maxLen;omega))) Z (Qa (Qf Z) Z (Qc (Qe (Qe (Qh [true,true,true,true,true,true,true,true,true] Z Z (Qa (Qd Z) Z (Qa (Qd Z) Z (Qa (Qz (i:=i) Cn Z Z (hxs.ext E) hi1) Z (Qa (Qs Ai Z) Z (Qa (Qk Hs Z (((hxs.ext E).get hi1).one 2 Z)) Z (Qa (Qd Z) Z (Qa (Gm Z Z (by decide) Z) Z (Qa (Xm Z Z) Z (Qa (U8 (Tryz.underlying4) Z Z) Z (Qc (Ys rfl (by subst hq;rw [Uc hm (by omega)];simp [C2]) (Qo (Qh [true,true,true] Z Z (Qa (Qd Z) Z (Qa (Ye Z Z (Yg (by unfold maxLen;omega))) Z (Qa (Qf Z) Z (Qc (Q6 (Y0 (Qh [true,true,true] Z Z (Qa (Qd Z) Z (Qa (Ye Z Z (Yg (by unfold maxLen;omega))) Z (Qa (Qf Z) Z (Qc (Q6 (Yk (i + 1,q + 1 + 1 + 1) (by simp;omega) ⟨Z,Z,Z,Z,trivial⟩ ⟨E,(by omega),(by omega),(by omega)⟩)))))))))))))))))))))))))))))))))))))))))))))))))))))))))))))
 ·have hc1n : ¬ i < xs.length:=by first | (have h:=of_decide_eq_false hc1;omega) | (have h:=hc1;simp at h;omega)
  refine Yq (Q5 (Q3 ?_))
  refine Qe (Qh [true,true] Z Z (Qa (Qd Z) Z (Qa (Qf Z) Z (Qc (Qv (Qm Z Z E ?_))))))
  subst hq;rw [show i = xs.length from by omega]

set_option maxHeartbeats 4000000 in
set_option maxRecDepth 20000 in
theorem markWorkerS (vxs : Value) (lo hi : Nat) (fp : List Nat) (xs : List Worker) (k : Nat) (w : World) (gxs : OwF w lo hi vxs xs fp) (hhi : hi ≤ w.heap.size) (hb : k + 5 * X0 Q7 xs ≤ 1099511627776) : CtR Tryz.prog 36 [vxs,.int .i64 ((k : Nat) : Int)] w lo hi (fun v w'=>v = .int .i64 (((Xt Vw) k xs : Nat) : Int) ∧ OwF w' lo hi vxs ((Xz Vw Hf) k xs) fp ∧ Kq w w' fp):=by
 have hxs : OwK w fp w lo hi vxs xs:=⟨gxs,Kq.refl _ _⟩
 have hmx : xs.length ≤ maxLen:=hxs.rd.1.1
 unfold maxLen at hmx
 refine V0 Tryz.func36 Z Tryz.ntmps36 Z ?_
 refine Q8 [(0,vxs),(1,.int .i64 ((k : Nat) : Int))] ⟨Z,Z,trivial⟩ ?_
 have E : ModR w w lo hi:=ModR.refl w lo hi
 refine Qe (Qh [true] Z Z (Qa (Qf Z) Z (Qc (Qe (Qe (Qh [true] Z Z (Qa (Qf Z) Z (Qc (Q0 (Yp (fun (xq : Nat × Nat)=>let ⟨i,q⟩:=xq;[(0,vxs),(1,.int .i64 ((q : Nat) : Int)),(4,.int .i64 0),(5,.int .i64 ((i : Nat) : Int))]) (fun (xq : Nat × Nat) w'=>let ⟨i,q⟩:=xq;ModR w w' lo hi ∧ w.heap.size ≤ w'.heap.size ∧ i ≤ xs.length ∧ q = (Xt Vw) k (xs.take i) ∧ OwK w fp w' lo hi vxs ((Xz Vw Hf) k (xs.take i) ++ xs.drop i)) (fun (xq : Nat × Nat)=>let ⟨i,q⟩:=xq;xs.length - i) (0,k) ⟨Z,Z,Z,Z,trivial⟩ ⟨E,Nat.le_refl _,Nat.zero_le _,Z,(by simpa [Xz] using hxs)⟩ ?_))))))))))
 clear E hxs
 rintro ⟨i,q⟩ w1 ⟨E,z1,hi0,hq,hxs⟩
 refine Q8 [(0,vxs),(1,.int .i64 ((q : Nat) : Int)),(4,.int .i64 0),(5,.int .i64 ((i : Nat) : Int))] ⟨Z,Z,Z,Z,trivial⟩ ?_
 refine Qe (Qe (Qh [true,true,true,true] Z Z (Qa (Qd Z) Z (Qa (Qd Z) Z (Qa (Yc Tryz.underlying35 Z (OwK.lenE (n:=xs.length) hxs (by simp [Ua];omega))) Z (Qa (Yi Z Z) Z (Qc (Qt Z (fun hc1=>?_) (fun hc1=>?_)))))))))
 ·have hlt : i < xs.length:=by have h:=of_decide_eq_true hc1;omega
  rw [C5 hlt] at hxs
  obtain ⟨_,ho1,hrow⟩:=OwK.focus hxs
  obtain ⟨o1,o2,o3,o4,o5,o6,o7,o8,rfl,sp1,hw1,hw2,hw3,hw4,hw5,hw6,hw7,hw8⟩:=Worker.opO ho1
  clear hxs
  have hl0 : ((Xz Vw Hf) k (xs.take i)).length = i:=by rw [Ua];simp;omega
  have hn0 : i + 1 + (xs.drop (i + 1)).length = xs.length:=by simp;omega
  have hqk:=Cf (k:=k) A8 hlt;rw [← hq] at hqk;unfold Vw at hqk
  have hc1n : i < xs.length:=by first | (have h:=of_decide_eq_true hc1;omega) | (have h:=hc1;simp at h;omega)
  refine Qo (Qe (Q0 (Qe (Qh [true,true,true,true,true,true,false,true] Z Z (Qa (Qd Z) Z (Qa (Qd Z) Z (Qa (Qz (i:=i) K5 Z Z (RowK.same1 hrow hl0 hn0) (by simp;omega)) Z (Qa (Qs V8 Z) Z (Qa (Qk Xq Z ((RowK.at hrow hl0).one 0 Z)) Z (Qa (Qd Z) Z (Km Tryz.call78 Z Z (markRecordS o1 (bl o1) (bh o1) ((xs[i]'hlt).queue) q _ (Own.tight hw1) (by first | omega | (simp only [Qi];omega) | (rw [Qi];done) | (simp only [Qi];done))) Z (fun _ w2 e1 hv=>?_))))))))))))
  obtain ⟨rfl,hw1'⟩:=hv
  have e1c:=ModR.loose e1 (Own.blk hw1)
  replace hw1:=Own.loose hw1' (Own.blk hw1)
  clear hw1'
  replace E:=E.trans e1c (by omega) (by omega);replace hw2:=Own.modRS hw2 e1 sp1.1.1;replace hw3:=Own.modRS hw3 e1 sp1.1.2.1;replace hw4:=Own.modRS hw4 e1 sp1.1.2.2.1;replace hw5:=Own.modRS hw5 e1 sp1.1.2.2.2.1;replace hw6:=Own.modRS hw6 e1 sp1.1.2.2.2.2.1;replace hw7:=Own.modRS hw7 e1 sp1.1.2.2.2.2.2.1;replace hw8:=Own.modRS hw8 e1 sp1.1.2.2.2.2.2.2.1;replace hrow:=RowK.modRS hrow e1 (by simp)
  have z2:=e1c.size
  refine Qa (Qf Z) Z (Qc (Qe (Qh [true,true,true,true,true,true,false,true] Z Z (Qa (Qd Z) Z (Qa (Qd Z) Z (Qa (Qz (i:=i) K5 Z Z (RowK.same1 hrow hl0 hn0) (by simp;omega)) Z (Qa (Qs Un Z) Z (Qa (Qk Xq Z ((RowK.at hrow hl0).one 1 Z)) Z (Qa (Qd Z) Z (Km Tryz.call78 Z Z (markRecordS o2 (bl o2) (bh o2) ((xs[i]'hlt).staged) (q + 5 * ((xs[i]'hlt).queue).length) _ (Own.tight hw2) (by first | omega | (simp only [Qi];omega) | (rw [Qi];done) | (simp only [Qi];done))) Z (fun _ w3 e2 hv=>?_)))))))))))
  obtain ⟨rfl,hw2'⟩:=hv
  have e2c:=ModR.loose e2 (Own.blk hw2)
  replace hw2:=Own.loose hw2' (Own.blk hw2)
  clear hw2'
  replace E:=E.trans e2c (by omega) (by omega);replace hw1:=Own.modRS hw1 e2 (sp1.1.1).symm;replace hw3:=Own.modRS hw3 e2 sp1.2.1.1;replace hw4:=Own.modRS hw4 e2 sp1.2.1.2.1;replace hw5:=Own.modRS hw5 e2 sp1.2.1.2.2.1;replace hw6:=Own.modRS hw6 e2 sp1.2.1.2.2.2.1;replace hw7:=Own.modRS hw7 e2 sp1.2.1.2.2.2.2.1;replace hw8:=Own.modRS hw8 e2 sp1.2.1.2.2.2.2.2.1;replace hrow:=RowK.modRS hrow e2 (by simp)
  have z3:=e2c.size
  refine Qa (Qf Z) Z (Qc (Qe (Qh [true,true,true,true,true,true,false,true] Z Z (Qa (Qd Z) Z (Qa (Qd Z) Z (Qa (Qz (i:=i) K5 Z Z (RowK.same1 hrow hl0 hn0) (by simp;omega)) Z (Qa (Qs Vd Z) Z (Qa (Qk Xq Z ((RowK.at hrow hl0).one 2 Z)) Z (Qa (Qd Z) Z (Km Tryz.call78 Z Z (markRecordS o3 (bl o3) (bh o3) ((xs[i]'hlt).inputs) ((q + 5 * ((xs[i]'hlt).queue).length) + 5 * ((xs[i]'hlt).staged).length) _ (Own.tight hw3) (by first | omega | (simp only [Qi];omega) | (rw [Qi];done) | (simp only [Qi];done))) Z (fun _ w4 e3 hv=>?_)))))))))))
  obtain ⟨rfl,hw3'⟩:=hv
  have e3c:=ModR.loose e3 (Own.blk hw3)
  replace hw3:=Own.loose hw3' (Own.blk hw3)
  clear hw3'
  replace E:=E.trans e3c (by omega) (by omega);replace hw1:=Own.modRS hw1 e3 (sp1.1.2.1).symm;replace hw2:=Own.modRS hw2 e3 (sp1.2.1.1).symm;replace hw4:=Own.modRS hw4 e3 sp1.2.2.1.1;replace hw5:=Own.modRS hw5 e3 sp1.2.2.1.2.1;replace hw6:=Own.modRS hw6 e3 sp1.2.2.1.2.2.1;replace hw7:=Own.modRS hw7 e3 sp1.2.2.1.2.2.2.1;replace hw8:=Own.modRS hw8 e3 sp1.2.2.1.2.2.2.2.1;replace hrow:=RowK.modRS hrow e3 (by simp)
  have z4:=e3c.size
  refine Qa (Qf Z) Z (Qc (Qe (Qh [true,true,true,true,true,true,false,true] Z Z (Qa (Qd Z) Z (Qa (Qd Z) Z (Qa (Qz (i:=i) K5 Z Z (RowK.same1 hrow hl0 hn0) (by simp;omega)) Z (Qa (Qs Te Z) Z (Qa (Qk sc75 Z ((RowK.at hrow hl0).one 3 Z)) Z (Qa (Qd Z) Z (Km Tryz.call79 Z Z (markCellS o4 (bl o4) (bh o4) ((xs[i]'hlt).cells) (((q + 5 * ((xs[i]'hlt).queue).length) + 5 * ((xs[i]'hlt).staged).length) + 5 * ((xs[i]'hlt).inputs).length) _ (Own.tight hw4) (by first | omega | (simp only [Qi];omega) | (rw [Qi];done) | (simp only [Qi];done))) Z (fun _ w5 e4 hv=>?_)))))))))))
  obtain ⟨rfl,hw4'⟩:=hv
  have e4c:=ModR.loose e4 (Own.blk hw4)
  replace hw4:=Own.loose hw4' (Own.blk hw4)
  clear hw4'
  replace E:=E.trans e4c (by omega) (by omega);replace hw1:=Own.modRS hw1 e4 (sp1.1.2.2.1).symm;replace hw2:=Own.modRS hw2 e4 (sp1.2.1.2.1).symm;replace hw3:=Own.modRS hw3 e4 (sp1.2.2.1.1).symm;replace hw5:=Own.modRS hw5 e4 sp1.2.2.2.1.1;replace hw6:=Own.modRS hw6 e4 sp1.2.2.2.1.2.1;replace hw7:=Own.modRS hw7 e4 sp1.2.2.2.1.2.2.1;replace hw8:=Own.modRS hw8 e4 sp1.2.2.2.1.2.2.2.1;replace hrow:=RowK.modRS hrow e4 (by simp)
  have z5:=e4c.size
  refine Qa (Qf Z) Z (Qc (Qe (Qh [true,true,true,true,true,true,false,true] Z Z (Qa (Qd Z) Z (Qa (Qd Z) Z (Qa (Qz (i:=i) K5 Z Z (RowK.same1 hrow hl0 hn0) (by simp;omega)) Z (Qa (Qs Vc Z) Z (Qa (Qk K0 Z ((RowK.at hrow hl0).one 4 Z)) Z (Qa (Qd Z) Z (Km Tryz.call80 Z Z (markIntS o5 (bl o5) (bh o5) ((xs[i]'hlt).sums) ((((q + 5 * ((xs[i]'hlt).queue).length) + 5 * ((xs[i]'hlt).staged).length) + 5 * ((xs[i]'hlt).inputs).length) + 4 * ((xs[i]'hlt).cells).length) _ (Own.tight hw5) (by first | omega | (simp only [Qi];omega) | (rw [Qi];done) | (simp only [Qi];done))) Z (fun _ w6 e5 hv=>?_)))))))))))
  obtain ⟨rfl,hw5'⟩:=hv
  have e5c:=ModR.loose e5 (Own.blk hw5)
  replace hw5:=Own.loose hw5' (Own.blk hw5)
  clear hw5'
  replace E:=E.trans e5c (by omega) (by omega);replace hw1:=Own.modRS hw1 e5 (sp1.1.2.2.2.1).symm;replace hw2:=Own.modRS hw2 e5 (sp1.2.1.2.2.1).symm;replace hw3:=Own.modRS hw3 e5 (sp1.2.2.1.2.1).symm;replace hw4:=Own.modRS hw4 e5 (sp1.2.2.2.1.1).symm;replace hw6:=Own.modRS hw6 e5 sp1.2.2.2.2.1.1;replace hw7:=Own.modRS hw7 e5 sp1.2.2.2.2.1.2.1;replace hw8:=Own.modRS hw8 e5 sp1.2.2.2.2.1.2.2.1;replace hrow:=RowK.modRS hrow e5 (by simp)
  have z6:=e5c.size
  refine Qa (Qf Z) Z (Qc (Qe (Qh [true,true,true,true,true,true,false,true] Z Z (Qa (Qd Z) Z (Qa (Qd Z) Z (Qa (Qz (i:=i) K5 Z Z (RowK.same1 hrow hl0 hn0) (by simp;omega)) Z (Qa (Qs Td Z) Z (Qa (Qk Hb Z ((RowK.at hrow hl0).one 5 Z)) Z (Qa (Qd Z) Z (Km Tryz.call81 Z Z (markBoolS o6 (bl o6) (bh o6) ((xs[i]'hlt).black) (((((q + 5 * ((xs[i]'hlt).queue).length) + 5 * ((xs[i]'hlt).staged).length) + 5 * ((xs[i]'hlt).inputs).length) + 4 * ((xs[i]'hlt).cells).length) + 1 * ((xs[i]'hlt).sums).length) _ (Own.tight hw6) (by first | omega | (simp only [Qi];omega) | (rw [Qi];done) | (simp only [Qi];done))) Z (fun _ w7 e6 hv=>?_)))))))))))
  obtain ⟨rfl,hw6'⟩:=hv
  have e6c:=ModR.loose e6 (Own.blk hw6)
  replace hw6:=Own.loose hw6' (Own.blk hw6)
  clear hw6'
  replace E:=E.trans e6c (by omega) (by omega);replace hw1:=Own.modRS hw1 e6 (sp1.1.2.2.2.2.1).symm;replace hw2:=Own.modRS hw2 e6 (sp1.2.1.2.2.2.1).symm;replace hw3:=Own.modRS hw3 e6 (sp1.2.2.1.2.2.1).symm;replace hw4:=Own.modRS hw4 e6 (sp1.2.2.2.1.2.1).symm;replace hw5:=Own.modRS hw5 e6 (sp1.2.2.2.2.1.1).symm;replace hw7:=Own.modRS hw7 e6 sp1.2.2.2.2.2.1.1;replace hw8:=Own.modRS hw8 e6 sp1.2.2.2.2.2.1.2.1;replace hrow:=RowK.modRS hrow e6 (by simp)
  have z7:=e6c.size
  refine Qa (Qf Z) Z (Qc (Qe (Qh [true,true,true,true,true,true,false,true] Z Z (Qa (Qd Z) Z (Qa (Qd Z) Z (Qa (Qz (i:=i) K5 Z Z (RowK.same1 hrow hl0 hn0) (by simp;omega)) Z (Qa (Qs Tc Z) Z (Qa (Qk Hb Z ((RowK.at hrow hl0).one 6 Z)) Z (Qa (Qd Z) Z (Km Tryz.call81 Z Z (markBoolS o7 (bl o7) (bh o7) ((xs[i]'hlt).caps) ((((((q + 5 * ((xs[i]'hlt).queue).length) + 5 * ((xs[i]'hlt).staged).length) + 5 * ((xs[i]'hlt).inputs).length) + 4 * ((xs[i]'hlt).cells).length) + 1 * ((xs[i]'hlt).sums).length) + 1 * ((xs[i]'hlt).black).length) _ (Own.tight hw7) (by first | omega | (simp only [Qi];omega) | (rw [Qi];done) | (simp only [Qi];done))) Z (fun _ w8 e7 hv=>?_)))))))))))
  obtain ⟨rfl,hw7'⟩:=hv
  have e7c:=ModR.loose e7 (Own.blk hw7)
  replace hw7:=Own.loose hw7' (Own.blk hw7)
  clear hw7'
  replace E:=E.trans e7c (by omega) (by omega);replace hw1:=Own.modRS hw1 e7 (sp1.1.2.2.2.2.2.1).symm;replace hw2:=Own.modRS hw2 e7 (sp1.2.1.2.2.2.2.1).symm;replace hw3:=Own.modRS hw3 e7 (sp1.2.2.1.2.2.2.1).symm;replace hw4:=Own.modRS hw4 e7 (sp1.2.2.2.1.2.2.1).symm;replace hw5:=Own.modRS hw5 e7 (sp1.2.2.2.2.1.2.1).symm;replace hw6:=Own.modRS hw6 e7 (sp1.2.2.2.2.2.1.1).symm;replace hw8:=Own.modRS hw8 e7 sp1.2.2.2.2.2.2.1.1;replace hrow:=RowK.modRS hrow e7 (by simp)
  have z8:=e7c.size
  refine Qa (Qf Z) Z (Qc (Qh [true,true,true,true,true,true,false,true] Z Z (Qa (Qd Z) Z (Qa (Qd Z) Z (Qa (Qz (i:=i) K5 Z Z (RowK.same1 hrow hl0 hn0) (by simp;omega)) Z (Qa (Qs V7 Z) Z (Qa (Qk Aq Z ((RowK.at hrow hl0).one 7 Z)) Z (Qa (Qd Z) Z (Km Tryz.call82 Z Z (markDoneS o8 (bl o8) (bh o8) ((xs[i]'hlt).dones) (((((((q + 5 * ((xs[i]'hlt).queue).length) + 5 * ((xs[i]'hlt).staged).length) + 5 * ((xs[i]'hlt).inputs).length) + 4 * ((xs[i]'hlt).cells).length) + 1 * ((xs[i]'hlt).sums).length) + 1 * ((xs[i]'hlt).black).length) + 1 * ((xs[i]'hlt).caps).length) _ (Own.tight hw8) (by first | omega | (simp only [Qi];omega) | (rw [Qi];done) | (simp only [Qi];done))) Z (fun _ w9 e8 hv=>?_))))))))))
  obtain ⟨rfl,hw8'⟩:=hv
  have e8c:=ModR.loose e8 (Own.blk hw8)
  replace hw8:=Own.loose hw8' (Own.blk hw8)
  clear hw8'
  replace E:=E.trans e8c (by omega) (by omega);replace hw1:=Own.modRS hw1 e8 (sp1.1.2.2.2.2.2.2.1).symm;replace hw2:=Own.modRS hw2 e8 (sp1.2.1.2.2.2.2.2.1).symm;replace hw3:=Own.modRS hw3 e8 (sp1.2.2.1.2.2.2.2.1).symm;replace hw4:=Own.modRS hw4 e8 (sp1.2.2.2.1.2.2.2.1).symm;replace hw5:=Own.modRS hw5 e8 (sp1.2.2.2.2.1.2.2.1).symm;replace hw6:=Own.modRS hw6 e8 (sp1.2.2.2.2.2.1.2.1).symm;replace hw7:=Own.modRS hw7 e8 (sp1.2.2.2.2.2.2.1.1).symm;replace hrow:=RowK.modRS hrow e8 (by simp)
  have z9:=e8c.size
  refine Qa (Qf Z) Z (Qc (Q6 (Y0 (Qh [true,true,true] Z Z (Qa (Qd Z) Z (Qa (Ye Z Z (Yg (by unfold maxLen;omega))) Z (Qa (Qf Z) Z (Qc ?_))))))))
  have hxs:=RowK.close hrow (Worker.mkO (⟨Vv 5 Kr q ((xs[i]'hlt).queue).length,Vv 5 Kr (q + 5 * ((xs[i]'hlt).queue).length) ((xs[i]'hlt).staged).length,Vv 5 Kr ((q + 5 * ((xs[i]'hlt).queue).length) + 5 * ((xs[i]'hlt).staged).length) ((xs[i]'hlt).inputs).length,Vv 4 H7 (((q + 5 * ((xs[i]'hlt).queue).length) + 5 * ((xs[i]'hlt).staged).length) + 5 * ((xs[i]'hlt).inputs).length) ((xs[i]'hlt).cells).length,Vv 1 Ae ((((q + 5 * ((xs[i]'hlt).queue).length) + 5 * ((xs[i]'hlt).staged).length) + 5 * ((xs[i]'hlt).inputs).length) + 4 * ((xs[i]'hlt).cells).length) ((xs[i]'hlt).sums).length,Vv 1 T3 (((((q + 5 * ((xs[i]'hlt).queue).length) + 5 * ((xs[i]'hlt).staged).length) + 5 * ((xs[i]'hlt).inputs).length) + 4 * ((xs[i]'hlt).cells).length) + 1 * ((xs[i]'hlt).sums).length) ((xs[i]'hlt).black).length,Vv 1 T3 ((((((q + 5 * ((xs[i]'hlt).queue).length) + 5 * ((xs[i]'hlt).staged).length) + 5 * ((xs[i]'hlt).inputs).length) + 4 * ((xs[i]'hlt).cells).length) + 1 * ((xs[i]'hlt).sums).length) + 1 * ((xs[i]'hlt).black).length) ((xs[i]'hlt).caps).length,Vv 2 C3 (((((((q + 5 * ((xs[i]'hlt).queue).length) + 5 * ((xs[i]'hlt).staged).length) + 5 * ((xs[i]'hlt).inputs).length) + 4 * ((xs[i]'hlt).cells).length) + 1 * ((xs[i]'hlt).sums).length) + 1 * ((xs[i]'hlt).black).length) + 1 * ((xs[i]'hlt).caps).length) ((xs[i]'hlt).dones).length⟩ : Worker) sp1 (Own.widen hw1 (by omega) (by omega)) (Own.widen hw2 (by omega) (by omega)) (Own.widen hw3 (by omega) (by omega)) (Own.widen hw4 (by omega) (by omega)) (Own.widen hw5 (by omega) (by omega)) (Own.widen hw6 (by omega) (by omega)) (Own.widen hw7 (by omega) (by omega)) (Own.widen hw8 (by omega) (by omega)))
  refine Q6 (Yk (i + 1,(((((((q + 5 * ((xs[i]'hlt).queue).length) + 5 * ((xs[i]'hlt).staged).length) + 5 * ((xs[i]'hlt).inputs).length) + 4 * ((xs[i]'hlt).cells).length) + 1 * ((xs[i]'hlt).sums).length) + 1 * ((xs[i]'hlt).black).length) + 1 * ((xs[i]'hlt).caps).length) + 2 * ((xs[i]'hlt).dones).length) (by simp;omega) ⟨Z,Z,Z,Z,trivial⟩ ⟨E,(by omega),(by omega),(by rw [V5 hlt,← hq];rfl),(by rw [H8 hlt,← hq];exact hxs)⟩)
 ·have hc1n : ¬ i < xs.length:=by first | (have h:=of_decide_eq_false hc1;omega) | (have h:=hc1;simp at h;omega)
  refine Yq (Q5 (Q3 ?_))
  refine Qe (Qh [true,true] Z Z (Qa (Qd Z) Z (Qa (Qf Z) Z (Qc (Qv (Qm Z Z E ?_))))))
  have hi9 : xs.length ≤ i:=by have h:=of_decide_eq_false hc1;omega
  rw [List.take_of_length_le hi9] at hq hxs
  rw [List.drop_of_length_le hi9,List.append_nil] at hxs
  exact ⟨by rw [hq],hxs.1,hxs.2⟩

set_option maxHeartbeats 4000000 in
set_option maxRecDepth 20000 in
theorem markLinkS (vxs : Value) (lo hi : Nat) (fp : List Nat) (xs : List Link) (k : Nat) (w : World) (gxs : OwF w lo hi vxs xs fp) (hhi : hi ≤ w.heap.size) (hb : k + 5 * X0 Y5 xs ≤ 1099511627776) : CtR Tryz.prog 37 [vxs,.int .i64 ((k : Nat) : Int)] w lo hi (fun v w'=>v = .int .i64 (((Xt U4) k xs : Nat) : Int) ∧ OwF w' lo hi vxs ((Xz U4 U0) k xs) fp ∧ Kq w w' fp):=by
 have hxs : OwK w fp w lo hi vxs xs:=⟨gxs,Kq.refl _ _⟩
 have hmx : xs.length ≤ maxLen:=hxs.rd.1.1
 unfold maxLen at hmx
 refine V0 Tryz.func37 Z Tryz.ntmps37 Z ?_
 refine Q8 [(0,vxs),(1,.int .i64 ((k : Nat) : Int))] ⟨Z,Z,trivial⟩ ?_
 have E : ModR w w lo hi:=ModR.refl w lo hi
 refine Qe (Qh [true] Z Z (Qa (Qf Z) Z (Qc (Qe (Qe (Qh [true] Z Z (Qa (Qf Z) Z (Qc (Q0 (Yp (fun (xq : Nat × Nat)=>let ⟨i,q⟩:=xq;[(0,vxs),(1,.int .i64 ((q : Nat) : Int)),(4,.int .i64 0),(5,.int .i64 ((i : Nat) : Int))]) (fun (xq : Nat × Nat) w'=>let ⟨i,q⟩:=xq;ModR w w' lo hi ∧ w.heap.size ≤ w'.heap.size ∧ i ≤ xs.length ∧ q = (Xt U4) k (xs.take i) ∧ OwK w fp w' lo hi vxs ((Xz U4 U0) k (xs.take i) ++ xs.drop i)) (fun (xq : Nat × Nat)=>let ⟨i,q⟩:=xq;xs.length - i) (0,k) ⟨Z,Z,Z,Z,trivial⟩ ⟨E,Nat.le_refl _,Nat.zero_le _,Z,(by simpa [Xz] using hxs)⟩ ?_))))))))))
 clear E hxs
 rintro ⟨i,q⟩ w1 ⟨E,z1,hi0,hq,hxs⟩
 refine Q8 [(0,vxs),(1,.int .i64 ((q : Nat) : Int)),(4,.int .i64 0),(5,.int .i64 ((i : Nat) : Int))] ⟨Z,Z,Z,Z,trivial⟩ ?_
 refine Qe (Qe (Qh [true,true,true,true] Z Z (Qa (Qd Z) Z (Qa (Qd Z) Z (Qa (Yc Tryz.underlying36 Z (OwK.lenE (n:=xs.length) hxs (by simp [Ua];omega))) Z (Qa (Yi Z Z) Z (Qc (Qt Z (fun hc1=>?_) (fun hc1=>?_)))))))))
 ·have hlt : i < xs.length:=by have h:=of_decide_eq_true hc1;omega
  rw [C5 hlt] at hxs
  obtain ⟨_,ho1,hrow⟩:=OwK.focus hxs
  obtain ⟨o1,rfl,sp1,hw1⟩:=Link.opO ho1
  clear hxs
  have hl0 : ((Xz U4 U0) k (xs.take i)).length = i:=by rw [Ua];simp;omega
  have hn0 : i + 1 + (xs.drop (i + 1)).length = xs.length:=by simp;omega
  have hqk:=Cf (k:=k) Ac hlt;rw [← hq] at hqk;unfold U4 at hqk
  have hc1n : i < xs.length:=by first | (have h:=of_decide_eq_true hc1;omega) | (have h:=hc1;simp at h;omega)
  refine Qo (Qe (Q0 (Qe (Qh [true,true,true,true,true,false] Z Z (Qa (Qd Z) Z (Qa (Qd Z) Z (Qa (Qd Z) Z (Qa (Qz (i:=i) Vl Z Z (RowK.same1 hrow hl0 hn0) (by simp;omega)) Z (Qa (Qs Vo Z) Z ?_)))))))))
  have hq1:=RowK.sep hrow (u:=o1) (by simp)
  have hqb:=RowK.blk hrow
  refine Ur (i:=i) (f:=0) (cs':=[.int .i64 ((q : Nat) : Int),o1,.int .i64 ((xs[i]'hlt).credits),.int .i64 ((xs[i]'hlt).back),.int .i64 ((xs[i]'hlt).sent),.int .i64 ((xs[i]'hlt).got)]) Yt Z Z Z Z hrow hl0 (by decide) Z Z (fun w2 m1 hrow'=>?_)
  replace hrow:=hrow'
  replace E:=E.mod m1 (fun g hg=>by have:=hqb g hg;omega);replace hw1:=Own.modS hw1 m1 hq1
  have z2:=m1.size
  clear hqb hq1
  refine Qc (Qe (Qh [true,true,true] Z Z (Qa (Qd Z) Z (Qa (Ye Z Z (Yg (by unfold maxLen;omega))) Z (Qa (Qf Z) Z (Qc (Qe (Qh [true,true,true,true,true,true,false,true] Z Z (Qa (Qd Z) Z (Qa (Qd Z) Z (Qa (Qz (i:=i) Vl Z Z (RowK.same1 hrow hl0 hn0) (by simp;omega)) Z (Qa (Qs Kv Z) Z (Qa (Qk Xq Z ((RowK.at hrow hl0).one 1 Z)) Z (Qa (Qd Z) Z (Km Tryz.call78 Z Z (markRecordS o1 (bl o1) (bh o1) ((xs[i]'hlt).queue) (q + 1) _ (Own.tight hw1) (by first | omega | (simp only [Qi];omega) | (rw [Qi];done) | (simp only [Qi];done))) Z (fun _ w3 e1 hv=>?_))))))))))))))))
  obtain ⟨rfl,hw1'⟩:=hv
  have e1c:=ModR.loose e1 (Own.blk hw1)
  replace hw1:=Own.loose hw1' (Own.blk hw1)
  clear hw1'
  replace E:=E.trans e1c (by omega) (by omega);replace hrow:=RowK.modRS hrow e1 (by simp)
  have z3:=e1c.size
  refine Qa (Qf Z) Z (Qc (Qe (Qh [true,true,true,true,true,false] Z Z (Qa (Qd Z) Z (Qa (Qd Z) Z (Qa (Qd Z) Z (Qa (Qz (i:=i) Vl Z Z (RowK.same1 hrow hl0 hn0) (by simp;omega)) Z (Qa (Qs Vn Z) Z ?_))))))))
  have hq2:=RowK.sep hrow (u:=o1) (by simp)
  have hqb:=RowK.blk hrow
  refine Ur (i:=i) (f:=2) (cs':=[.int .i64 ((q : Nat) : Int),o1,.int .i64 (((q + 1) + 5 * ((xs[i]'hlt).queue).length : Nat) : Int),.int .i64 ((xs[i]'hlt).back),.int .i64 ((xs[i]'hlt).sent),.int .i64 ((xs[i]'hlt).got)]) Yt Z Z Z Z hrow hl0 (by decide) Z Z (fun w4 m2 hrow'=>?_)
  replace hrow:=hrow'
  replace E:=E.mod m2 (fun g hg=>by have:=hqb g hg;omega);replace hw1:=Own.modS hw1 m2 hq2
  have z4:=m2.size
  clear hqb hq2
  refine Qc (Qe (Qh [true,true,true] Z Z (Qa (Qd Z) Z (Qa (Ye Z Z (Yg (by unfold maxLen;omega))) Z (Qa (Qf Z) Z (Qc (Qe (Qh [true,true,true,true,true,false] Z Z (Qa (Qd Z) Z (Qa (Qd Z) Z (Qa (Qd Z) Z (Qa (Qz (i:=i) Vl Z Z (RowK.same1 hrow hl0 hn0) (by simp;omega)) Z (Qa (Qs Ti Z) Z ?_)))))))))))))
  have hq3:=RowK.sep hrow (u:=o1) (by simp)
  have hqb:=RowK.blk hrow
  refine Ur (i:=i) (f:=3) (cs':=[.int .i64 ((q : Nat) : Int),o1,.int .i64 (((q + 1) + 5 * ((xs[i]'hlt).queue).length : Nat) : Int),.int .i64 (((q + 1) + 5 * ((xs[i]'hlt).queue).length + 1 : Nat) : Int),.int .i64 ((xs[i]'hlt).sent),.int .i64 ((xs[i]'hlt).got)]) Yt Z Z Z Z hrow hl0 (by decide) Z Z (fun w5 m3 hrow'=>?_)
  replace hrow:=hrow'
  replace E:=E.mod m3 (fun g hg=>by have:=hqb g hg;omega);replace hw1:=Own.modS hw1 m3 hq3
  have z5:=m3.size
  clear hqb hq3
  refine Qc (Qe (Qh [true,true,true] Z Z (Qa (Qd Z) Z (Qa (Ye Z Z (Yg (by unfold maxLen;omega))) Z (Qa (Qf Z) Z (Qc (Qe (Qh [true,true,true,true,true,false] Z Z (Qa (Qd Z) Z (Qa (Qd Z) Z (Qa (Qd Z) Z (Qa (Qz (i:=i) Vl Z Z (RowK.same1 hrow hl0 hn0) (by simp;omega)) Z (Qa (Qs Vm Z) Z ?_)))))))))))))
  have hq4:=RowK.sep hrow (u:=o1) (by simp)
  have hqb:=RowK.blk hrow
  refine Ur (i:=i) (f:=4) (cs':=[.int .i64 ((q : Nat) : Int),o1,.int .i64 (((q + 1) + 5 * ((xs[i]'hlt).queue).length : Nat) : Int),.int .i64 (((q + 1) + 5 * ((xs[i]'hlt).queue).length + 1 : Nat) : Int),.int .i64 (((q + 1) + 5 * ((xs[i]'hlt).queue).length + 1 + 1 : Nat) : Int),.int .i64 ((xs[i]'hlt).got)]) Yt Z Z Z Z hrow hl0 (by decide) Z Z (fun w6 m4 hrow'=>?_)
  replace hrow:=hrow'
  replace E:=E.mod m4 (fun g hg=>by have:=hqb g hg;omega);replace hw1:=Own.modS hw1 m4 hq4
  have z6:=m4.size
  clear hqb hq4
  refine Qc (Qe (Qh [true,true,true] Z Z (Qa (Qd Z) Z (Qa (Ye Z Z (Yg (by unfold maxLen;omega))) Z (Qa (Qf Z) Z (Qc (Qe (Qh [true,true,true,true,true,false] Z Z (Qa (Qd Z) Z (Qa (Qd Z) Z (Qa (Qd Z) Z (Qa (Qz (i:=i) Vl Z Z (RowK.same1 hrow hl0 hn0) (by simp;omega)) Z (Qa (Qs Th Z) Z ?_)))))))))))))
  have hq5:=RowK.sep hrow (u:=o1) (by simp)
  have hqb:=RowK.blk hrow
  refine Ur (i:=i) (f:=5) (cs':=[.int .i64 ((q : Nat) : Int),o1,.int .i64 (((q + 1) + 5 * ((xs[i]'hlt).queue).length : Nat) : Int),.int .i64 (((q + 1) + 5 * ((xs[i]'hlt).queue).length + 1 : Nat) : Int),.int .i64 (((q + 1) + 5 * ((xs[i]'hlt).queue).length + 1 + 1 : Nat) : Int),.int .i64 (((q + 1) + 5 * ((xs[i]'hlt).queue).length + 1 + 1 + 1 : Nat) : Int)]) Yt Z Z Z Z hrow hl0 (by decide) Z Z (fun w7 m5 hrow'=>?_)
  replace hrow:=hrow'
  replace E:=E.mod m5 (fun g hg=>by have:=hqb g hg;omega);replace hw1:=Own.modS hw1 m5 hq5
  have z7:=m5.size
  clear hqb hq5
  refine Qc (Qh [true,true,true] Z Z (Qa (Qd Z) Z (Qa (Ye Z Z (Yg (by unfold maxLen;omega))) Z (Qa (Qf Z) Z (Qc (Q6 (Y0 (Qh [true,true,true] Z Z (Qa (Qd Z) Z (Qa (Ye Z Z (Yg (by unfold maxLen;omega))) Z (Qa (Qf Z) Z (Qc ?_))))))))))))
  have hxs:=RowK.close hrow (Link.mkO (⟨((q : Nat) : Int),Vv 5 Kr (q + 1) ((xs[i]'hlt).queue).length,(((q + 1) + 5 * ((xs[i]'hlt).queue).length : Nat) : Int),(((q + 1) + 5 * ((xs[i]'hlt).queue).length + 1 : Nat) : Int),(((q + 1) + 5 * ((xs[i]'hlt).queue).length + 1 + 1 : Nat) : Int),(((q + 1) + 5 * ((xs[i]'hlt).queue).length + 1 + 1 + 1 : Nat) : Int)⟩ : Link) sp1 (Own.widen hw1 (by omega) (by omega)))
  refine Q6 (Yk (i + 1,(q + 1) + 5 * ((xs[i]'hlt).queue).length + 1 + 1 + 1 + 1) (by simp;omega) ⟨Z,Z,Z,Z,trivial⟩ ⟨E,(by omega),(by omega),(by rw [V5 hlt,← hq];rfl),(by rw [H8 hlt,← hq];exact hxs)⟩)
 ·have hc1n : ¬ i < xs.length:=by first | (have h:=of_decide_eq_false hc1;omega) | (have h:=hc1;simp at h;omega)
  refine Yq (Q5 (Q3 ?_))
  refine Qe (Qh [true,true] Z Z (Qa (Qd Z) Z (Qa (Qf Z) Z (Qc (Qv (Qm Z Z E ?_))))))
  have hi9 : xs.length ≤ i:=by have h:=of_decide_eq_false hc1;omega
  rw [List.take_of_length_le hi9] at hq hxs
  rw [List.drop_of_length_le hi9,List.append_nil] at hxs
  exact ⟨by rw [hq],hxs.1,hxs.2⟩

set_option maxRecDepth 20000 in
theorem markCluster (o1x o2x o3x o4x o5x : Value) (lo hi : Nat) (x : Cluster) (k : Nat) (w : World) (hx : OwC w lo hi o1x o2x o3x o4x o5x x) (hhi : hi ≤ w.heap.size) (hb : k + 5 * Yb x ≤ 1099511627776) : CtR Tryz.prog 10 [.agg [o1x,.int .i64 x.graph.workers,.int .i64 x.graph.cap,o2x,o3x,o4x,o5x].toArray,.int .i64 ((k : Nat) : Int)] w lo hi (fun v w'=>v = .int .i64 ((U5 k x : Nat) : Int) ∧ OwC w' lo hi o1x o2x o3x o4x o5x (Ud k x)):=by
 unfold Yb Xe at hb
 have b1:=@He _ _ _ 4 Ab k x.graph.nodes
 have b2:=@He _ _ _ 5 A8 (Xt Ka k x.graph.nodes) x.workers
 have b3:=@He _ _ _ 5 Ac (Xt Vw (Xt Ka k x.graph.nodes) x.workers) x.links
 refine V0 Tryz.func10 Z Tryz.ntmps10 Z ?_
 obtain ⟨f1,f2,f3,hw1,hw2,hw3,hw4,hw5,sp1⟩:=hx
 refine Q8 [(0,.agg [o1x,.int .i64 x.graph.workers,.int .i64 x.graph.cap,o2x,o3x,o4x,o5x].toArray),(1,.int .i64 ((k : Nat) : Int))] ⟨Z,Z,trivial⟩ ?_
 have E : ModR w w lo hi:=ModR.refl w lo hi
 refine Qe (Qh [false,true] Z Z (Y1 Z Z (fun b1 w1 e1 s1 h1=>?_)))
 have g_b1 : w.heap.size ≤ b1:=by have:=E.size;omega
 have y_b1:=h1.lt
 replace E:=E.ext e1;replace hw1:=hw1.ext e1;replace hw2:=hw2.ext e1;replace hw3:=hw3.ext e1;replace hw4:=hw4.ext e1;replace hw5:=hw5.ext e1
 have z1:=e1.size
 refine Qa (Qf Z) Z (Qc (Qe (Qh [true,true,true,false,true] Z Z (Qa (Qb Ue Z) Z (Qa (Qy Uq Z (h1.part 0 [o1x,.int .i64 x.graph.workers,.int .i64 x.graph.cap] Z) Z) Z (Qa (Qd Z) Z (Km Tryz.call35 Z Z (markGraph o1x lo hi f1 x.graph k _ hw1 (by omega) (by unfold Xe;omega)) Z (fun _ w2 e2 hv=>?_))))))))
 obtain ⟨rfl,hw1',kq1⟩:=hv
 replace hw1:=hw1'
 replace E:=E.trans e2 (by omega) (by omega);replace hw2:=OwF.kp hw2 (Kq.kp kq1 (sp1.1.1).symm);replace hw3:=OwF.kp hw3 (Kq.kp kq1 (sp1.1.2.1).symm);replace hw4:=Own.kp hw4 (Kq.kp kq1 (sp1.1.2.2.1).symm);replace hw5:=Own.kp hw5 (Kq.kp kq1 (sp1.1.2.2.2.1).symm);replace h1:=h1.modR e2 (by omega)
 have z2:=e2.size
 refine Qa (Qf Z) Z (Qc (Qe (Qh [true,true,true,false,true] Z Z (Qa (Qb Xn Z) Z (Qa (Qk Uy Z (h1.one 3 Z)) Z (Qa (Qd Z) Z (Km Tryz.call36 Z Z (markWorkerS o2x lo hi f2 x.workers (Xt Ka k x.graph.nodes) _ hw2 (by omega) (by omega)) Z (fun _ w3 e3 hv=>?_))))))))
 obtain ⟨rfl,hw2',kq2⟩:=hv
 replace hw2:=hw2'
 replace E:=E.trans e3 (by omega) (by omega);replace hw1:=OwF.kp hw1 (Kq.kp kq2 sp1.1.1);replace hw3:=OwF.kp hw3 (Kq.kp kq2 (sp1.2.1.1).symm);replace hw4:=Own.kp hw4 (Kq.kp kq2 (sp1.2.1.2.1).symm);replace hw5:=Own.kp hw5 (Kq.kp kq2 (sp1.2.1.2.2.1).symm);replace h1:=h1.modR e3 (by omega)
 have z3:=e3.size
 refine Qa (Qf Z) Z (Qc (Qe (Qh [true,true,true,false,true] Z Z (Qa (Qb Ko Z) Z (Qa (Qk Gh Z (h1.one 4 Z)) Z (Qa (Qd Z) Z (Km Tryz.call37 Z Z (markLinkS o3x lo hi f3 x.links ((Xt Vw) (Xt Ka k x.graph.nodes) x.workers) _ hw3 (by omega) (by omega)) Z (fun _ w4 e4 hv=>?_))))))))
 obtain ⟨rfl,hw3',kq3⟩:=hv
 replace hw3:=hw3'
 replace E:=E.trans e4 (by omega) (by omega);replace hw1:=OwF.kp hw1 (Kq.kp kq3 sp1.1.2.1);replace hw2:=OwF.kp hw2 (Kq.kp kq3 sp1.2.1.1);replace hw4:=Own.kp hw4 (Kq.kp kq3 (sp1.2.2.1.1).symm);replace hw5:=Own.kp hw5 (Kq.kp kq3 (sp1.2.2.1.2.1).symm);replace h1:=h1.modR e4 (by omega)
 have z4:=e4.size
 refine Qa (Qf Z) Z (Qc (Qe (Qh [true,true,true,false,true] Z Z (Qa (Qb Ve Z) Z (Qa (Qk Co Z (h1.one 5 Z)) Z (Qa (Qd Z) Z (Km Tryz.call38 Z Z (markTokenS o4x (bl o4x) (bh o4x) x.tokens ((Xt U4) ((Xt Vw) (Xt Ka k x.graph.nodes) x.workers) x.links) _ (Own.tight hw4) (by omega)) Z (fun _ w5 e5 hv=>?_))))))))
 obtain ⟨rfl,hw4'⟩:=hv
 have e5c:=ModR.loose e5 (Own.blk hw4)
 replace hw4:=Own.loose hw4' (Own.blk hw4)
 clear hw4'
 have kq4:=ModR.kq e5
 replace E:=E.trans e5c (by omega) (by omega);replace hw1:=OwF.kp hw1 (Kq.kp kq4 sp1.1.2.2.1);replace hw2:=OwF.kp hw2 (Kq.kp kq4 sp1.2.1.2.1);replace hw3:=OwF.kp hw3 (Kq.kp kq4 sp1.2.2.1.1);replace hw5:=Own.kp hw5 (Kq.kp kq4 (sp1.2.2.2.1.1).symm);replace h1:=h1.modR e5c (by omega)
 have z5:=e5c.size
 refine Qa (Qf Z) Z (Qc (Qe (Qh [true,true,true,false,true] Z Z (Qa (Qb G6 Z) Z (Qa (Qk Bn Z (h1.one 6 Z)) Z (Qa (Qd Z) Z (Km Tryz.call39 Z Z (markNewsS o5x (bl o5x) (bh o5x) x.news (((Xt U4) ((Xt Vw) (Xt Ka k x.graph.nodes) x.workers) x.links) + 5 * x.tokens.length) _ (Own.tight hw5) (by omega)) Z (fun _ w6 e6 hv=>?_))))))))
 obtain ⟨rfl,hw5'⟩:=hv
 have e6c:=ModR.loose e6 (Own.blk hw5)
 replace hw5:=Own.loose hw5' (Own.blk hw5)
 clear hw5'
 have kq5:=ModR.kq e6
 replace E:=E.trans e6c (by omega) (by omega);replace hw1:=OwF.kp hw1 (Kq.kp kq5 sp1.1.2.2.2.1);replace hw2:=OwF.kp hw2 (Kq.kp kq5 sp1.2.1.2.2.1);replace hw3:=OwF.kp hw3 (Kq.kp kq5 sp1.2.2.1.2.1);replace hw4:=Own.kp hw4 (Kq.kp kq5 sp1.2.2.2.1.1);replace h1:=h1.modR e6c (by omega)
 have z6:=e6c.size
 refine Qa (Qf Z) Z (Qc (Qe (Qh [true,true] Z Z (Qa (Qd Z) Z (Qa (Qf Z) Z (Qc (Qv (Qm Z Z E ?_))))))))
 exact ⟨Z,_,_,_,hw1,hw2,hw3,hw4,hw5,sp1⟩

set_option maxRecDepth 20000 in
theorem heldNodeS (vxs : Value) (xs : List Node) (k : Nat) (w : World) (hxs : RdD w 0 w.heap.size vxs xs) (hm : xs = (Xz Ka Uz) k xs) (hb : k + 4 * X0 Xy xs ≤ 1099511627776) : Ct Tryz.prog 83 [vxs,.int .i64 ((k : Nat) : Int)] w (fun v _=>v = .int .i64 ((Xt Ka k xs : Nat) : Int)):=by
 refine Ym Tryz.func83 Z Tryz.ntmps83 Z ?_
 refine Q8 [(0,vxs),(1,.int .i64 ((k : Nat) : Int))] ⟨Z,Z,trivial⟩ ?_
 have E : Ext w w:=Ext.refl w
 refine Qe (Qh [true] Z Z (Qa (Qf Z) Z (Qc (Qe (Qe (Qh [true] Z Z (Qa (Qf Z) Z (Qc (Q0 (Yp (fun (xq : Nat × Nat)=>let ⟨i,q⟩:=xq;[(0,vxs),(1,.int .i64 ((q : Nat) : Int)),(4,.int .i64 0),(5,.int .i64 ((i : Nat) : Int))]) (fun (xq : Nat × Nat) w'=>let ⟨i,q⟩:=xq;Ext w w' ∧ w.heap.size ≤ w'.heap.size ∧ i ≤ xs.length ∧ q = (Xt Ka) k (xs.take i)) (fun (xq : Nat × Nat)=>let ⟨i,q⟩:=xq;xs.length - i) (0,k) ⟨Z,Z,Z,Z,trivial⟩ ⟨E,Nat.le_refl _,Nat.zero_le _,Z⟩ ?_))))))))))
 clear E
 rintro ⟨i,q⟩ w1 ⟨E,z1,hi,hq⟩
 refine Q8 [(0,vxs),(1,.int .i64 ((q : Nat) : Int)),(4,.int .i64 0),(5,.int .i64 ((i : Nat) : Int))] ⟨Z,Z,Z,Z,trivial⟩ ?_
 have hmx:=hxs.1.1
 unfold maxLen at hmx
 refine Qe (Qe (Qh [true,true,true,true] Z Z (Qa (Qd Z) Z (Qa (Qd Z) Z (Qa (Yc Tryz.underlying32 Z (hxs.ext E).len) Z (Qa (Yi Z Z) Z (Qc (Qt Z (fun hc1=>?_) (fun hc1=>?_)))))))))
 ·have hlt : i < xs.length:=by have h:=of_decide_eq_true hc1;omega
  have hqk:=Cf (k:=k) Ab hlt;rw [← hq] at hqk;unfold Ka at hqk
  have hx:=Bw hm hlt;rw [← hq] at hx
  have hc1n : i < xs.length:=by first | (have h:=of_decide_eq_true hc1;omega) | (have h:=hc1;simp at h;omega)
  refine Qo (Qe (Q0 (Qe (Qe (Qh [true,true,true,true,true,true,true] Z Z (Qa (Qd Z) Z (Qa (Qd Z) Z ?_)))))))
  have hi1 : i < xs.length:=(by first | assumption | omega | (simp only [List.length_set];first | assumption | omega) | (simp only [List.getElem_set_self,List.length_set];first | assumption | omega) | (simp only [Yn,Yh,List.length_set];first | assumption | omega))
  obtain ⟨_,hr1,ha1⟩:=RdD.get hxs hi1
  obtain ⟨o1,rfl,hd1⟩:=Node.op hr1
  replace ha1 : At w (Y6 vxs) (Y8 vxs + i * 4) [.int .i64 ((xs[i]'hi1).kind),.int .i64 ((xs[i]'hi1).a),.int .i64 ((xs[i]'hi1).b),o1]:=ha1
  refine Qa (Qz (i:=i) G0 Z Z (hxs.ext E).1 hi1) Z (Qa (Qs Kj Z) Z (Qa (Qk Yt Z ((ha1.ext E).one 0 Z)) Z (Qa (Qd Z) Z (Qa (Yu Z Z) Z (Qc (Ys Z (by rw [hx];simp [Uz,Qi]) (Qo (Qe (Qh [true,true,true] Z Z (Qa (Qd Z) Z (Qa (Ye Z Z (Yg (by unfold maxLen;omega))) Z (Qa (Qf Z) Z (Qc (Qe (Qe (Qh [true,true,true,true,true,true,true] Z Z (Qa (Qd Z) Z (Qa (Qd Z) Z (Qa (Qz (i:=i) G0 Z Z (hxs.ext E).1 hi1) Z (Qa (Qs Kx Z) Z (Qa (Qk Yt Z ((ha1.ext E).one 1 Z)) Z (Qa (Qd Z) Z (Qa (Yu Z Z) Z (Qc (Ys Z (by rw [hx];simp [Uz,Qi]) (Qo (Qe (Qh [true,true,true] Z Z (Qa (Qd Z) Z (Qa (Ye Z Z (Yg (by unfold maxLen;omega))) Z (Qa (Qf Z) Z (Qc (Qe (Qe (Qh [true,true,true,true,true,true,true] Z Z (Qa (Qd Z) Z (Qa (Qd Z) Z (Qa (Qz (i:=i) G0 Z Z (hxs.ext E).1 hi1) Z (Qa (Qs Ut Z) Z (Qa (Qk Yt Z ((ha1.ext E).one 2 Z)) Z (Qa (Qd Z) Z (Qa (Yu Z Z) Z (Qc (Ys Z (by rw [hx];simp [Uz,Qi]) (Qo (Qe (Qh [true,true,true] Z Z (Qa (Qd Z) Z (Qa (Ye Z Z (Yg (by unfold maxLen;omega))) Z (Qa (Qf Z) Z (Qc (Qe (Qh [true,true,true,true,true,true,false,true] Z Z (Qa (Qd Z) Z (Qa (Qd Z) Z (Qa (Qz (i:=i) G0 Z Z (hxs.ext E).1 hi1) Z (Qa (Qs Xu Z) Z (Qa (Qk K0 Z ((ha1.ext E).one 3 Z)) Z (Qa (Qd Z) Z (Qw Tryz.call86 Z (heldIntS o1 ((xs[i]'hi1).outs) (q + 1 + 1 + 1) _ (hd1.rd.ext E) (congrArg Node.outs hx) (by omega)) Z (fun _ w2 e1 hv=>?_)))))))))))))))))))))))))))))))))))))))))))))))))))))))))))))
  subst hv
  replace E:=E.trans e1
  have z2:=e1.size
  refine Qa (Qf Z) Z (Qc (Qe (Qh [true,true] Z Z (Qa (Qd Z) Z (Qa (Yi Z Z) Z (Qc (Ys Z (by first | (simp;done) | (simp only [Qq] <;> simp) | (simp only [Qi,Qq] <;> simp) | (simp only [Qi] <;> simp)) (Qo (Q6 (Y0 (Qh [true,true,true] Z Z (Qa (Qd Z) Z (Qa (Ye Z Z (Yg (by unfold maxLen;omega))) Z (Qa (Qf Z) Z (Qc (Q6 (Yk (i + 1,(q + 1 + 1 + 1) + 1 * ((xs[i]'hi1).outs).length) (by simp;omega) ⟨Z,Z,Z,Z,trivial⟩ ⟨E,(by omega),(by omega),(by rw [V5 (by omega),← hq];rfl)⟩)))))))))))))))))
 ·have hc1n : ¬ i < xs.length:=by first | (have h:=of_decide_eq_false hc1;omega) | (have h:=hc1;simp at h;omega)
  refine Yq (Q5 (Q3 ?_))
  refine Qe (Qh [true,true] Z Z (Qa (Qd Z) Z (Qa (Qf Z) Z (Qc (Qv (Qm Z Z E ?_))))))
  rw [hq,List.take_of_length_le (by omega)]

set_option maxHeartbeats 4000000 in
set_option maxRecDepth 20000 in
theorem heldWorkerS (vxs : Value) (xs : List Worker) (k : Nat) (w : World) (hxs : RdD w 0 w.heap.size vxs xs) (hm : xs = (Xz Vw Hf) k xs) (hb : k + 5 * X0 Q7 xs ≤ 1099511627776) : Ct Tryz.prog 41 [vxs,.int .i64 ((k : Nat) : Int)] w (fun v _=>v = .int .i64 ((Xt Vw k xs : Nat) : Int)):=by
 refine Ym Tryz.func41 Z Tryz.ntmps41 Z ?_
 refine Q8 [(0,vxs),(1,.int .i64 ((k : Nat) : Int))] ⟨Z,Z,trivial⟩ ?_
 have E : Ext w w:=Ext.refl w
 refine Qe (Qh [true] Z Z (Qa (Qf Z) Z (Qc (Qe (Qe (Qh [true] Z Z (Qa (Qf Z) Z (Qc (Q0 (Yp (fun (xq : Nat × Nat)=>let ⟨i,q⟩:=xq;[(0,vxs),(1,.int .i64 ((q : Nat) : Int)),(4,.int .i64 0),(5,.int .i64 ((i : Nat) : Int))]) (fun (xq : Nat × Nat) w'=>let ⟨i,q⟩:=xq;Ext w w' ∧ w.heap.size ≤ w'.heap.size ∧ i ≤ xs.length ∧ q = (Xt Vw) k (xs.take i)) (fun (xq : Nat × Nat)=>let ⟨i,q⟩:=xq;xs.length - i) (0,k) ⟨Z,Z,Z,Z,trivial⟩ ⟨E,Nat.le_refl _,Nat.zero_le _,Z⟩ ?_))))))))))
 clear E
 rintro ⟨i,q⟩ w1 ⟨E,z1,hi,hq⟩
 refine Q8 [(0,vxs),(1,.int .i64 ((q : Nat) : Int)),(4,.int .i64 0),(5,.int .i64 ((i : Nat) : Int))] ⟨Z,Z,Z,Z,trivial⟩ ?_
 have hmx:=hxs.1.1
 unfold maxLen at hmx
 refine Qe (Qe (Qh [true,true,true,true] Z Z (Qa (Qd Z) Z (Qa (Qd Z) Z (Qa (Yc Tryz.underlying35 Z (hxs.ext E).len) Z (Qa (Yi Z Z) Z (Qc (Qt Z (fun hc1=>?_) (fun hc1=>?_)))))))))
 ·have hlt : i < xs.length:=by have h:=of_decide_eq_true hc1;omega
  have hqk:=Cf (k:=k) A8 hlt;rw [← hq] at hqk;unfold Vw at hqk
  have hx:=Bw hm hlt;rw [← hq] at hx
  have hc1n : i < xs.length:=by first | (have h:=of_decide_eq_true hc1;omega) | (have h:=hc1;simp at h;omega)
  refine Qo (Qe (Q0 (Qe (Qh [true,true,true,true,true,true,false,true] Z Z (Qa (Qd Z) Z (Qa (Qd Z) Z ?_))))))
  have hi1 : i < xs.length:=(by first | assumption | omega | (simp only [List.length_set];first | assumption | omega) | (simp only [List.getElem_set_self,List.length_set];first | assumption | omega) | (simp only [Yn,Yh,List.length_set];first | assumption | omega))
  obtain ⟨_,hr1,ha1⟩:=RdD.get hxs hi1
  obtain ⟨o1,o2,o3,o4,o5,o6,o7,o8,rfl,hd1,hd2,hd3,hd4,hd5,hd6,hd7,hd8⟩:=Worker.op hr1
  replace ha1 : At w (Y6 vxs) (Y8 vxs + i * 8) [o1,o2,o3,o4,o5,o6,o7,o8]:=ha1
  refine Qa (Qz (i:=i) K5 Z Z (hxs.ext E).1 hi1) Z (Qa (Qs V8 Z) Z (Qa (Qk Xq Z ((ha1.ext E).one 0 Z)) Z (Qa (Qd Z) Z (Qw Tryz.call84 Z (heldRecordS o1 ((xs[i]'hi1).queue) q _ (hd1.rd.ext E) (congrArg Worker.queue hx) (by omega)) Z (fun _ w2 e1 hv=>?_)))))
  subst hv
  replace E:=E.trans e1
  have z2:=e1.size
  refine Qa (Qf Z) Z (Qc (Qe (Qe (Qh [true,true] Z Z (Qa (Qd Z) Z (Qa (Yi Z Z) Z (Qc (Ys Z (by first | (simp;done) | (simp only [Qq] <;> simp) | (simp only [Qi,Qq] <;> simp) | (simp only [Qi] <;> simp)) (Qo (Qe (Qh [true,true,true,true,true,true,false,true] Z Z (Qa (Qd Z) Z (Qa (Qd Z) Z (Qa (Qz (i:=i) K5 Z Z (hxs.ext E).1 hi1) Z (Qa (Qs Un Z) Z (Qa (Qk Xq Z ((ha1.ext E).one 1 Z)) Z (Qa (Qd Z) Z (Qw Tryz.call84 Z (heldRecordS o2 ((xs[i]'hi1).staged) (q + 5 * ((xs[i]'hi1).queue).length) _ (hd2.rd.ext E) (congrArg Worker.staged hx) (by omega)) Z (fun _ w3 e2 hv=>?_)))))))))))))))))))
  subst hv
  replace E:=E.trans e2
  have z3:=e2.size
  refine Qa (Qf Z) Z (Qc (Qe (Qe (Qh [true,true] Z Z (Qa (Qd Z) Z (Qa (Yi Z Z) Z (Qc (Ys Z (by first | (simp;done) | (simp only [Qq] <;> simp) | (simp only [Qi,Qq] <;> simp) | (simp only [Qi] <;> simp)) (Qo (Qe (Qh [true,true,true,true,true,true,false,true] Z Z (Qa (Qd Z) Z (Qa (Qd Z) Z (Qa (Qz (i:=i) K5 Z Z (hxs.ext E).1 hi1) Z (Qa (Qs Vd Z) Z (Qa (Qk Xq Z ((ha1.ext E).one 2 Z)) Z (Qa (Qd Z) Z (Qw Tryz.call84 Z (heldRecordS o3 ((xs[i]'hi1).inputs) ((q + 5 * ((xs[i]'hi1).queue).length) + 5 * ((xs[i]'hi1).staged).length) _ (hd3.rd.ext E) (congrArg Worker.inputs hx) (by omega)) Z (fun _ w4 e3 hv=>?_)))))))))))))))))))
  subst hv
  replace E:=E.trans e3
  have z4:=e3.size
  refine Qa (Qf Z) Z (Qc (Qe (Qe (Qh [true,true] Z Z (Qa (Qd Z) Z (Qa (Yi Z Z) Z (Qc (Ys Z (by first | (simp;done) | (simp only [Qq] <;> simp) | (simp only [Qi,Qq] <;> simp) | (simp only [Qi] <;> simp)) (Qo (Qe (Qh [true,true,true,true,true,true,false,true] Z Z (Qa (Qd Z) Z (Qa (Qd Z) Z (Qa (Qz (i:=i) K5 Z Z (hxs.ext E).1 hi1) Z (Qa (Qs Te Z) Z (Qa (Qk sc75 Z ((ha1.ext E).one 3 Z)) Z (Qa (Qd Z) Z (Qw Tryz.call85 Z (heldCellS o4 ((xs[i]'hi1).cells) (((q + 5 * ((xs[i]'hi1).queue).length) + 5 * ((xs[i]'hi1).staged).length) + 5 * ((xs[i]'hi1).inputs).length) _ (hd4.rd.ext E) (congrArg Worker.cells hx) (by omega)) Z (fun _ w5 e4 hv=>?_)))))))))))))))))))
  subst hv
  replace E:=E.trans e4
  have z5:=e4.size
  refine Qa (Qf Z) Z (Qc (Qe (Qe (Qh [true,true] Z Z (Qa (Qd Z) Z (Qa (Yi Z Z) Z (Qc (Ys Z (by first | (simp;done) | (simp only [Qq] <;> simp) | (simp only [Qi,Qq] <;> simp) | (simp only [Qi] <;> simp)) (Qo (Qe (Qh [true,true,true,true,true,true,false,true] Z Z (Qa (Qd Z) Z (Qa (Qd Z) Z (Qa (Qz (i:=i) K5 Z Z (hxs.ext E).1 hi1) Z (Qa (Qs Vc Z) Z (Qa (Qk K0 Z ((ha1.ext E).one 4 Z)) Z (Qa (Qd Z) Z (Qw Tryz.call86 Z (heldIntS o5 ((xs[i]'hi1).sums) ((((q + 5 * ((xs[i]'hi1).queue).length) + 5 * ((xs[i]'hi1).staged).length) + 5 * ((xs[i]'hi1).inputs).length) + 4 * ((xs[i]'hi1).cells).length) _ (hd5.rd.ext E) (congrArg Worker.sums hx) (by omega)) Z (fun _ w6 e5 hv=>?_)))))))))))))))))))
  subst hv
  replace E:=E.trans e5
  have z6:=e5.size
  refine Qa (Qf Z) Z (Qc (Qe (Qe (Qh [true,true] Z Z (Qa (Qd Z) Z (Qa (Yi Z Z) Z (Qc (Ys Z (by first | (simp;done) | (simp only [Qq] <;> simp) | (simp only [Qi,Qq] <;> simp) | (simp only [Qi] <;> simp)) (Qo (Qe (Qh [true,true,true,true,true,true,false,true] Z Z (Qa (Qd Z) Z (Qa (Qd Z) Z (Qa (Qz (i:=i) K5 Z Z (hxs.ext E).1 hi1) Z (Qa (Qs Td Z) Z (Qa (Qk Hb Z ((ha1.ext E).one 5 Z)) Z (Qa (Qd Z) Z (Qw Tryz.call87 Z (heldBoolS o6 ((xs[i]'hi1).black) (((((q + 5 * ((xs[i]'hi1).queue).length) + 5 * ((xs[i]'hi1).staged).length) + 5 * ((xs[i]'hi1).inputs).length) + 4 * ((xs[i]'hi1).cells).length) + 1 * ((xs[i]'hi1).sums).length) _ (hd6.rd.ext E) (congrArg Worker.black hx) (by omega)) Z (fun _ w7 e6 hv=>?_)))))))))))))))))))
  subst hv
  replace E:=E.trans e6
  have z7:=e6.size
  refine Qa (Qf Z) Z (Qc (Qe (Qe (Qh [true,true] Z Z (Qa (Qd Z) Z (Qa (Yi Z Z) Z (Qc (Ys Z (by first | (simp;done) | (simp only [Qq] <;> simp) | (simp only [Qi,Qq] <;> simp) | (simp only [Qi] <;> simp)) (Qo (Qe (Qh [true,true,true,true,true,true,false,true] Z Z (Qa (Qd Z) Z (Qa (Qd Z) Z (Qa (Qz (i:=i) K5 Z Z (hxs.ext E).1 hi1) Z (Qa (Qs Tc Z) Z (Qa (Qk Hb Z ((ha1.ext E).one 6 Z)) Z (Qa (Qd Z) Z (Qw Tryz.call87 Z (heldBoolS o7 ((xs[i]'hi1).caps) ((((((q + 5 * ((xs[i]'hi1).queue).length) + 5 * ((xs[i]'hi1).staged).length) + 5 * ((xs[i]'hi1).inputs).length) + 4 * ((xs[i]'hi1).cells).length) + 1 * ((xs[i]'hi1).sums).length) + 1 * ((xs[i]'hi1).black).length) _ (hd7.rd.ext E) (congrArg Worker.caps hx) (by omega)) Z (fun _ w8 e7 hv=>?_)))))))))))))))))))
  subst hv
  replace E:=E.trans e7
  have z8:=e7.size
  refine Qa (Qf Z) Z (Qc (Qe (Qe (Qh [true,true] Z Z (Qa (Qd Z) Z (Qa (Yi Z Z) Z (Qc (Ys Z (by first | (simp;done) | (simp only [Qq] <;> simp) | (simp only [Qi,Qq] <;> simp) | (simp only [Qi] <;> simp)) (Qo (Qe (Qh [true,true,true,true,true,true,false,true] Z Z (Qa (Qd Z) Z (Qa (Qd Z) Z (Qa (Qz (i:=i) K5 Z Z (hxs.ext E).1 hi1) Z (Qa (Qs V7 Z) Z (Qa (Qk Aq Z ((ha1.ext E).one 7 Z)) Z (Qa (Qd Z) Z (Qw Tryz.call88 Z (heldDoneS o8 ((xs[i]'hi1).dones) (((((((q + 5 * ((xs[i]'hi1).queue).length) + 5 * ((xs[i]'hi1).staged).length) + 5 * ((xs[i]'hi1).inputs).length) + 4 * ((xs[i]'hi1).cells).length) + 1 * ((xs[i]'hi1).sums).length) + 1 * ((xs[i]'hi1).black).length) + 1 * ((xs[i]'hi1).caps).length) _ (hd8.rd.ext E) (congrArg Worker.dones hx) (by omega)) Z (fun _ w9 e8 hv=>?_)))))))))))))))))))
  subst hv
  replace E:=E.trans e8
  have z9:=e8.size
  refine Qa (Qf Z) Z (Qc (Qe (Qh [true,true] Z Z (Qa (Qd Z) Z (Qa (Yi Z Z) Z (Qc (Ys Z (by first | (simp;done) | (simp only [Qq] <;> simp) | (simp only [Qi,Qq] <;> simp) | (simp only [Qi] <;> simp)) (Qo (Q6 (Y0 (Qh [true,true,true] Z Z (Qa (Qd Z) Z (Qa (Ye Z Z (Yg (by unfold maxLen;omega))) Z (Qa (Qf Z) Z (Qc (Q6 (Yk (i + 1,(((((((q + 5 * ((xs[i]'hi1).queue).length) + 5 * ((xs[i]'hi1).staged).length) + 5 * ((xs[i]'hi1).inputs).length) + 4 * ((xs[i]'hi1).cells).length) + 1 * ((xs[i]'hi1).sums).length) + 1 * ((xs[i]'hi1).black).length) + 1 * ((xs[i]'hi1).caps).length) + 2 * ((xs[i]'hi1).dones).length) (by simp;omega) ⟨Z,Z,Z,Z,trivial⟩ ⟨E,(by omega),(by omega),(by rw [V5 (by omega),← hq];rfl)⟩)))))))))))))))))
 ·have hc1n : ¬ i < xs.length:=by first | (have h:=of_decide_eq_false hc1;omega) | (have h:=hc1;simp at h;omega)
  refine Yq (Q5 (Q3 ?_))
  refine Qe (Qh [true,true] Z Z (Qa (Qd Z) Z (Qa (Qf Z) Z (Qc (Qv (Qm Z Z E ?_))))))
  rw [hq,List.take_of_length_le (by omega)]

set_option maxRecDepth 20000 in
theorem heldLinkS (vxs : Value) (xs : List Link) (k : Nat) (w : World) (hxs : RdD w 0 w.heap.size vxs xs) (hm : xs = (Xz U4 U0) k xs) (hb : k + 5 * X0 Y5 xs ≤ 1099511627776) : Ct Tryz.prog 42 [vxs,.int .i64 ((k : Nat) : Int)] w (fun v _=>v = .int .i64 ((Xt U4 k xs : Nat) : Int)):=by
 refine Ym Tryz.func42 Z Tryz.ntmps42 Z ?_
 refine Q8 [(0,vxs),(1,.int .i64 ((k : Nat) : Int))] ⟨Z,Z,trivial⟩ ?_
 have E : Ext w w:=Ext.refl w
 refine Qe (Qh [true] Z Z (Qa (Qf Z) Z (Qc (Qe (Qe (Qh [true] Z Z (Qa (Qf Z) Z (Qc (Q0 (Yp (fun (xq : Nat × Nat)=>let ⟨i,q⟩:=xq;[(0,vxs),(1,.int .i64 ((q : Nat) : Int)),(4,.int .i64 0),(5,.int .i64 ((i : Nat) : Int))]) (fun (xq : Nat × Nat) w'=>let ⟨i,q⟩:=xq;Ext w w' ∧ w.heap.size ≤ w'.heap.size ∧ i ≤ xs.length ∧ q = (Xt U4) k (xs.take i)) (fun (xq : Nat × Nat)=>let ⟨i,q⟩:=xq;xs.length - i) (0,k) ⟨Z,Z,Z,Z,trivial⟩ ⟨E,Nat.le_refl _,Nat.zero_le _,Z⟩ ?_))))))))))
 clear E
 rintro ⟨i,q⟩ w1 ⟨E,z1,hi,hq⟩
 refine Q8 [(0,vxs),(1,.int .i64 ((q : Nat) : Int)),(4,.int .i64 0),(5,.int .i64 ((i : Nat) : Int))] ⟨Z,Z,Z,Z,trivial⟩ ?_
 have hmx:=hxs.1.1
 unfold maxLen at hmx
 refine Qe (Qe (Qh [true,true,true,true] Z Z (Qa (Qd Z) Z (Qa (Qd Z) Z (Qa (Yc Tryz.underlying36 Z (hxs.ext E).len) Z (Qa (Yi Z Z) Z (Qc (Qt Z (fun hc1=>?_) (fun hc1=>?_)))))))))
 ·have hlt : i < xs.length:=by have h:=of_decide_eq_true hc1;omega
  have hqk:=Cf (k:=k) Ac hlt;rw [← hq] at hqk;unfold U4 at hqk
  have hx:=Bw hm hlt;rw [← hq] at hx
  have hc1n : i < xs.length:=by first | (have h:=of_decide_eq_true hc1;omega) | (have h:=hc1;simp at h;omega)
  refine Qo (Qe (Q0 (Qe (Qe (Qh [true,true,true,true,true,true,true] Z Z (Qa (Qd Z) Z (Qa (Qd Z) Z ?_)))))))
  have hi1 : i < xs.length:=(by first | assumption | omega | (simp only [List.length_set];first | assumption | omega) | (simp only [List.getElem_set_self,List.length_set];first | assumption | omega) | (simp only [Yn,Yh,List.length_set];first | assumption | omega))
  obtain ⟨_,hr1,ha1⟩:=RdD.get hxs hi1
  obtain ⟨o1,rfl,hd1⟩:=Link.op hr1
  replace ha1 : At w (Y6 vxs) (Y8 vxs + i * 6) [.int .i64 ((xs[i]'hi1).cap),o1,.int .i64 ((xs[i]'hi1).credits),.int .i64 ((xs[i]'hi1).back),.int .i64 ((xs[i]'hi1).sent),.int .i64 ((xs[i]'hi1).got)]:=ha1
  refine Qa (Qz (i:=i) Vl Z Z (hxs.ext E).1 hi1) Z (Qa (Qs Vo Z) Z (Qa (Qk Yt Z ((ha1.ext E).one 0 Z)) Z (Qa (Qd Z) Z (Qa (Yu Z Z) Z (Qc (Ys Z (by rw [hx];simp [U0,Qi]) (Qo (Qe (Qh [true,true,true] Z Z (Qa (Qd Z) Z (Qa (Ye Z Z (Yg (by unfold maxLen;omega))) Z (Qa (Qf Z) Z (Qc (Qe (Qh [true,true,true,true,true,true,false,true] Z Z (Qa (Qd Z) Z (Qa (Qd Z) Z (Qa (Qz (i:=i) Vl Z Z (hxs.ext E).1 hi1) Z (Qa (Qs Kv Z) Z (Qa (Qk Xq Z ((ha1.ext E).one 1 Z)) Z (Qa (Qd Z) Z (Qw Tryz.call84 Z (heldRecordS o1 ((xs[i]'hi1).queue) (q + 1) _ (hd1.rd.ext E) (congrArg Link.queue hx) (by omega)) Z (fun _ w2 e1 hv=>?_)))))))))))))))))))))))
  subst hv
  replace E:=E.trans e1
  have z2:=e1.size
  refine Qa (Qf Z) Z (Qc (Qe (Qe (Qh [true,true] Z Z (Qa (Qd Z) Z (Qa (Yi Z Z) Z (Qc (Ys Z (by first | (simp;done) | (simp only [Qq] <;> simp) | (simp only [Qi,Qq] <;> simp) | (simp only [Qi] <;> simp)) (Qo (Qe (Qe (Qh [true,true,true,true,true,true,true] Z Z (Qa (Qd Z) Z (Qa (Qd Z) Z (Qa (Qz (i:=i) Vl Z Z (hxs.ext E).1 hi1) Z (Qa (Qs Vn Z) Z (Qa (Qk Yt Z ((ha1.ext E).one 2 Z)) Z (Qa (Qd Z) Z (Qa (Yu Z Z) Z (Qc (Ys Z (by rw [hx];simp [U0,Qi]) (Qo (Qe (Qh [true,true,true] Z Z (Qa (Qd Z) Z (Qa (Ye Z Z (Yg (by unfold maxLen;omega))) Z (Qa (Qf Z) Z (Qc (Qe (Qe (Qh [true,true,true,true,true,true,true] Z Z (Qa (Qd Z) Z (Qa (Qd Z) Z (Qa (Qz (i:=i) Vl Z Z (hxs.ext E).1 hi1) Z (Qa (Qs Ti Z) Z (Qa (Qk Yt Z ((ha1.ext E).one 3 Z)) Z (Qa (Qd Z) Z (Qa (Yu Z Z) Z (Qc (Ys Z (by rw [hx];simp [U0,Qi]) (Qo (Qe (Qh [true,true,true] Z Z (Qa (Qd Z) Z (Qa (Ye Z Z (Yg (by unfold maxLen;omega))) Z (Qa (Qf Z) Z (Qc (Qe (Qe (Qh [true,true,true,true,true,true,true] Z Z (Qa (Qd Z) Z (Qa (Qd Z) Z (Qa (Qz (i:=i) Vl Z Z (hxs.ext E).1 hi1) Z (Qa (Qs Vm Z) Z (Qa (Qk Yt Z ((ha1.ext E).one 4 Z)) Z (Qa (Qd Z) Z (Qa (Yu Z Z) Z (Qc (Ys Z (by rw [hx];simp [U0,Qi]) (Qo (Qe (Qh [true,true,true] Z Z (Qa (Qd Z) Z (Qa (Ye Z Z (Yg (by unfold maxLen;omega))) Z (Qa (Qf Z) Z (Qc (Qe (Qe (Qh [true,true,true,true,true,true,true] Z Z (Qa (Qd Z) Z (Qa (Qd Z) Z (Qa (Qz (i:=i) Vl Z Z (hxs.ext E).1 hi1) Z (Qa (Qs Th Z) Z (Qa (Qk Yt Z ((ha1.ext E).one 5 Z)) Z (Qa (Qd Z) Z (Qa (Yu Z Z) Z (Qc (Ys Z (by rw [hx];simp [U0,Qi]) (Qo (Qh [true,true,true] Z Z (Qa (Qd Z) Z (Qa (Ye Z Z (Yg (by unfold maxLen;omega))) Z (Qa (Qf Z) Z (Qc (Q6 (Y0 (Qh [true,true,true] Z Z (Qa (Qd Z) Z (Qa (Ye Z Z (Yg (by unfold maxLen;omega))) Z (Qa (Qf Z) Z (Qc (Q6 (Yk (i + 1,(q + 1) + 5 * ((xs[i]'hi1).queue).length + 1 + 1 + 1 + 1) (by simp;omega) ⟨Z,Z,Z,Z,trivial⟩ ⟨E,(by omega),(by omega),(by rw [V5 (by omega),← hq];rfl)⟩)))))))))))))))))))))))))))))))))))))))))))))))))))))))))))))))))))))))))))))))))))))))))))))
 ·have hc1n : ¬ i < xs.length:=by first | (have h:=of_decide_eq_false hc1;omega) | (have h:=hc1;simp at h;omega)
  refine Yq (Q5 (Q3 ?_))
  refine Qe (Qh [true,true] Z Z (Qa (Qd Z) Z (Qa (Qf Z) Z (Qc (Qv (Qm Z Z E ?_))))))
  rw [hq,List.take_of_length_le (by omega)]

set_option maxRecDepth 20000 in
theorem heldGraph (cx : List Value) (x : Graph) (k : Nat) (w : World) (hx : Dat.R w 0 w.heap.size cx x) (hm : x.nodes = Xz Ka Uz k x.nodes) (hb : k + 4 * Xe x ≤ 1099511627776) : Ct Tryz.prog 40 [.agg cx.toArray,.int .i64 ((k : Nat) : Int)] w (fun v _=>v = .int .i64 ((Xt Ka k x.nodes : Nat) : Int)):=by
 refine Ym Tryz.func40 Z Tryz.ntmps40 Z ?_
 obtain ⟨o1,rfl,hd1⟩:=Graph.op hx
 refine Q8 [(0,.agg [o1,.int .i64 x.workers,.int .i64 x.cap].toArray),(1,.int .i64 ((k : Nat) : Int))] ⟨Z,Z,trivial⟩ ?_
 have E : Ext w w:=Ext.refl w
 refine Qe (Qh [false,true] Z Z (Y1 Z Z (fun b1 w1 e1 s1 h1=>?_)))
 have g_b1 : w.heap.size ≤ b1:=by have:=E.size;omega
 have y_b1:=h1.lt
 replace E:=E.trans e1
 have z1:=e1.size
 refine Qa (Qf Z) Z (Qc (Qe (Qh [true,true,true,false,true] Z Z (Qa (Qb Kw Z) Z (Qa (Qk Gn Z (h1.one 0 Z)) Z (Qa (Qd Z) Z (Qw Tryz.call83 Z (heldNodeS o1 x.nodes k _ (RdD.any (hd1.ext E)) hm (by unfold Xe at hb;omega)) Z (fun _ w2 e2 hv=>?_))))))))
 subst hv
 replace E:=E.trans e2;replace h1:=h1.ext e2
 have z2:=e2.size
 refine Qa (Qf Z) Z (Qc (Qe (Qe (Qh [true,true] Z Z (Qa (Qd Z) Z (Qa (Yi Z Z) Z (Qc (Ys Z (by first | (simp;done) | (simp only [Qq] <;> simp) | (simp only [Qi,Qq] <;> simp) | (simp only [Qi] <;> simp)) (Qo (Qe (Qh [true,true] Z Z (Qa (Qd Z) Z (Qa (Qf Z) Z (Qc (Qv (Qm Z Z E ?_))))))))))))))))
 rfl

set_option maxRecDepth 20000 in
theorem heldCluster (cx : List Value) (x : Cluster) (k : Nat) (w : World) (hx : Dat.R w 0 w.heap.size cx x) (hm : x = Ud k x) (hb : k + 5 * Yb x ≤ 1099511627776) : Ct Tryz.prog 11 [.agg cx.toArray,.int .i64 ((k : Nat) : Int)] w (fun v _=>v = .int .i64 ((U5 k x : Nat) : Int)):=by
 unfold Yb Xe at hb
 have b1:=@He _ _ _ 4 Ab k x.graph.nodes
 have b2:=@He _ _ _ 5 A8 (Xt Ka k x.graph.nodes) x.workers
 have b3:=@He _ _ _ 5 Ac (Xt Vw (Xt Ka k x.graph.nodes) x.workers) x.links
 refine Ym Tryz.func11 Z Tryz.ntmps11 Z ?_
 obtain ⟨o1,o2,o3,o4,o5,rfl,hd1,hd2,hd3,hd4,hd5⟩:=Cluster.op hx
 refine Q8 [(0,.agg [o1,.int .i64 x.graph.workers,.int .i64 x.graph.cap,o2,o3,o4,o5].toArray),(1,.int .i64 ((k : Nat) : Int))] ⟨Z,Z,trivial⟩ ?_
 have E : Ext w w:=Ext.refl w
 refine Qe (Qh [false,true] Z Z (Y1 Z Z (fun b1 w1 e1 s1 h1=>?_)))
 have g_b1 : w.heap.size ≤ b1:=by have:=E.size;omega
 have y_b1:=h1.lt
 replace E:=E.trans e1
 have z1:=e1.size
 refine Qa (Qf Z) Z (Qc (Qe (Qh [true,true,true,false,true] Z Z (Qa (Qb Ue Z) Z (Qa (Qy Uq Z (h1.part 0 [o1,.int .i64 x.graph.workers,.int .i64 x.graph.cap] Z) Z) Z (Qa (Qd Z) Z (Qw Tryz.call40 Z (heldGraph [o1,.int .i64 x.graph.workers,.int .i64 x.graph.cap] x.graph k _ (Graph.mkR x.graph (RdD.any (hd1.ext E))) (congrArg (fun c=>c.graph.nodes) hm) (by unfold Xe;omega)) Z (fun _ w2 e2 hv=>?_))))))))
 subst hv
 replace E:=E.trans e2;replace h1:=h1.ext e2
 have z2:=e2.size
 refine Qa (Qf Z) Z (Qc (Qe (Qe (Qh [true,true] Z Z (Qa (Qd Z) Z (Qa (Yi Z Z) Z (Qc (Ys Z (by first | (simp;done) | (simp only [Qq] <;> simp) | (simp only [Qi,Qq] <;> simp) | (simp only [Qi] <;> simp)) (Qo (Qe (Qh [true,true,true,false,true] Z Z (Qa (Qb Xn Z) Z (Qa (Qk Uy Z (h1.one 3 Z)) Z (Qa (Qd Z) Z (Qw Tryz.call41 Z (heldWorkerS o2 x.workers (Xt Ka k x.graph.nodes) _ (RdD.any (hd2.ext E)) (congrArg Cluster.workers hm) (by omega)) Z (fun _ w3 e3 hv=>?_))))))))))))))))
 subst hv
 replace E:=E.trans e3;replace h1:=h1.ext e3
 have z3:=e3.size
 refine Qa (Qf Z) Z (Qc (Qe (Qe (Qh [true,true] Z Z (Qa (Qd Z) Z (Qa (Yi Z Z) Z (Qc (Ys Z (by first | (simp;done) | (simp only [Qq] <;> simp) | (simp only [Qi,Qq] <;> simp) | (simp only [Qi] <;> simp)) (Qo (Qe (Qh [true,true,true,false,true] Z Z (Qa (Qb Ko Z) Z (Qa (Qk Gh Z (h1.one 4 Z)) Z (Qa (Qd Z) Z (Qw Tryz.call42 Z (heldLinkS o3 x.links (Xt Vw (Xt Ka k x.graph.nodes) x.workers) _ (RdD.any (hd3.ext E)) (congrArg Cluster.links hm) (by omega)) Z (fun _ w4 e4 hv=>?_))))))))))))))))
 subst hv
 replace E:=E.trans e4;replace h1:=h1.ext e4
 have z4:=e4.size
 refine Qa (Qf Z) Z (Qc (Qe (Qe (Qh [true,true] Z Z (Qa (Qd Z) Z (Qa (Yi Z Z) Z (Qc (Ys Z (by first | (simp;done) | (simp only [Qq] <;> simp) | (simp only [Qi,Qq] <;> simp) | (simp only [Qi] <;> simp)) (Qo (Qe (Qh [true,true,true,false,true] Z Z (Qa (Qb Ve Z) Z (Qa (Qk Co Z (h1.one 5 Z)) Z (Qa (Qd Z) Z (Qw Tryz.call43 Z (heldTokenS o4 x.tokens (Xt U4 (Xt Vw (Xt Ka k x.graph.nodes) x.workers) x.links) _ (hd4.rd.ext E) (congrArg Cluster.tokens hm) (by omega)) Z (fun _ w5 e5 hv=>?_))))))))))))))))
 subst hv
 replace E:=E.trans e5;replace h1:=h1.ext e5
 have z5:=e5.size
 refine Qa (Qf Z) Z (Qc (Qe (Qe (Qh [true,true] Z Z (Qa (Qd Z) Z (Qa (Yi Z Z) Z (Qc (Ys Z (by first | (simp;done) | (simp only [Qq] <;> simp) | (simp only [Qi,Qq] <;> simp) | (simp only [Qi] <;> simp)) (Qo (Qe (Qh [true,true,true,false,true] Z Z (Qa (Qb G6 Z) Z (Qa (Qk Bn Z (h1.one 6 Z)) Z (Qa (Qd Z) Z (Qw Tryz.call44 Z (heldNewsS o5 x.news ((Xt U4 (Xt Vw (Xt Ka k x.graph.nodes) x.workers) x.links) + 5 * x.tokens.length) _ (hd5.rd.ext E) (congrArg Cluster.news hm) (by omega)) Z (fun _ w6 e6 hv=>?_))))))))))))))))
 subst hv
 replace E:=E.trans e6;replace h1:=h1.ext e6
 have z6:=e6.size
 refine Qa (Qf Z) Z (Qc (Qe (Qe (Qh [true,true] Z Z (Qa (Qd Z) Z (Qa (Yi Z Z) Z (Qc (Ys Z (by first | (simp;done) | (simp only [Qq] <;> simp) | (simp only [Qi,Qq] <;> simp) | (simp only [Qi] <;> simp)) (Qo (Qe (Qh [true,true] Z Z (Qa (Qd Z) Z (Qa (Qf Z) Z (Qc (Qv (Qm Z Z E ?_))))))))))))))))
 rfl

set_option maxRecDepth 20000 in
theorem c_copyLink (cx : List Value) (x : Link) (w : World) (hx : Dat.R w 0 w.heap.size cx x) (hb : Y5 x ≤ 1048576) : Ct Tryz.prog 68 [.agg cx.toArray] w (fun v w'=>∃ cs,v = .agg cs.toArray ∧ Own1.O w' w.heap.size w'.heap.size cs x):=by
 unfold Y5 at hb
 refine Ym Tryz.func68 Z Tryz.ntmps68 Z ?_
 obtain ⟨o1,rfl,hd1⟩:=Link.op hx
 refine Q8 [(0,.agg [.int .i64 x.cap,o1,.int .i64 x.credits,.int .i64 x.back,.int .i64 x.sent,.int .i64 x.got].toArray)] ⟨Z,trivial⟩ ?_
 have E : Ext w w:=Ext.refl w
 refine Qe (Qh [false,false] Z Z (Y1 Z Z (fun b1 w1 e1 s1 h1=>?_)))
 have g_b1 : w.heap.size ≤ b1:=by have:=E.size;omega
 have y_b1:=h1.lt
 replace E:=E.trans e1
 have z1:=e1.size
 refine Yo X4 Z (fun b2 w2 e2 s2 h2=>?_)
 have g_b2 : w.heap.size ≤ b2:=by have:=E.size;omega
 have y_b2:=h2.lt
 replace E:=E.trans e2;replace h1:=h1.ext e2
 have z2:=e2.size
 refine Qc (Qe (Qh [true,true,false,true,false] Z Z (Qa (Qb Kv Z) Z (Qa (Qk Xq Z (h1.one 1 Z)) Z (Qw Tryz.call114 Z (c_copyRecords o1 x.queue _ (hd1.rd.ext E) (by first | omega | (simp only [Qi];omega) | (rw [Qi];done) | (simp only [Qi];done))) Z (fun v1 w3 e3 ho1=>?_))))))
 have g_ho1 : w.heap.size ≤ w2.heap.size:=E.size
 replace E:=E.trans e3;replace h1:=h1.ext e3;replace h2:=h2.ext e3
 have z3:=e3.size
 refine Qa (Qb Kv Z) Z (Yj (cs':=[.int .i64 x.cap,v1,.int .i64 x.credits,.int .i64 x.back,.int .i64 x.sent,.int .i64 x.got]) Xq Z Z ho1.one h1 (Nat.le_of_ble_eq_true Z) Z (fun w4 m1 h1'=>?_))
 replace h1:=h1'
 replace E:=E.step m1 (fun g hg=>by cases hg;omega);replace h2:=h2.mod m1 (fun g hg=>by cases hg;omega);replace ho1:=ho1.mod m1 (fun g hg=>by cases hg;omega)
 have z4:=m1.size
 refine Qc (Qe (Qh [true,false] Z Z (Qa (Qy X4 Z h1.at Z) Z (Q4 (cs':=[.int .i64 x.cap,v1,.int .i64 x.credits,.int .i64 x.back,.int .i64 x.sent,.int .i64 x.got]) X4 Z Z Z (Qj Z (Qj ho1.one (Qj Z (Qj Z (Qj Z (Qj Z Z)))))) h2 (Nat.le_of_ble_eq_true Z) Z (fun w5 m2 h2'=>?_)))))
 replace h2:=h2'
 replace E:=E.step m2 (fun g hg=>by cases hg;omega);replace h1:=h1.mod m2 (fun g hg=>by cases hg;omega);replace ho1:=ho1.mod m2 (fun g hg=>by cases hg;omega)
 have z5:=m2.size
 refine Qc (Qv (X3 Z Z (Yd X4 h2.at Z) E ?_))
 exact ⟨_,Z,Link.mkO x ⟨trivial,trivial⟩ (Own.widen ho1 (by omega) (by omega))⟩

set_option maxRecDepth 20000 in
theorem s_l06Copy (cx : List Value) (x : Link) (w : World) (hx : Dat.R w 0 w.heap.size cx x) (hb : Y5 x ≤ 1048576) : Ct Tryz.prog 101 [.agg cx.toArray] w (fun v w'=>∃ cs,v = .agg cs.toArray ∧ Own1.O w' w.heap.size w'.heap.size cs x):=by
 unfold Y5 at hb
 refine Ym Tryz.func101 Z Tryz.ntmps101 Z ?_
 obtain ⟨o1,rfl,hd1⟩:=Link.op hx
 refine Q8 [(0,.agg [.int .i64 x.cap,o1,.int .i64 x.credits,.int .i64 x.back,.int .i64 x.sent,.int .i64 x.got].toArray)] ⟨Z,trivial⟩ ?_
 have E : Ext w w:=Ext.refl w
 refine Qe (Qh [false,false] Z Z (Y1 Z Z (fun b1 w1 e1 s1 h1=>?_)))
 have g_b1 : w.heap.size ≤ b1:=by have:=E.size;omega
 have y_b1:=h1.lt
 replace E:=E.trans e1
 have z1:=e1.size
 refine Yo X4 Z (fun b2 w2 e2 s2 h2=>?_)
 have g_b2 : w.heap.size ≤ b2:=by have:=E.size;omega
 have y_b2:=h2.lt
 replace E:=E.trans e2;replace h1:=h1.ext e2
 have z2:=e2.size
 refine Qc (Qe (Qh [false,true,true,false,true,false] Z Z (Y7 (vs:=[]) (css:=[]) Kn Z Z trivial Z Z (fun b3 w3 e3 s3 h3=>?_))))
 replace h3 : Blk w3 b3 []:=h3
 have g_b3 : w.heap.size ≤ b3:=by have:=E.size;omega
 have y_b3:=h3.lt
 replace E:=E.trans e3;replace h1:=h1.ext e3;replace h2:=h2.ext e3
 have z3:=e3.size
 refine Qa (Qb Kv Z) Z (Qa (Qk Xq Z (h1.one 1 Z)) Z (Cc Kn Z Z (Own.ofBlk (lo:=b3) (hi:=b3 + 1) (sz:=5) h3 (Nat.le_refl _) (Nat.lt_succ_self _) (by simp) (by simp [maxLen])) (RdS.src (hd1.rd.ext E)) (Xp _) (by simp only [List.length_append,Yz,List.length_nil,List.length_cons,List.length_drop];simp only [Enc.sz];omega) (by decide) (by omega) (by omega) Z Z (fun v1 w4 m1 ho1=>?_)))
 replace E:=E.step m1 (fun g hg=>by have:=Own.blk (Own.ofBlk (lo:=b3) (hi:=b3 + 1) (sz:=5) h3 (Nat.le_refl _) (Nat.lt_succ_self _) (by simp) (by simp [maxLen])) g hg;omega);replace h1:=h1.mod m1 (fun g hg=>by have:=Own.blk (Own.ofBlk (lo:=b3) (hi:=b3 + 1) (sz:=5) h3 (Nat.le_refl _) (Nat.lt_succ_self _) (by simp) (by simp [maxLen])) g hg;omega);replace h2:=h2.mod m1 (fun g hg=>by have:=Own.blk (Own.ofBlk (lo:=b3) (hi:=b3 + 1) (sz:=5) h3 (Nat.le_refl _) (Nat.lt_succ_self _) (by simp) (by simp [maxLen])) g hg;omega)
 have z4:=m1.size
 refine Qa (Qb Kv Z) Z (Yj (cs':=[.int .i64 x.cap,v1,.int .i64 x.credits,.int .i64 x.back,.int .i64 x.sent,.int .i64 x.got]) Xq Z Z ho1.one h1 (Nat.le_of_ble_eq_true Z) Z (fun w5 m2 h1'=>?_))
 replace h1:=h1'
 replace E:=E.step m2 (fun g hg=>by cases hg;omega);replace h2:=h2.mod m2 (fun g hg=>by cases hg;omega);replace ho1:=ho1.mod m2 (fun g hg=>by cases hg;omega)
 have z5:=m2.size
 refine Qc (Qe (Qh [true,false] Z Z (Qa (Qy X4 Z h1.at Z) Z (Q4 (cs':=[.int .i64 x.cap,v1,.int .i64 x.credits,.int .i64 x.back,.int .i64 x.sent,.int .i64 x.got]) X4 Z Z Z (Qj Z (Qj ho1.one (Qj Z (Qj Z (Qj Z (Qj Z Z)))))) h2 (Nat.le_of_ble_eq_true Z) Z (fun w6 m3 h2'=>?_)))))
 replace h2:=h2'
 replace E:=E.step m3 (fun g hg=>by cases hg;omega);replace h1:=h1.mod m3 (fun g hg=>by cases hg;omega);replace ho1:=ho1.mod m3 (fun g hg=>by cases hg;omega)
 have z6:=m3.size
 refine Qc (Qv (X3 Z Z (Yd X4 h2.at Z) E ?_))
 exact ⟨_,Z,Link.mkO (⟨x.cap,[] ++ x.queue,x.credits,x.back,x.sent,x.got⟩ : Link) ⟨trivial,trivial⟩ (Own.widen ho1 (by omega) (by omega))⟩

set_option maxRecDepth 20000 in
theorem s_OwnerOf (k : Int) (n : Int) (w : World) (hn : rg n) : Ct Tryz.prog 90 [.int .i64 k,.int .i64 n] w (fun v _=>v = .int .i64 (Ql k n)):=by
 unfold rg at hn
 refine Ym Tryz.func90 Z Tryz.ntmps90 Z ?_
 refine Q8 [(0,.int .i64 k),(1,.int .i64 n)] ⟨Z,Z,trivial⟩ ?_
 have E : Ext w w:=Ext.refl w
 refine Qe (Qh [true] Z Z (Qa (Qf Z) Z (Qc (Qe (Qe (Qh [true,true] Z Z (Qa (Qd Z) Z (Qa (Yi Z Z) Z (Qc (Qt Z (fun hc1=>?_) (fun hc1=>?_)))))))))))
 ·refine Qe (Qh [true] Z Z (Qa (Qf Z) Z (Qc (Qv (Qm Z Z E ?_)))))
  rw [Ql,if_pos (of_decide_eq_true hc1)]
 ·have hn1:=of_decide_eq_false hc1
  refine Qo (Qe (Qh [true,true,true,true] Z Z (Qa (Qd Z) Z (Qa (Qd Z) Z (Qa (Gm Z Z (by omega) Z) Z (Qa (Qf Z) Z (Qc (Qe (Qe (Qh [true,true] Z Z (Qa (Qd Z) Z (Qa (Yi Z Z) Z (Qc (Qt Z (fun hc2=>?_) (fun hc2=>?_)))))))))))))))
  ·refine Qh [true,true,true,true] Z Z (Qa (Qd Z) Z (Qa (Qd Z) Z (Qa (Ye Z Z Z) Z (Qa (Qf Z) Z (Qc (Qe (Qh [true,true] Z Z (Qa (Qd Z) Z (Qa (Qf Z) Z (Qc (Qv (Qm Z Z E ?_))))))))))))
   have h1:=Int.lt_tmod_of_pos k (show 0 < n by simp at hc1;omega)
   rw [Ql,if_neg (of_decide_eq_false hc1),if_pos (of_decide_eq_true hc2),Ki (by simp at hc2;omega) (by simp at hc2;omega)]
  ·refine Qo (Qe (Qh [true,true] Z Z (Qa (Qd Z) Z (Qa (Qf Z) Z (Qc (Qv (Qm Z Z E ?_)))))))
   rw [Ql,if_neg (of_decide_eq_false hc1),if_neg (of_decide_eq_false hc2)]

set_option maxHeartbeats 4000000 in
set_option maxRecDepth 20000 in
theorem s_SendOn (cx : List Value) (x : Link) (r : Record) (w : World) (hx : Dat.R w 0 w.heap.size cx x) (hb : Y5 x ≤ 1048576) : Ct Tryz.prog 91 [.agg cx.toArray,.agg (Enc.enc r).toArray] w (fun v w'=>∃ c0,v = .tuple [.agg c0.toArray,.bool ((Yf x r).2)].toArray ∧ Own1.O w' w.heap.size w'.heap.size c0 ((Yf x r).1)):=by
 unfold Y5 at hb
 refine Ym Tryz.func91 Z Tryz.ntmps91 Z ?_
 obtain ⟨o1,rfl,hd1⟩:=Link.op hx
 refine Q8 [(0,.agg [.int .i64 x.cap,o1,.int .i64 x.credits,.int .i64 x.back,.int .i64 x.sent,.int .i64 x.got].toArray),(1,.agg (Enc.enc r).toArray)] ⟨Z,Z,trivial⟩ ?_
 have E : Ext w w:=Ext.refl w
 refine Qe (Qh [false,false,false,true] Z Z (Y1 Z Z (fun b1 w1 e1 s1 h1=>?_)))
 have g_b1 : w.heap.size ≤ b1:=by have:=E.size;omega
 have y_b1:=h1.lt
 replace E:=E.trans e1
 have z1:=e1.size
 refine Y1 Z Z (fun b2 w2 e2 s2 h2=>?_)
 have g_b2 : w.heap.size ≤ b2:=by have:=E.size;omega
 have y_b2:=h2.lt
 replace E:=E.trans e2;replace h1:=h1.ext e2
 have z2:=e2.size
 refine Yo X4 Z (fun b3 w3 e3 s3 h3=>?_)
 have g_b3 : w.heap.size ≤ b3:=by have:=E.size;omega
 have y_b3:=h3.lt
 replace E:=E.trans e3;replace h1:=h1.ext e3;replace h2:=h2.ext e3
 have z3:=e3.size
 refine Qa (Qf Z) Z (Qc (Qe (Qh [true,false,false] Z Z (Qa (Qy X4 Z h1.at Z) Z (Qw Tryz.call101 Z (s_l06Copy [.int .i64 x.cap,o1,.int .i64 x.credits,.int .i64 x.back,.int .i64 x.sent,.int .i64 x.got] x _ (Link.mkR x (RdD.any (hd1.ext E))) hb) Z (fun _ w4 e4 ho1=>?_))))))
 obtain ⟨_,rfl,ho1⟩:=ho1
 have g_ho1 : w.heap.size ≤ w3.heap.size:=E.size
 replace E:=E.trans e4;replace h1:=h1.ext e4;replace h2:=h2.ext e4;replace h3:=h3.ext e4
 have z4:=e4.size
 obtain ⟨o2,rfl,sp1,hw1⟩:=Link.opO ho1
 refine Q4 (cs':=[.int .i64 x.cap,o2,.int .i64 x.credits,.int .i64 x.back,.int .i64 x.sent,.int .i64 x.got]) X4 Z Z Z (Qj Z (Qj hw1.one (Qj Z (Qj Z (Qj Z (Qj Z Z)))))) h1 (Nat.le_of_ble_eq_true Z) Z (fun w5 m1 h1'=>?_)
 replace h1:=h1'
 replace E:=E.step m1 (fun g hg=>by cases hg;omega);replace h2:=h2.mod m1 (fun g hg=>by cases hg;omega);replace h3:=h3.mod m1 (fun g hg=>by cases hg;omega);replace hw1:=hw1.mod m1 (fun g hg=>by cases hg;omega)
 have z5:=m1.size
 refine Qc (Qe (Qe (Qh [true,false,true,true,true,false,true,true,true,true,true,true,true,true,true,true,true,true] Z Z (Qa (Qy X4 Z h1.at Z) Z (Qw Tryz.call104 Z (s_LinkOk [.int .i64 x.cap,o2,.int .i64 x.credits,.int .i64 x.back,.int .i64 x.sent,.int .i64 x.got] x _ (Link.mkR x (RdD.any (Own.rdD hw1)))) Z (fun _ w6 e5 hv=>?_))))))
 subst hv
 replace E:=E.trans e5;replace h1:=h1.ext e5;replace h2:=h2.ext e5;replace h3:=h3.ext e5;replace hw1:=hw1.ext e5
 have z6:=e5.size
 refine Qa (Yy Z) Z (Qa (Qd Z) Z (Xf 14 [(0,.agg [.int .i64 x.cap,o1,.int .i64 x.credits,.int .i64 x.back,.int .i64 x.sent,.int .i64 x.got].toArray),(1,.agg (Enc.enc r).toArray),(2,.pointer (some ⟨b1,0,none⟩)),(3,.pointer (some ⟨b2,0,none⟩)),(4,.pointer (some ⟨b3,0,none⟩)),(5,.bool false),(6,.agg [.int .i64 x.cap,o1,.int .i64 x.credits,.int .i64 x.back,.int .i64 x.sent,.int .i64 x.got].toArray),(7,.agg [.int .i64 x.cap,o2,.int .i64 x.credits,.int .i64 x.back,.int .i64 x.sent,.int .i64 x.got].toArray),(25,.bool ((((!(Xa x)) || (!(Y2 r))) || (x.credits == 0)) || (decide (1000000000 ≤ x.sent))))] (fun w'=>Ext w w' ∧ w6.heap.size ≤ w'.heap.size ∧ Blk w' b1 [.int .i64 x.cap,o2,.int .i64 x.credits,.int .i64 x.back,.int .i64 x.sent,.int .i64 x.got] ∧ Blk w' b2 (Enc.enc r) ∧ Blk w' b3 [.int .i64 0,.slice none 0 0,.int .i64 0,.int .i64 0,.int .i64 0,.int .i64 0] ∧ Own w' w3.heap.size w4.heap.size 5 o2 (List.flatMap (Enc.enc (α:=Record)) x.queue)) ?_ ?_))
 ·refine Y4 (gd:=11) Z Z (fun hg1=>?_) (fun hg1=>?_)
  ·refine Qg Z Z Z Z ?_
   refine Yx Z Z Z Z ?_
   refine Qg Z Z Z Z (Qa (Qx Z Z) Z (Qa (Qd Z) Z (Qg Z Z Z Z (Qg Z Z Z Z (Qg Z Z Z Z (Qa (Qx Z Z) Z (Qa (Qd Z) Z (Qg Z Z Z Z (Qg Z Z Z Z (Qg Z Z Z Z (Qa (Qx Z Z) Z (Qr ⟨Z,Z,Z,Z,Z,Z,Z,Z,congrArg (fun b=>some (Value.bool b)) (show true = ((((!(Xa x)) || (!(Y2 r))) || (x.credits == 0)) || (decide (1000000000 ≤ x.sent))) by first | (rw [hg1] <;> rfl) | (simp [hg1];done) | (simp only [Qq] <;> simp)),trivial⟩ ⟨E,(by omega),h1,h2,h3,hw1⟩))))))))))))
  ·refine Qn Z Z (Qy Ul Z h2.at Z) Z ?_
   refine X2 Z Z ?_
   refine Qw Tryz.call126 Z (s_RecordOk r _ ) Z (fun _ w8 e6 hv=>?_)
   subst hv
   replace E:=E.trans e6;replace h1:=h1.ext e6;replace h2:=h2.ext e6;replace h3:=h3.ext e6;replace hw1:=hw1.ext e6
   have z7:=e6.size
   refine Qn Z Z (Yy Z) Z (Qa (Q1 Z Z) Z (Qa (Qd Z) Z ?_))
   refine Y4 (gd:=16) Z Z (fun hg2=>?_) (fun hg2=>?_)
   ·refine Qg Z Z Z Z (Qg Z Z Z Z (Qg Z Z Z Z (Qa (Qx Z Z) Z (Qa (Qd Z) Z (Qg Z Z Z Z (Qg Z Z Z Z (Qg Z Z Z Z (Qa (Qx Z Z) Z (Qr ⟨Z,Z,Z,Z,Z,Z,Z,Z,congrArg (fun b=>some (Value.bool b)) (show true = ((((!(Xa x)) || (!(Y2 r))) || (x.credits == 0)) || (decide (1000000000 ≤ x.sent))) by first | (rw [hg1,hg2] <;> rfl) | (simp [hg1,hg2];done) | (simp only [Qq] <;> simp)),trivial⟩ ⟨E,(by omega),h1,h2,h3,hw1⟩)))))))))
   ·refine Qn Z Z (Qb Vn Z) Z (Qn Z Z (Qk Yt Z (h1.one 2 Z)) Z (Qn Z Z (Xm Z Z) Z (Qa (Q1 Z Z) Z (Qa (Qd Z) Z ?_))))
    refine Y4 (gd:=21) Z Z (fun hg3=>?_) (fun hg3=>?_)
    ·refine Qg Z Z Z Z (Qg Z Z Z Z (Qg Z Z Z Z (Qa (Qx Z Z) Z (Qr ⟨Z,Z,Z,Z,Z,Z,Z,Z,congrArg (fun b=>some (Value.bool b)) (show true = ((((!(Xa x)) || (!(Y2 r))) || (x.credits == 0)) || (decide (1000000000 ≤ x.sent))) by first | (rw [hg1,hg2,hg3] <;> rfl) | (simp [hg1,hg2,hg3];done) | (simp only [Qq] <;> simp)),trivial⟩ ⟨E,(by omega),h1,h2,h3,hw1⟩))))
    ·refine Qn Z Z (Qb Vm Z) Z (Qn Z Z (Qk Yt Z (h1.one 4 Z)) Z (Qn Z Z (Tt Z Z) Z (Qa (Q1 Z Z) Z (Qr ⟨Z,Z,Z,Z,Z,Z,Z,Z,congrArg (fun b=>some (Value.bool b)) (show (decide (1000000000 ≤ x.sent)) = ((((!(Xa x)) || (!(Y2 r))) || (x.credits == 0)) || (decide (1000000000 ≤ x.sent))) by first | (rw [hg1,hg2,hg3] <;> rfl) | (simp [hg1,hg2,hg3];done) | (simp only [Qq] <;> simp)),trivial⟩ ⟨E,(by omega),h1,h2,h3,hw1⟩))))
 clear E h1 h2 h3 hw1
 rintro w7 ⟨E,z8,h1,h2,h3,hw1⟩
 refine Qc (Qt Z (fun hc1=>?_) (fun hc1=>?_))
 ·refine Qe (Qh [true,false,true] Z Z (Qa (Qy X4 Z h1.at Z) Z (Q4 (cs':=[.int .i64 x.cap,o2,.int .i64 x.credits,.int .i64 x.back,.int .i64 x.sent,.int .i64 x.got]) X4 Z Z Z (Qj Z (Qj hw1.one (Qj Z (Qj Z (Qj Z (Qj Z Z)))))) h3 (Nat.le_of_ble_eq_true Z) Z (fun w9 m2 h3'=>?_))))
  replace h3:=h3'
  replace E:=E.step m2 (fun g hg=>by cases hg;omega);replace h1:=h1.mod m2 (fun g hg=>by cases hg;omega);replace h2:=h2.mod m2 (fun g hg=>by cases hg;omega);replace hw1:=hw1.mod m2 (fun g hg=>by cases hg;omega)
  have z9:=m2.size
  refine Qa (Qf Z) Z (Qc (Qv (Vk (l:=[.cell 4 68,.tmp 5]) (vs:=[.agg [.int .i64 x.cap,o2,.int .i64 x.credits,.int .i64 x.back,.int .i64 x.sent,.int .i64 x.got].toArray,.bool false]) Z ⟨.cell Z (Yd X4 h3.at Z),.tmp Z,trivial⟩ Z E ?_)))
  replace hc1:=send_s _ hc1
  rw [send_no hc1]
  exact ⟨_,Z,(Link.mkO x sp1 (Own.widen hw1 (by omega) (by omega)))⟩
 ·refine Qo (Qe (Qh [true,true,true,false,false,true,false] Z Z (Qa (Qb Kv Z) Z (Qa (Qk Xq Z (h1.one 1 Z)) Z (Qa (Qy Ul Z h2.at Z) Z (Y7 (vs:=[.agg (Enc.enc r).toArray]) (css:=[[.int .i64 r.op,.int .i64 r.stamp.epoch,.int .i64 r.stamp.turn,.int .i64 r.key,.int .i64 r.val]]) Kn Z Z ⟨⟨Z,Z⟩,trivial⟩ Z Z (fun b4 w10 e7 s4 h4=>?_)))))))
  replace h4 : Blk w10 b4 [.int .i64 r.op,.int .i64 r.stamp.epoch,.int .i64 r.stamp.turn,.int .i64 r.key,.int .i64 r.val]:=h4
  have g_b4 : w.heap.size ≤ b4:=by have:=E.size;omega
  have y_b4:=h4.lt
  replace E:=E.trans e7;replace h1:=h1.ext e7;replace h2:=h2.ext e7;replace h3:=h3.ext e7;replace hw1:=hw1.ext e7
  have z10:=e7.size
  refine Hx Kn Z Z hw1 (Src.ofBlk h4 Z) Z (by simp only [List.length_append,Yz,List.length_nil,List.length_cons,List.length_drop];simp only [Enc.sz];omega) (by decide) (by omega) (by omega) Z Z (fun v1 w11 m3 ho2 hb1=>?_)
  have hn1 : ∀ g,Value.ownBlock v1 = some g → g < w4.heap.size ∨ w10.heap.size ≤ g:=fun g hg=>(hb1 g hg).elim (fun h=>.inl (by have:=Own.blk hw1 g h;omega)) (fun h=>.inr h)
  have sq1:=sp1
  replace sp1:=SepL.set hb1 0 rfl sp1 ⟨(Own.lt hw1),trivial⟩
  replace sp1 : SepL [v1]:=sp1
  replace E:=E.step m3 (fun g hg=>by have:=Own.blk hw1 g hg;omega);replace h1:=h1.mod m3 (fun g hg=>by have:=Own.blk hw1 g hg;omega);replace h2:=h2.mod m3 (fun g hg=>by have:=Own.blk hw1 g hg;omega);replace h3:=h3.mod m3 (fun g hg=>by have:=Own.blk hw1 g hg;omega)
  have z11:=m3.size
  replace ho2 : Own w11 w3.heap.size w11.heap.size 5 v1 (List.flatMap (Enc.enc (α:=Record)) (x.queue ++ [r])):=by rw [List.flatMap_append];exact ho2
  refine Qa (Qb Kv Z) Z (Yj (cs':=[.int .i64 x.cap,v1,.int .i64 x.credits,.int .i64 x.back,.int .i64 x.sent,.int .i64 x.got]) Xq Z Z ho2.one h1 (Nat.le_of_ble_eq_true Z) Z (fun w12 m4 h1'=>?_))
  replace h1:=h1'
  replace E:=E.step m4 (fun g hg=>by cases hg;omega);replace h2:=h2.mod m4 (fun g hg=>by cases hg;omega);replace h3:=h3.mod m4 (fun g hg=>by cases hg;omega);replace ho2:=Own.modN ho2 m4 (fun g hg hv=>by have hN:=hn1 g hv;have hB:=Own.blk ho2 g hv;cases hg;omega)
  have z12:=m4.size
  refine Qc (Qe (Qh [true,true,true,true,false] Z Z (Qa (Qb Vn Z) Z (Qa (Qk Yt Z (h1.one 2 Z)) Z (Qa (K6 Z Z Z) Z (Qa (Qb Vn Z) Z (Yj (cs':=[.int .i64 x.cap,v1,.int .i64 (IntKind.i64.wrap (x.credits - 1)),.int .i64 x.back,.int .i64 x.sent,.int .i64 x.got]) Yt Z Z Z h1 (Nat.le_of_ble_eq_true Z) Z (fun w13 m5 h1'=>?_))))))))
  replace h1:=h1'
  replace E:=E.step m5 (fun g hg=>by cases hg;omega);replace h2:=h2.mod m5 (fun g hg=>by cases hg;omega);replace h3:=h3.mod m5 (fun g hg=>by cases hg;omega);replace ho2:=Own.modN ho2 m5 (fun g hg hv=>by have hN:=hn1 g hv;have hB:=Own.blk ho2 g hv;cases hg;omega)
  have z13:=m5.size
  refine Qc (Qe (Qh [true,true,true,true,false] Z Z (Qa (Qb Vm Z) Z (Qa (Qk Yt Z (h1.one 4 Z)) Z (Qa (Ye Z Z Z) Z (Qa (Qb Vm Z) Z (Yj (cs':=[.int .i64 x.cap,v1,.int .i64 (IntKind.i64.wrap (x.credits - 1)),.int .i64 x.back,.int .i64 (IntKind.i64.wrap (x.sent + 1)),.int .i64 x.got]) Yt Z Z Z h1 (Nat.le_of_ble_eq_true Z) Z (fun w14 m6 h1'=>?_))))))))
  replace h1:=h1'
  replace E:=E.step m6 (fun g hg=>by cases hg;omega);replace h2:=h2.mod m6 (fun g hg=>by cases hg;omega);replace h3:=h3.mod m6 (fun g hg=>by cases hg;omega);replace ho2:=Own.modN ho2 m6 (fun g hg hv=>by have hN:=hn1 g hv;have hB:=Own.blk ho2 g hv;cases hg;omega)
  have z14:=m6.size
  refine Qc (Qe (Qh [true,false,true] Z Z (Qa (Qy X4 Z h1.at Z) Z (Q4 (cs':=[.int .i64 x.cap,v1,.int .i64 (IntKind.i64.wrap (x.credits - 1)),.int .i64 x.back,.int .i64 (IntKind.i64.wrap (x.sent + 1)),.int .i64 x.got]) X4 Z Z Z (Qj Z (Qj ho2.one (Qj Z (Qj Z (Qj Z (Qj Z Z)))))) h3 (Nat.le_of_ble_eq_true Z) Z (fun w15 m7 h3'=>?_)))))
  replace h3:=h3'
  replace E:=E.step m7 (fun g hg=>by cases hg;omega);replace h1:=h1.mod m7 (fun g hg=>by cases hg;omega);replace h2:=h2.mod m7 (fun g hg=>by cases hg;omega);replace ho2:=Own.modN ho2 m7 (fun g hg hv=>by have hN:=hn1 g hv;have hB:=Own.blk ho2 g hv;cases hg;omega)
  have z15:=m7.size
  refine Qa (Qf Z) Z (Qc (Qv (Vk (l:=[.cell 4 68,.tmp 5]) (vs:=[.agg [.int .i64 x.cap,v1,.int .i64 (IntKind.i64.wrap (x.credits - 1)),.int .i64 x.back,.int .i64 (IntKind.i64.wrap (x.sent + 1)),.int .i64 x.got].toArray,.bool true]) Z ⟨.cell Z (Yd X4 h3.at Z),.tmp Z,trivial⟩ Z E ?_)))
  replace hc1:=send_s _ hc1
  rw [send_yes hc1]
  exact ⟨_,Z,(Link.mkO (⟨x.cap,x.queue ++ [r],IntKind.i64.wrap (x.credits - 1),x.back,IntKind.i64.wrap (x.sent + 1),x.got⟩ : Link) sp1 (Own.widen ho2 (by omega) (by omega)))⟩

set_option maxRecDepth 20000 in
theorem c_OwnerOf (k : Int) (n : Int) (w : World) (hn : rg n) : Ct Tryz.prog 48 [.int .i64 k,.int .i64 n] w (fun v _=>v = .int .i64 (Ql k n)):=by
 unfold rg at hn
 refine Ym Tryz.func48 Z Tryz.ntmps48 Z ?_
 refine Q8 [(0,.int .i64 k),(1,.int .i64 n)] ⟨Z,Z,trivial⟩ ?_
 have E : Ext w w:=Ext.refl w
 refine Qe (Qh [true] Z Z (Qa (Qf Z) Z (Qc (Qe (Qe (Qh [true,true] Z Z (Qa (Qd Z) Z (Qa (Yi Z Z) Z (Qc (Qt Z (fun hc1=>?_) (fun hc1=>?_)))))))))))
 ·refine Qe (Qh [true] Z Z (Qa (Qf Z) Z (Qc (Qv (Qm Z Z E ?_)))))
  rw [Ql,if_pos (of_decide_eq_true hc1)]
 ·have hn1:=of_decide_eq_false hc1
  refine Qo (Qe (Qh [true,true,true,true] Z Z (Qa (Qd Z) Z (Qa (Qd Z) Z (Qa (Gm Z Z (by omega) Z) Z (Qa (Qf Z) Z (Qc (Qe (Qe (Qh [true,true] Z Z (Qa (Qd Z) Z (Qa (Yi Z Z) Z (Qc (Qt Z (fun hc2=>?_) (fun hc2=>?_)))))))))))))))
  ·refine Qh [true,true,true,true] Z Z (Qa (Qd Z) Z (Qa (Qd Z) Z (Qa (Ye Z Z Z) Z (Qa (Qf Z) Z (Qc (Qe (Qh [true,true] Z Z (Qa (Qd Z) Z (Qa (Qf Z) Z (Qc (Qv (Qm Z Z E ?_))))))))))))
   have h1:=Int.lt_tmod_of_pos k (show 0 < n by simp at hc1;omega)
   rw [Ql,if_neg (of_decide_eq_false hc1),if_pos (of_decide_eq_true hc2),Ki (by simp at hc2;omega) (by simp at hc2;omega)]
  ·refine Qo (Qe (Qh [true,true] Z Z (Qa (Qd Z) Z (Qa (Qf Z) Z (Qc (Qv (Qm Z Z E ?_)))))))
   rw [Ql,if_neg (of_decide_eq_false hc1),if_neg (of_decide_eq_false hc2)]

set_option maxHeartbeats 4000000 in
set_option maxRecDepth 20000 in
theorem c_SendOn (cx : List Value) (x : Link) (r : Record) (w : World) (hx : Dat.R w 0 w.heap.size cx x) (hb : Y5 x ≤ 1048576) (hr : rg x.got) : Ct Tryz.prog 51 [.agg cx.toArray,.agg (Enc.enc r).toArray] w (fun v w'=>∃ c0,v = .tuple [.agg c0.toArray,.bool ((Yf x r).2)].toArray ∧ Own1.O w' w.heap.size w'.heap.size c0 ((Yf x r).1)):=by
 unfold Y5 at hb
 refine Ym Tryz.func51 Z Tryz.ntmps51 Z ?_
 obtain ⟨o1,rfl,hd1⟩:=Link.op hx
 refine Q8 [(0,.agg [.int .i64 x.cap,o1,.int .i64 x.credits,.int .i64 x.back,.int .i64 x.sent,.int .i64 x.got].toArray),(1,.agg (Enc.enc r).toArray)] ⟨Z,Z,trivial⟩ ?_
 have E : Ext w w:=Ext.refl w
 refine Qe (Qh [false,false,false,true] Z Z (Y1 Z Z (fun b1 w1 e1 s1 h1=>?_)))
 have g_b1 : w.heap.size ≤ b1:=by have:=E.size;omega
 have y_b1:=h1.lt
 replace E:=E.trans e1
 have z1:=e1.size
 refine Y1 Z Z (fun b2 w2 e2 s2 h2=>?_)
 have g_b2 : w.heap.size ≤ b2:=by have:=E.size;omega
 have y_b2:=h2.lt
 replace E:=E.trans e2;replace h1:=h1.ext e2
 have z2:=e2.size
 refine Yo X4 Z (fun b3 w3 e3 s3 h3=>?_)
 have g_b3 : w.heap.size ≤ b3:=by have:=E.size;omega
 have y_b3:=h3.lt
 replace E:=E.trans e3;replace h1:=h1.ext e3;replace h2:=h2.ext e3
 have z3:=e3.size
 refine Qa (Qf Z) Z (Qc (Qe (Qh [true,false,false,false] Z Z (Qa (Qy X4 Z h1.at Z) Z (Qw Tryz.call68 Z (c_copyLink [.int .i64 x.cap,o1,.int .i64 x.credits,.int .i64 x.back,.int .i64 x.sent,.int .i64 x.got] x _ (Link.mkR x (RdD.any (hd1.ext E))) hb) Z (fun _ w4 e4 ho1=>?_))))))
 obtain ⟨_,rfl,ho1⟩:=ho1
 have g_ho1 : w.heap.size ≤ w3.heap.size:=E.size
 replace E:=E.trans e4;replace h1:=h1.ext e4;replace h2:=h2.ext e4;replace h3:=h3.ext e4
 have z4:=e4.size
 obtain ⟨o2,rfl,sp1,hw1⟩:=Link.opO ho1
 refine Yo X4 Z (fun b4 w5 e5 s4 h4=>?_)
 have g_b4 : w.heap.size ≤ b4:=by have:=E.size;omega
 have y_b4:=h4.lt
 replace E:=E.trans e5;replace h1:=h1.ext e5;replace h2:=h2.ext e5;replace h3:=h3.ext e5;replace hw1:=hw1.ext e5
 have z5:=e5.size
 refine Q4 (cs':=[.int .i64 x.cap,o2,.int .i64 x.credits,.int .i64 x.back,.int .i64 x.sent,.int .i64 x.got]) X4 Z Z Z (Qj Z (Qj hw1.one (Qj Z (Qj Z (Qj Z (Qj Z Z)))))) h4 (Nat.le_of_ble_eq_true Z) Z (fun w6 m1 h4'=>?_)
 replace h4:=h4'
 replace E:=E.step m1 (fun g hg=>by cases hg;omega);replace h1:=h1.mod m1 (fun g hg=>by cases hg;omega);replace h2:=h2.mod m1 (fun g hg=>by cases hg;omega);replace h3:=h3.mod m1 (fun g hg=>by cases hg;omega);replace hw1:=hw1.mod m1 (fun g hg=>by cases hg;omega)
 have z6:=m1.size
 refine Qc (Qe (Qe (Qh [true,false,true,true,true,false,true,true,true,true,true,true,true,true,true,true,true,true] Z Z (Qa (Qy X4 Z h1.at Z) Z (Qw Tryz.call70 Z (c_LinkOk [.int .i64 x.cap,o1,.int .i64 x.credits,.int .i64 x.back,.int .i64 x.sent,.int .i64 x.got] x _ (Link.mkR x (RdD.any (hd1.ext E))) hr) Z (fun _ w7 e6 hv=>?_))))))
 subst hv
 replace E:=E.trans e6;replace h1:=h1.ext e6;replace h2:=h2.ext e6;replace h3:=h3.ext e6;replace hw1:=hw1.ext e6;replace h4:=h4.ext e6
 have z7:=e6.size
 refine Qa (Yy Z) Z (Qa (Qd Z) Z (Xf 14 [(0,.agg [.int .i64 x.cap,o1,.int .i64 x.credits,.int .i64 x.back,.int .i64 x.sent,.int .i64 x.got].toArray),(1,.agg (Enc.enc r).toArray),(2,.pointer (some ⟨b1,0,none⟩)),(3,.pointer (some ⟨b2,0,none⟩)),(4,.pointer (some ⟨b3,0,none⟩)),(5,.bool false),(6,.pointer (some ⟨b4,0,none⟩)),(7,.agg [.int .i64 x.cap,o1,.int .i64 x.credits,.int .i64 x.back,.int .i64 x.sent,.int .i64 x.got].toArray),(8,.agg [.int .i64 x.cap,o2,.int .i64 x.credits,.int .i64 x.back,.int .i64 x.sent,.int .i64 x.got].toArray),(26,.bool ((((!(Xa x)) || (!(Y2 r))) || (x.credits == 0)) || (x.sent == 1000000000)))] (fun w'=>Ext w w' ∧ w7.heap.size ≤ w'.heap.size ∧ Blk w' b1 ([.int .i64 x.cap,o1,.int .i64 x.credits,.int .i64 x.back,.int .i64 x.sent,.int .i64 x.got]) ∧ Blk w' b2 (Enc.enc r) ∧ Blk w' b3 [.int .i64 0,.slice none 0 0,.int .i64 0,.int .i64 0,.int .i64 0,.int .i64 0] ∧ Own w' w3.heap.size w4.heap.size 5 o2 (List.flatMap (Enc.enc (α:=Record)) x.queue) ∧ Blk w' b4 [.int .i64 x.cap,o2,.int .i64 x.credits,.int .i64 x.back,.int .i64 x.sent,.int .i64 x.got]) ?_ ?_))
 ·refine Y4 (gd:=12) Z Z (fun hg1=>?_) (fun hg1=>?_)
  ·refine Qg Z Z Z Z ?_
   refine Yx Z Z Z Z ?_
   refine Qg Z Z Z Z (Qa (Qx Z Z) Z (Qa (Qd Z) Z (Qg Z Z Z Z (Qg Z Z Z Z (Qg Z Z Z Z (Qa (Qx Z Z) Z (Qa (Qd Z) Z (Qg Z Z Z Z (Qg Z Z Z Z (Qg Z Z Z Z (Qa (Qx Z Z) Z (Qr ⟨Z,Z,Z,Z,Z,Z,Z,Z,Z,congrArg (fun b=>some (Value.bool b)) (show true = ((((!(Xa x)) || (!(Y2 r))) || (x.credits == 0)) || (x.sent == 1000000000)) by first | (rw [hg1] <;> rfl) | (simp [hg1];done) | (simp only [Qq] <;> simp)),trivial⟩ ⟨E,(by omega),h1,h2,h3,hw1,h4⟩))))))))))))
  ·refine Qn Z Z (Qy Ul Z h2.at Z) Z ?_
   refine X2 Z Z ?_
   refine Qw Tryz.call92 Z (c_RecordOk r _ ) Z (fun _ w9 e7 hv=>?_)
   subst hv
   replace E:=E.trans e7;replace h1:=h1.ext e7;replace h2:=h2.ext e7;replace h3:=h3.ext e7;replace hw1:=hw1.ext e7;replace h4:=h4.ext e7
   have z8:=e7.size
   refine Qn Z Z (Yy Z) Z (Qa (Q1 Z Z) Z (Qa (Qd Z) Z ?_))
   refine Y4 (gd:=17) Z Z (fun hg2=>?_) (fun hg2=>?_)
   ·refine Qg Z Z Z Z (Qg Z Z Z Z (Qg Z Z Z Z (Qa (Qx Z Z) Z (Qa (Qd Z) Z (Qg Z Z Z Z (Qg Z Z Z Z (Qg Z Z Z Z (Qa (Qx Z Z) Z (Qr ⟨Z,Z,Z,Z,Z,Z,Z,Z,Z,congrArg (fun b=>some (Value.bool b)) (show true = ((((!(Xa x)) || (!(Y2 r))) || (x.credits == 0)) || (x.sent == 1000000000)) by first | (rw [hg1,hg2] <;> rfl) | (simp [hg1,hg2];done) | (simp only [Qq] <;> simp)),trivial⟩ ⟨E,(by omega),h1,h2,h3,hw1,h4⟩)))))))))
   ·refine Qn Z Z (Qb Vn Z) Z (Qn Z Z (Qk Yt Z (h1.one 2 Z)) Z (Qn Z Z (Xm Z Z) Z (Qa (Q1 Z Z) Z (Qa (Qd Z) Z ?_))))
    refine Y4 (gd:=22) Z Z (fun hg3=>?_) (fun hg3=>?_)
    ·refine Qg Z Z Z Z (Qg Z Z Z Z (Qg Z Z Z Z (Qa (Qx Z Z) Z (Qr ⟨Z,Z,Z,Z,Z,Z,Z,Z,Z,congrArg (fun b=>some (Value.bool b)) (show true = ((((!(Xa x)) || (!(Y2 r))) || (x.credits == 0)) || (x.sent == 1000000000)) by first | (rw [hg1,hg2,hg3] <;> rfl) | (simp [hg1,hg2,hg3];done) | (simp only [Qq] <;> simp)),trivial⟩ ⟨E,(by omega),h1,h2,h3,hw1,h4⟩))))
    ·refine Qn Z Z (Qb Vm Z) Z (Qn Z Z (Qk Yt Z (h1.one 4 Z)) Z (Qn Z Z (Xm Z Z) Z (Qa (Q1 Z Z) Z (Qr ⟨Z,Z,Z,Z,Z,Z,Z,Z,Z,congrArg (fun b=>some (Value.bool b)) (show (x.sent == 1000000000) = ((((!(Xa x)) || (!(Y2 r))) || (x.credits == 0)) || (x.sent == 1000000000)) by first | (rw [hg1,hg2,hg3] <;> rfl) | (simp [hg1,hg2,hg3];done) | (simp only [Qq] <;> simp)),trivial⟩ ⟨E,(by omega),h1,h2,h3,hw1,h4⟩))))
 clear E h1 h2 h3 hw1 h4
 rintro w8 ⟨E,z9,h1,h2,h3,hw1,h4⟩
 refine Qc (Qt Z (fun hc1=>?_) (fun hc1=>?_))
 ·refine Qe (Qh [true,false,true] Z Z (Qa (Qy X4 Z h4.at Z) Z (Q4 (cs':=[.int .i64 x.cap,o2,.int .i64 x.credits,.int .i64 x.back,.int .i64 x.sent,.int .i64 x.got]) X4 Z Z Z (Qj Z (Qj hw1.one (Qj Z (Qj Z (Qj Z (Qj Z Z)))))) h3 (Nat.le_of_ble_eq_true Z) Z (fun w10 m2 h3'=>?_))))
  replace h3:=h3'
  replace E:=E.step m2 (fun g hg=>by cases hg;omega);replace h1:=h1.mod m2 (fun g hg=>by cases hg;omega);replace h2:=h2.mod m2 (fun g hg=>by cases hg;omega);replace hw1:=hw1.mod m2 (fun g hg=>by cases hg;omega);replace h4:=h4.mod m2 (fun g hg=>by cases hg;omega)
  have z10:=m2.size
  refine Qa (Qf Z) Z (Qc (Qv (Vk (l:=[.cell 4 68,.tmp 5]) (vs:=[.agg [.int .i64 x.cap,o2,.int .i64 x.credits,.int .i64 x.back,.int .i64 x.sent,.int .i64 x.got].toArray,.bool false]) Z ⟨.cell Z (Yd X4 h3.at Z),.tmp Z,trivial⟩ Z E ?_)))
  rw [send_no hc1]
  exact ⟨_,Z,(Link.mkO x sp1 (Own.widen hw1 (by omega) (by omega)))⟩
 ·refine Qo (Qe (Qh [true,true,true,false,false,true,false] Z Z (Qa (Qb Kv Z) Z (Qa (Qk Xq Z (h4.one 1 Z)) Z (Qa (Qy Ul Z h2.at Z) Z (Y7 (vs:=[.agg (Enc.enc r).toArray]) (css:=[[.int .i64 r.op,.int .i64 r.stamp.epoch,.int .i64 r.stamp.turn,.int .i64 r.key,.int .i64 r.val]]) Kn Z Z ⟨⟨Z,Z⟩,trivial⟩ Z Z (fun b5 w11 e8 s5 h5=>?_)))))))
  replace h5 : Blk w11 b5 [.int .i64 r.op,.int .i64 r.stamp.epoch,.int .i64 r.stamp.turn,.int .i64 r.key,.int .i64 r.val]:=h5
  have g_b5 : w.heap.size ≤ b5:=by have:=E.size;omega
  have y_b5:=h5.lt
  replace E:=E.trans e8;replace h1:=h1.ext e8;replace h2:=h2.ext e8;replace h3:=h3.ext e8;replace hw1:=hw1.ext e8;replace h4:=h4.ext e8
  have z11:=e8.size
  refine Hx Kn Z Z hw1 (Src.ofBlk h5 Z) Z (by simp only [List.length_append,Yz,List.length_nil,List.length_cons,List.length_drop];simp only [Enc.sz];omega) (by decide) (by omega) (by omega) Z Z (fun v1 w12 m3 ho2 hb1=>?_)
  have hn1 : ∀ g,Value.ownBlock v1 = some g → g < w4.heap.size ∨ w11.heap.size ≤ g:=fun g hg=>(hb1 g hg).elim (fun h=>.inl (by have:=Own.blk hw1 g h;omega)) (fun h=>.inr h)
  have sq1:=sp1
  replace sp1:=SepL.set hb1 0 rfl sp1 ⟨(Own.lt hw1),trivial⟩
  replace sp1 : SepL [v1]:=sp1
  replace E:=E.step m3 (fun g hg=>by have:=Own.blk hw1 g hg;omega);replace h1:=h1.mod m3 (fun g hg=>by have:=Own.blk hw1 g hg;omega);replace h2:=h2.mod m3 (fun g hg=>by have:=Own.blk hw1 g hg;omega);replace h3:=h3.mod m3 (fun g hg=>by have:=Own.blk hw1 g hg;omega);replace h4:=h4.mod m3 (fun g hg=>by have:=Own.blk hw1 g hg;omega)
  have z12:=m3.size
  replace ho2 : Own w12 w3.heap.size w12.heap.size 5 v1 (List.flatMap (Enc.enc (α:=Record)) (x.queue ++ [r])):=by rw [List.flatMap_append];exact ho2
  refine Qa (Qb Kv Z) Z (Yj (cs':=[.int .i64 x.cap,v1,.int .i64 x.credits,.int .i64 x.back,.int .i64 x.sent,.int .i64 x.got]) Xq Z Z ho2.one h4 (Nat.le_of_ble_eq_true Z) Z (fun w13 m4 h4'=>?_))
  replace h4:=h4'
  replace E:=E.step m4 (fun g hg=>by cases hg;omega);replace h1:=h1.mod m4 (fun g hg=>by cases hg;omega);replace h2:=h2.mod m4 (fun g hg=>by cases hg;omega);replace h3:=h3.mod m4 (fun g hg=>by cases hg;omega);replace ho2:=Own.modN ho2 m4 (fun g hg hv=>by have hN:=hn1 g hv;have hB:=Own.blk ho2 g hv;cases hg;omega)
  have z13:=m4.size
  refine Qc (Qe (Qh [true,true,true,true,false] Z Z (Qa (Qb Vn Z) Z (Qa (Qk Yt Z (h4.one 2 Z)) Z (Qa (K6 Z Z Z) Z (Qa (Qb Vn Z) Z (Yj (cs':=[.int .i64 x.cap,v1,.int .i64 (IntKind.i64.wrap (x.credits - 1)),.int .i64 x.back,.int .i64 x.sent,.int .i64 x.got]) Yt Z Z Z h4 (Nat.le_of_ble_eq_true Z) Z (fun w14 m5 h4'=>?_))))))))
  replace h4:=h4'
  replace E:=E.step m5 (fun g hg=>by cases hg;omega);replace h1:=h1.mod m5 (fun g hg=>by cases hg;omega);replace h2:=h2.mod m5 (fun g hg=>by cases hg;omega);replace h3:=h3.mod m5 (fun g hg=>by cases hg;omega);replace ho2:=Own.modN ho2 m5 (fun g hg hv=>by have hN:=hn1 g hv;have hB:=Own.blk ho2 g hv;cases hg;omega)
  have z14:=m5.size
  refine Qc (Qe (Qh [true,true,true,true,false] Z Z (Qa (Qb Vm Z) Z (Qa (Qk Yt Z (h4.one 4 Z)) Z (Qa (Ye Z Z Z) Z (Qa (Qb Vm Z) Z (Yj (cs':=[.int .i64 x.cap,v1,.int .i64 (IntKind.i64.wrap (x.credits - 1)),.int .i64 x.back,.int .i64 (IntKind.i64.wrap (x.sent + 1)),.int .i64 x.got]) Yt Z Z Z h4 (Nat.le_of_ble_eq_true Z) Z (fun w15 m6 h4'=>?_))))))))
  replace h4:=h4'
  replace E:=E.step m6 (fun g hg=>by cases hg;omega);replace h1:=h1.mod m6 (fun g hg=>by cases hg;omega);replace h2:=h2.mod m6 (fun g hg=>by cases hg;omega);replace h3:=h3.mod m6 (fun g hg=>by cases hg;omega);replace ho2:=Own.modN ho2 m6 (fun g hg hv=>by have hN:=hn1 g hv;have hB:=Own.blk ho2 g hv;cases hg;omega)
  have z15:=m6.size
  refine Qc (Qe (Qh [true,false,true] Z Z (Qa (Qy X4 Z h4.at Z) Z (Q4 (cs':=[.int .i64 x.cap,v1,.int .i64 (IntKind.i64.wrap (x.credits - 1)),.int .i64 x.back,.int .i64 (IntKind.i64.wrap (x.sent + 1)),.int .i64 x.got]) X4 Z Z Z (Qj Z (Qj ho2.one (Qj Z (Qj Z (Qj Z (Qj Z Z)))))) h3 (Nat.le_of_ble_eq_true Z) Z (fun w16 m7 h3'=>?_)))))
  replace h3:=h3'
  replace E:=E.step m7 (fun g hg=>by cases hg;omega);replace h1:=h1.mod m7 (fun g hg=>by cases hg;omega);replace h2:=h2.mod m7 (fun g hg=>by cases hg;omega);replace h4:=h4.mod m7 (fun g hg=>by cases hg;omega);replace ho2:=Own.modN ho2 m7 (fun g hg hv=>by have hN:=hn1 g hv;have hB:=Own.blk ho2 g hv;cases hg;omega)
  have z16:=m7.size
  refine Qa (Qf Z) Z (Qc (Qv (Vk (l:=[.cell 4 68,.tmp 5]) (vs:=[.agg [.int .i64 x.cap,v1,.int .i64 (IntKind.i64.wrap (x.credits - 1)),.int .i64 x.back,.int .i64 (IntKind.i64.wrap (x.sent + 1)),.int .i64 x.got].toArray,.bool true]) Z ⟨.cell Z (Yd X4 h3.at Z),.tmp Z,trivial⟩ Z E ?_)))
  rw [send_yes hc1]
  exact ⟨_,Z,(Link.mkO (⟨x.cap,x.queue ++ [r],IntKind.i64.wrap (x.credits - 1),x.back,IntKind.i64.wrap (x.sent + 1),x.got⟩ : Link) sp1 (Own.widen ho2 (by omega) (by omega)))⟩

set_option maxRecDepth 20000 in
theorem c_copyGraph (cx : List Value) (x : Graph) (w : World) (hx : Dat.R w 0 w.heap.size cx x) (hb : Xe x ≤ 1048576) : Ct Tryz.prog 66 [.agg cx.toArray] w (fun v w'=>∃ o,v = .agg [o,.int .i64 x.workers,.int .i64 x.cap].toArray ∧ OwS w' w.heap.size w'.heap.size o x.nodes):=by
 have hb2:=hb
 unfold Xe X0 at hb2
 refine Ym Tryz.func66 Z Tryz.ntmps66 Z ?_
 obtain ⟨o1,rfl,hd1⟩:=Graph.op hx
 refine Q8 [(0,.agg [o1,.int .i64 x.workers,.int .i64 x.cap].toArray)] ⟨Z,trivial⟩ ?_
 have E : Ext w w:=Ext.refl w
 refine Qe (Qh [false,false] Z Z (Y1 Z Z (fun b1 w1 e1 s1 h1=>?_)))
 have g_b1 : w.heap.size ≤ b1:=by have:=E.size;omega
 have y_b1:=h1.lt
 replace E:=E.trans e1
 have z1:=e1.size
 refine Yo Uq Z (fun b2 w2 e2 s2 h2=>?_)
 have g_b2 : w.heap.size ≤ b2:=by have:=E.size;omega
 have y_b2:=h2.lt
 replace E:=E.trans e2;replace h1:=h1.ext e2
 have z2:=e2.size
 refine Qc (Qe (Qh [true,true,true,true,true,false,false] Z Z (Qa (Qb Vf Z) Z (Qa (Qk Yt Z (h1.one 1 Z)) Z (Qa (Qb T8 Z) Z (Qa (Qk Yt Z (h1.one 2 Z)) Z ?_))))))
 have hbl1 : ∀ w,(Instr.build 34 ([(1,.int .i64 x.workers),(2,.int .i64 x.cap)]).toArray).run Tryz.prog w = .ok (.agg [.slice none 0 0,.int .i64 x.workers,.int .i64 x.cap].toArray) w:=by clear E;intro w;kernel_rfl
 refine Qa (G9 [.slice none 0 0,.int .i64 x.workers,.int .i64 x.cap] Z hbl1) Z (Yo Uq Z (fun b3 w3 e3 s3 h3=>?_))
 have g_b3 : w.heap.size ≤ b3:=by have:=E.size;omega
 have y_b3:=h3.lt
 replace E:=E.trans e3;replace h1:=h1.ext e3;replace h2:=h2.ext e3
 have z3:=e3.size
 refine Q4 (cs':=[.slice none 0 0,.int .i64 x.workers,.int .i64 x.cap]) Uq Z Z Z Z h3 (Nat.le_of_ble_eq_true Z) Z (fun w4 m1 h3'=>?_)
 replace h3:=h3'
 replace E:=E.step m1 (fun g hg=>by cases hg;omega);replace h1:=h1.mod m1 (fun g hg=>by cases hg;omega);replace h2:=h2.mod m1 (fun g hg=>by cases hg;omega)
 have z4:=m1.size
 refine Qc (Qe (Qe (Qh [true,true,true,true] Z Z (Qa (Qb Kw Z) Z (Qa (Qk Gn Z (h1.one 0 Z)) Z (Qa (Yc Tryz.underlying32 Z (hd1.ext E).len) Z (Qa (Qd Z) Z (Qc (Q0 (Yp (fun (xq : Nat × Value)=>let ⟨k0,vo0⟩:=xq;[(2,.pointer (some ⟨b2,0,none⟩)),(3,.pointer (some ⟨b3,0,none⟩)),(12,o1),(13,.int .i64 ((x.nodes.length : Nat) : Int)),(14,.int .i64 ((k0 : Nat) : Int))]) (fun (xq : Nat × Value) w'=>let ⟨k0,vo0⟩:=xq;Ext w w' ∧ w4.heap.size ≤ w'.heap.size ∧ Blk w' b1 ([o1,.int .i64 x.workers,.int .i64 x.cap]) ∧ Blk w' b2 [.slice none 0 0,.int .i64 0,.int .i64 0] ∧ k0 ≤ x.nodes.length ∧ OwS w' w4.heap.size w'.heap.size vo0 (x.nodes.take k0) ∧ Blk w' b3 [vo0,.int .i64 x.workers,.int .i64 x.cap]) (fun (xq : Nat × Value)=>let ⟨k0,vo0⟩:=xq;x.nodes.length - k0) (0,.slice none 0 0) ⟨Z,Z,Z,Z,Z,trivial⟩ ⟨E,Nat.le_refl _,h1,h2,Nat.zero_le _,(OwS.nil _ _ _),h3⟩ ?_))))))))))
 clear E h1 h2 h3
 rintro ⟨k0,vo0⟩ w5 ⟨E,z5,h1,h2,hk0,hoC0,h3⟩
 refine Q8 [(2,.pointer (some ⟨b2,0,none⟩)),(3,.pointer (some ⟨b3,0,none⟩)),(12,o1),(13,.int .i64 ((x.nodes.length : Nat) : Int)),(14,.int .i64 ((k0 : Nat) : Int))] ⟨Z,Z,Z,Z,Z,trivial⟩ ?_
 refine Qe (Qh [true] Z Z (Qa (Yi Z Z) Z (Qc (Qe (Qt Z (fun hc1=>?_) (fun hc1=>?_))))))
 ·have hc1n : k0 < x.nodes.length:=by first | (have h:=of_decide_eq_true hc1;omega) | (have h:=hc1;simp at h;omega)
  refine Qo (Qe (Q0 (Qe (Qh [true,true,false,false] Z Z ?_))))
  have hi1 : k0 < x.nodes.length:=(by first | assumption | omega | (simp only [List.length_set];first | assumption | omega) | (simp only [List.getElem_set_self,List.length_set];first | assumption | omega) | (simp only [Yn,Yh,List.length_set];first | assumption | omega))
  obtain ⟨_,hr1,ha1⟩:=RdD.get hd1 hi1
  obtain ⟨o2,rfl,hd2⟩:=Node.op hr1
  replace ha1 : At w (Y6 o1) (Y8 o1 + k0 * 4) [.int .i64 ((x.nodes[k0]'hi1).kind),.int .i64 ((x.nodes[k0]'hi1).a),.int .i64 ((x.nodes[k0]'hi1).b),o2]:=ha1
  refine Qa (Qz (i:=k0) G0 Z Z (hd1.ext E).1 hi1) Z (Qa (Qy Uf Z (ha1.ext E) Z) Z (Yo Uf Z (fun b4 w6 e4 s4 h4=>?_)))
  have g_b4 : w.heap.size ≤ b4:=by have:=E.size;omega
  have y_b4:=h4.lt
  replace E:=E.trans e4;replace h1:=h1.ext e4;replace h2:=h2.ext e4;replace hoC0:=hoC0.ext e4;replace h3:=h3.ext e4
  have z6:=e4.size
  refine Q4 (cs':=[.int .i64 ((x.nodes[k0]'hi1).kind),.int .i64 ((x.nodes[k0]'hi1).a),.int .i64 ((x.nodes[k0]'hi1).b),o2]) Uf Z Z Z (Qj Z (Qj Z (Qj Z (Qj (RdD.one (hd2.ext E)) Z)))) h4 (Nat.le_of_ble_eq_true Z) Z (fun w7 m2 h4'=>?_)
  replace h4:=h4'
  replace E:=E.step m2 (fun g hg=>by cases hg;omega);replace h1:=h1.mod m2 (fun g hg=>by cases hg;omega);replace h2:=h2.mod m2 (fun g hg=>by cases hg;omega);replace hoC0:=hoC0.mod m2 (fun g hg=>by cases hg;omega);replace h3:=h3.mod m2 (fun g hg=>by cases hg;omega)
  have z7:=m2.size
  refine Qc (C7 Xs [5] [(0,true),(1,true),(2,true),(3,false),(4,false)] [(5,false),(6,true),(7,false)] (by decide +kernel) Z Z (fun w8 e5=>?_))
  replace E:=E.trans e5;replace h1:=h1.ext e5;replace h2:=h2.ext e5;replace hoC0:=hoC0.ext e5;replace h3:=h3.ext e5;replace h4:=h4.ext e5
  have z8:=e5.size
  refine Qa (Qb Kw Z) Z (Qa (Qk Gn Z (h3.one 0 Z)) Z (Qa (Qy Uf Z h4.at Z) Z (Qw Tryz.call113 Z (c_copyNode [.int .i64 ((x.nodes[k0]'hi1).kind),.int .i64 ((x.nodes[k0]'hi1).a),.int .i64 ((x.nodes[k0]'hi1).b),o2] (x.nodes[k0]'hi1) _ (Node.mkR (x.nodes[k0]'hi1) (RdD.any (hd2.ext E))) (outs_le hb (List.getElem_mem _))) Z (fun _ w9 e6 ho1=>?_))))
  obtain ⟨_,rfl,ho1⟩:=ho1
  have g_ho1 : w.heap.size ≤ w8.heap.size:=E.size
  replace E:=E.trans e6;replace h1:=h1.ext e6;replace h2:=h2.ext e6;replace hoC0:=hoC0.ext e6;replace h3:=h3.ext e6;replace h4:=h4.ext e6
  have z9:=e6.size
  obtain ⟨o3,rfl,sp1,hw1⟩:=Node.opO ho1
  refine Y7 (vs:=[.agg [.int .i64 ((x.nodes[k0]'hi1).kind),.int .i64 ((x.nodes[k0]'hi1).a),.int .i64 ((x.nodes[k0]'hi1).b),o3].toArray]) (css:=[[.int .i64 ((x.nodes[k0]'hi1).kind),.int .i64 ((x.nodes[k0]'hi1).a),.int .i64 ((x.nodes[k0]'hi1).b),o3]]) G0 Z Z ⟨⟨Z,Z⟩,trivial⟩ Z Z (fun b5 w10 e7 s5 h5=>?_)
  replace h5 : Blk w10 b5 [.int .i64 ((x.nodes[k0]'hi1).kind),.int .i64 ((x.nodes[k0]'hi1).a),.int .i64 ((x.nodes[k0]'hi1).b),o3]:=h5
  have g_b5 : w.heap.size ≤ b5:=by have:=E.size;omega
  have y_b5:=h5.lt
  replace E:=E.trans e7;replace h1:=h1.ext e7;replace h2:=h2.ext e7;replace hoC0:=hoC0.ext e7;replace h3:=h3.ext e7;replace h4:=h4.ext e7;replace hw1:=hw1.ext e7
  have z10:=e7.size
  refine To ?_
  refine J2_X Z ?_
  refine Vt (lo:=w4.heap.size) (hi:=w5.heap.size) (lo2:=w8.heap.size) (hi2:=w10.heap.size) G0 Z Z hoC0 (Src.ofBlk h5 Z) (Node.mkO (x.nodes[k0]'hi1) sp1 (Own.widen hw1 (by omega) (by omega))) (by omega) (by simp only [List.length_take,show Dat.sz Node = 4 from Z];omega) (by decide) (by omega) (by omega) (by omega) (by omega) (by omega) Z Z (fun v1 w11 m3 ho2=>?_)
  have hqb:=OwS.inn hoC0
  replace E:=E.step m3 (fun g hg=>by have:=hqb g hg;omega);replace h1:=h1.mod m3 (fun g hg=>by have:=hqb g hg;omega);replace h2:=h2.mod m3 (fun g hg=>by have:=hqb g hg;omega);replace h3:=h3.mod m3 (fun g hg=>by have:=hqb g hg;omega);replace h4:=h4.mod m3 (fun g hg=>by have:=hqb g hg;omega)
  have z11:=m3.size
  clear hqb
  refine B9 ?_
  refine Qa (Qb Kw Z) Z (Yj (cs':=[v1,.int .i64 x.workers,.int .i64 x.cap]) Gn Z Z (RdD.one (OwS.rd ho2)) h3 (Nat.le_of_ble_eq_true Z) Z (fun w12 m4 h3'=>?_))
  replace h3:=h3'
  replace E:=E.step m4 (fun g hg=>by cases hg;omega);replace h1:=h1.mod m4 (fun g hg=>by cases hg;omega);replace h2:=h2.mod m4 (fun g hg=>by cases hg;omega);replace h4:=h4.mod m4 (fun g hg=>by cases hg;omega);replace ho2:=ho2.mod m4 (fun g hg=>by cases hg;omega)
  have z12:=m4.size
  refine Qc (Q6 (Y0 (Qh [true,true] Z Z (Qa (Ye Z Z (Y3 hc1n (hd1.ext E).1.1)) Z (Qa (Qd Z) Z (Qc (Q6 (Yk (k0 + 1,v1) (by simp;omega) ⟨Z,Z,Z,Z,Z,trivial⟩ ⟨E,(by omega),h1,h2,(by omega),(by rw [List.take_succ_eq_append_getElem (by assumption)];exact OwS.widen ho2 (by omega) (by omega)),h3⟩))))))))
 ·have hc1n : ¬ k0 < x.nodes.length:=by first | (have h:=of_decide_eq_false hc1;omega) | (have h:=hc1;simp at h;omega)
  refine Yq (Q5 (Q3 ?_))
  refine Qe (Qh [true,false] Z Z (Qa (Qy Uq Z h3.at Z) Z (Q4 (cs':=[vo0,.int .i64 x.workers,.int .i64 x.cap]) Uq Z Z Z (Qj (RdD.one (OwS.rd hoC0)) (Qj Z (Qj Z Z))) h2 (Nat.le_of_ble_eq_true Z) Z (fun w13 m5 h2'=>?_))))
  replace h2:=h2'
  replace E:=E.step m5 (fun g hg=>by cases hg;omega);replace h1:=h1.mod m5 (fun g hg=>by cases hg;omega);replace hoC0:=hoC0.mod m5 (fun g hg=>by cases hg;omega);replace h3:=h3.mod m5 (fun g hg=>by cases hg;omega)
  have z13:=m5.size
  refine Qc (Qv (X3 Z Z (Yd Uq h2.at Z) E ?_))
  rw [List.take_of_length_le (by omega)] at hoC0
  exact ⟨_,Z,OwS.widen hoC0 (by have:=E.size;omega) (by omega)⟩

set_option maxHeartbeats 4000000 in
set_option maxRecDepth 20000 in
theorem s_l08Copy (cx : List Value) (x : Graph) (w : World) (hx : Dat.R w 0 w.heap.size cx x) (hb : Xe x ≤ 1048576) : Ct Tryz.prog 99 [.agg cx.toArray] w (fun v w'=>∃ o,v = .agg [o,.int .i64 x.workers,.int .i64 x.cap].toArray ∧ OwS w' w.heap.size w'.heap.size o x.nodes):=by
 have hb2:=hb
 unfold Xe X0 at hb2
 refine Ym Tryz.func99 Z Tryz.ntmps99 Z ?_
 obtain ⟨o1,rfl,hd1⟩:=Graph.op hx
 refine Q8 [(0,.agg [o1,.int .i64 x.workers,.int .i64 x.cap].toArray)] ⟨Z,trivial⟩ ?_
 have E : Ext w w:=Ext.refl w
 refine Qe (Qh [false,false] Z Z (Y1 Z Z (fun b1 w1 e1 s1 h1=>?_)))
 have g_b1 : w.heap.size ≤ b1:=by have:=E.size;omega
 have y_b1:=h1.lt
 replace E:=E.trans e1
 have z1:=e1.size
 refine Yo Uq Z (fun b2 w2 e2 s2 h2=>?_)
 have g_b2 : w.heap.size ≤ b2:=by have:=E.size;omega
 have y_b2:=h2.lt
 replace E:=E.trans e2;replace h1:=h1.ext e2
 have z2:=e2.size
 refine Qc (Qe (Qh [true,false,false] Z Z (Qa (Qy Uq Z h1.at Z) Z (Yo Uq Z (fun b3 w3 e3 s3 h3=>?_)))))
 have g_b3 : w.heap.size ≤ b3:=by have:=E.size;omega
 have y_b3:=h3.lt
 replace E:=E.trans e3;replace h1:=h1.ext e3;replace h2:=h2.ext e3
 have z3:=e3.size
 refine Q4 (cs':=[o1,.int .i64 x.workers,.int .i64 x.cap]) Uq Z Z Z (Qj (RdD.one (hd1.ext E)) (Qj Z (Qj Z Z))) h3 (Nat.le_of_ble_eq_true Z) Z (fun w4 m1 h3'=>?_)
 replace h3:=h3'
 replace E:=E.step m1 (fun g hg=>by cases hg;omega);replace h1:=h1.mod m1 (fun g hg=>by cases hg;omega);replace h2:=h2.mod m1 (fun g hg=>by cases hg;omega)
 have z4:=m1.size
 refine Qc (Qe (Qh [false,true,false] Z Z (Y7 (vs:=[]) (css:=[]) G0 Z Z trivial Z Z (fun b4 w5 e4 s4 h4=>?_))))
 replace h4 : Blk w5 b4 []:=h4
 have g_b4 : w.heap.size ≤ b4:=by have:=E.size;omega
 have y_b4:=h4.lt
 replace E:=E.trans e4;replace h1:=h1.ext e4;replace h2:=h2.ext e4;replace h3:=h3.ext e4
 have z5:=e4.size
 refine Qa (Qb Kw Z) Z (Yj (cs':=[.slice (some ⟨b4,0,none⟩) 0 0,.int .i64 x.workers,.int .i64 x.cap]) Gn Z Z Z h3 (Nat.le_of_ble_eq_true Z) Z (fun w6 m2 h3'=>?_))
 replace h3:=h3'
 replace E:=E.step m2 (fun g hg=>by cases hg;omega);replace h1:=h1.mod m2 (fun g hg=>by cases hg;omega);replace h2:=h2.mod m2 (fun g hg=>by cases hg;omega);replace h4:=h4.mod m2 (fun g hg=>by cases hg;omega)
 have z6:=m2.size
 refine Qc (Qe (Qe (Qh [true] Z Z (Qa (Qf Z) Z (Qc (Q0 (Yp (fun (xq : Nat × Value)=>let ⟨k0,vo0⟩:=xq;[(1,.pointer (some ⟨b1,0,none⟩)),(2,.pointer (some ⟨b2,0,none⟩)),(3,.pointer (some ⟨b3,0,none⟩)),(4,.int .i64 ((k0 : Nat) : Int)),(8,.pointer (some ⟨b3,0,none⟩))]) (fun (xq : Nat × Value) w'=>let ⟨k0,vo0⟩:=xq;Ext w w' ∧ w6.heap.size ≤ w'.heap.size ∧ Blk w' b1 ([o1,.int .i64 x.workers,.int .i64 x.cap]) ∧ Blk w' b2 [.slice none 0 0,.int .i64 0,.int .i64 0] ∧ k0 ≤ x.nodes.length ∧ OwS w' b4 w'.heap.size vo0 (x.nodes.take k0) ∧ Blk w' b3 [vo0,.int .i64 x.workers,.int .i64 x.cap]) (fun (xq : Nat × Value)=>let ⟨k0,vo0⟩:=xq;x.nodes.length - k0) (0,.slice (some ⟨b4,0,none⟩) 0 0) ⟨Z,Z,Z,Z,Z,trivial⟩ ⟨E,Nat.le_refl _,h1,h2,Nat.zero_le _,(OwS.lit h4 (by omega)),h3⟩ ?_)))))))
 clear E h1 h2 h3 h4
 rintro ⟨k0,vo0⟩ w7 ⟨E,z7,h1,h2,hk0,hoC0,h3⟩
 refine Q8 [(1,.pointer (some ⟨b1,0,none⟩)),(2,.pointer (some ⟨b2,0,none⟩)),(3,.pointer (some ⟨b3,0,none⟩)),(4,.int .i64 ((k0 : Nat) : Int)),(8,.pointer (some ⟨b3,0,none⟩))] ⟨Z,Z,Z,Z,Z,trivial⟩ ?_
 refine Qe (Qe (Qh [true,true,true,true,true] Z Z (Qa (Qd Z) Z (Qa (Qb Kw Z) Z (Qa (Qk Gn Z (h1.one 0 Z)) Z (Qa (Yc Tryz.underlying32 Z (hd1.ext E).len) Z (Qa (Yi Z Z) Z (Qc (Qt Z (fun hc1=>?_) (fun hc1=>?_))))))))))
 ·have hc1n : k0 < x.nodes.length:=by first | (have h:=of_decide_eq_true hc1;omega) | (have h:=hc1;simp at h;omega)
  refine Qo (Qe (Q0 (Qe (Qh [true,true,true,true,true,false,false] Z Z (Qa (Qb Kw Z) Z (Qa (Qk Gn Z (h1.one 0 Z)) Z (Qa (Qd Z) Z ?_)))))))
  have hi1 : k0 < x.nodes.length:=(by first | assumption | omega | (simp only [List.length_set];first | assumption | omega) | (simp only [List.getElem_set_self,List.length_set];first | assumption | omega) | (simp only [Yn,Yh,List.length_set];first | assumption | omega))
  obtain ⟨_,hr1,ha1⟩:=RdD.get hd1 hi1
  obtain ⟨o2,rfl,hd2⟩:=Node.op hr1
  replace ha1 : At w (Y6 o1) (Y8 o1 + k0 * 4) [.int .i64 ((x.nodes[k0]'hi1).kind),.int .i64 ((x.nodes[k0]'hi1).a),.int .i64 ((x.nodes[k0]'hi1).b),o2]:=ha1
  refine Qa (Qz (i:=k0) G0 Z Z (hd1.ext E).1 hi1) Z (Qa (Qy Uf Z (ha1.ext E) Z) Z (Yo Uf Z (fun b5 w8 e5 s5 h5=>?_)))
  have g_b5 : w.heap.size ≤ b5:=by have:=E.size;omega
  have y_b5:=h5.lt
  replace E:=E.trans e5;replace h1:=h1.ext e5;replace h2:=h2.ext e5;replace hoC0:=hoC0.ext e5;replace h3:=h3.ext e5
  have z8:=e5.size
  refine Q4 (cs':=[.int .i64 ((x.nodes[k0]'hi1).kind),.int .i64 ((x.nodes[k0]'hi1).a),.int .i64 ((x.nodes[k0]'hi1).b),o2]) Uf Z Z Z (Qj Z (Qj Z (Qj Z (Qj (RdD.one (hd2.ext E)) Z)))) h5 (Nat.le_of_ble_eq_true Z) Z (fun w9 m3 h5'=>?_)
  replace h5:=h5'
  replace E:=E.step m3 (fun g hg=>by cases hg;omega);replace h1:=h1.mod m3 (fun g hg=>by cases hg;omega);replace h2:=h2.mod m3 (fun g hg=>by cases hg;omega);replace hoC0:=hoC0.mod m3 (fun g hg=>by cases hg;omega);replace h3:=h3.mod m3 (fun g hg=>by cases hg;omega)
  have z9:=m3.size
  refine Qc (Qe (Qh [false,true,true,false,true,false] Z Z (Y7 (vs:=[]) (css:=[]) Ux Z Z trivial Z Z (fun b6 w10 e6 s6 h6=>?_))))
  replace h6 : Blk w10 b6 []:=h6
  have g_b6 : w.heap.size ≤ b6:=by have:=E.size;omega
  have y_b6:=h6.lt
  replace E:=E.trans e6;replace h1:=h1.ext e6;replace h2:=h2.ext e6;replace hoC0:=hoC0.ext e6;replace h3:=h3.ext e6;replace h5:=h5.ext e6
  have z10:=e6.size
  refine Qa (Qb Xu Z) Z (Qa (Qk K0 Z (h5.one 3 Z)) Z (Cc Ux Z Z (Own.ofBlk (lo:=b6) (hi:=b6 + 1) (sz:=1) h6 (Nat.le_refl _) (Nat.lt_succ_self _) (by simp) (by simp [maxLen])) (RdS.src (hd2.rd.ext E)) (Xp _) (by have h9:=outs_le hb (List.getElem_mem (by assumption));simp only [Yz,List.length_nil];simp only [Enc.sz];omega) (by decide) (by omega) (by omega) Z Z (fun v1 w11 m4 ho1=>?_)))
  replace E:=E.step m4 (fun g hg=>by have:=Own.blk (Own.ofBlk (lo:=b6) (hi:=b6 + 1) (sz:=1) h6 (Nat.le_refl _) (Nat.lt_succ_self _) (by simp) (by simp [maxLen])) g hg;omega);replace h1:=h1.mod m4 (fun g hg=>by have:=Own.blk (Own.ofBlk (lo:=b6) (hi:=b6 + 1) (sz:=1) h6 (Nat.le_refl _) (Nat.lt_succ_self _) (by simp) (by simp [maxLen])) g hg;omega);replace h2:=h2.mod m4 (fun g hg=>by have:=Own.blk (Own.ofBlk (lo:=b6) (hi:=b6 + 1) (sz:=1) h6 (Nat.le_refl _) (Nat.lt_succ_self _) (by simp) (by simp [maxLen])) g hg;omega);replace hoC0:=hoC0.mod m4 (fun g hg=>by have:=Own.blk (Own.ofBlk (lo:=b6) (hi:=b6 + 1) (sz:=1) h6 (Nat.le_refl _) (Nat.lt_succ_self _) (by simp) (by simp [maxLen])) g hg;omega);replace h3:=h3.mod m4 (fun g hg=>by have:=Own.blk (Own.ofBlk (lo:=b6) (hi:=b6 + 1) (sz:=1) h6 (Nat.le_refl _) (Nat.lt_succ_self _) (by simp) (by simp [maxLen])) g hg;omega);replace h5:=h5.mod m4 (fun g hg=>by have:=Own.blk (Own.ofBlk (lo:=b6) (hi:=b6 + 1) (sz:=1) h6 (Nat.le_refl _) (Nat.lt_succ_self _) (by simp) (by simp [maxLen])) g hg;omega)
  have z11:=m4.size
  refine Qa (Qb Xu Z) Z (Yj (cs':=[.int .i64 ((x.nodes[k0]'hi1).kind),.int .i64 ((x.nodes[k0]'hi1).a),.int .i64 ((x.nodes[k0]'hi1).b),v1]) K0 Z Z ho1.one h5 (Nat.le_of_ble_eq_true Z) Z (fun w12 m5 h5'=>?_))
  replace h5:=h5'
  replace E:=E.step m5 (fun g hg=>by cases hg;omega);replace h1:=h1.mod m5 (fun g hg=>by cases hg;omega);replace h2:=h2.mod m5 (fun g hg=>by cases hg;omega);replace hoC0:=hoC0.mod m5 (fun g hg=>by cases hg;omega);replace h3:=h3.mod m5 (fun g hg=>by cases hg;omega);replace ho1:=ho1.mod m5 (fun g hg=>by cases hg;omega)
  have z12:=m5.size
  refine Qc (Qh [true,true,true,false,false,true,false] Z Z (Qa (Qb Kw Z) Z (Qa (Qk Gn Z (h3.one 0 Z)) Z (Qa (Qy Uf Z h5.at Z) Z (Y7 (vs:=[.agg [.int .i64 ((x.nodes[k0]'hi1).kind),.int .i64 ((x.nodes[k0]'hi1).a),.int .i64 ((x.nodes[k0]'hi1).b),v1].toArray]) (css:=[[.int .i64 ((x.nodes[k0]'hi1).kind),.int .i64 ((x.nodes[k0]'hi1).a),.int .i64 ((x.nodes[k0]'hi1).b),v1]]) G0 Z Z ⟨⟨Z,Z⟩,trivial⟩ Z Z (fun b7 w13 e7 s7 h7=>?_))))))
  replace h7 : Blk w13 b7 [.int .i64 ((x.nodes[k0]'hi1).kind),.int .i64 ((x.nodes[k0]'hi1).a),.int .i64 ((x.nodes[k0]'hi1).b),v1]:=h7
  have g_b7 : w.heap.size ≤ b7:=by have:=E.size;omega
  have y_b7:=h7.lt
  replace E:=E.trans e7;replace h1:=h1.ext e7;replace h2:=h2.ext e7;replace hoC0:=hoC0.ext e7;replace h3:=h3.ext e7;replace h5:=h5.ext e7;replace ho1:=ho1.ext e7
  have z13:=e7.size
  refine Vt (lo:=b4) (hi:=w7.heap.size) (lo2:=b6) (hi2:=w13.heap.size) G0 Z Z hoC0 (Src.ofBlk h7 Z) (Node.mkO (⟨(x.nodes[k0]'hi1).kind,(x.nodes[k0]'hi1).a,(x.nodes[k0]'hi1).b,[] ++ ((x.nodes[k0]'hi1).outs)⟩ : Node) ⟨trivial,trivial⟩ (Own.widen ho1 (by omega) (by omega))) (by omega) (by simp only [List.length_take,show Dat.sz Node = 4 from Z];omega) (by decide) (by omega) (by omega) (by omega) (by omega) (by omega) Z Z (fun v2 w14 m6 ho2=>?_)
  have hqb:=OwS.inn hoC0
  replace E:=E.step m6 (fun g hg=>by have:=hqb g hg;omega);replace h1:=h1.mod m6 (fun g hg=>by have:=hqb g hg;omega);replace h2:=h2.mod m6 (fun g hg=>by have:=hqb g hg;omega);replace h3:=h3.mod m6 (fun g hg=>by have:=hqb g hg;omega);replace h5:=h5.mod m6 (fun g hg=>by have:=hqb g hg;omega)
  have z14:=m6.size
  clear hqb
  refine Qa (Qb Kw Z) Z (Yj (cs':=[v2,.int .i64 x.workers,.int .i64 x.cap]) Gn Z Z (RdD.one (OwS.rd ho2)) h3 (Nat.le_of_ble_eq_true Z) Z (fun w15 m7 h3'=>?_))
  replace h3:=h3'
  replace E:=E.step m7 (fun g hg=>by cases hg;omega);replace h1:=h1.mod m7 (fun g hg=>by cases hg;omega);replace h2:=h2.mod m7 (fun g hg=>by cases hg;omega);replace h5:=h5.mod m7 (fun g hg=>by cases hg;omega);replace ho2:=ho2.mod m7 (fun g hg=>by cases hg;omega)
  have z15:=m7.size
  refine Qc (Q6 (Y0 (Qh [true,true,true] Z Z (Qa (Qd Z) Z (Qa (Ye Z Z (Y3 hc1n (hd1.ext E).1.1)) Z (Qa (Qf Z) Z (Qc (Q6 (Yk (k0 + 1,v2) (by simp;omega) ⟨Z,Z,Z,Z,Z,trivial⟩ ⟨E,(by omega),h1,h2,(by omega),(by rw [List.take_succ_eq_append_getElem (by assumption)];exact OwS.widen ho2 (by omega) (by omega)),h3⟩)))))))))
 ·have hc1n : ¬ k0 < x.nodes.length:=by first | (have h:=of_decide_eq_false hc1;omega) | (have h:=hc1;simp at h;omega)
  refine Yq (Q5 (Q3 ?_))
  refine Qe (Qh [true,false] Z Z (Qa (Qy Uq Z h3.at Z) Z (Q4 (cs':=[vo0,.int .i64 x.workers,.int .i64 x.cap]) Uq Z Z Z (Qj (RdD.one (OwS.rd hoC0)) (Qj Z (Qj Z Z))) h2 (Nat.le_of_ble_eq_true Z) Z (fun w16 m8 h2'=>?_))))
  replace h2:=h2'
  replace E:=E.step m8 (fun g hg=>by cases hg;omega);replace h1:=h1.mod m8 (fun g hg=>by cases hg;omega);replace hoC0:=hoC0.mod m8 (fun g hg=>by cases hg;omega);replace h3:=h3.mod m8 (fun g hg=>by cases hg;omega)
  have z16:=m8.size
  refine Qc (Qv (X3 Z Z (Yd Uq h2.at Z) E ?_))
  rw [List.take_of_length_le (by omega)] at hoC0
  exact ⟨_,Z,OwS.widen hoC0 (by have:=E.size;omega) (by omega)⟩

end Go.Proofs.YtjpoipdddpmeiaaGreat
