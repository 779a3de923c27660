/- What the functions that the laws call come to: a contract each; no condition. -/
import Derived.Test.YtjpoipdddpmeiaaGreatFns3
namespace Go.Proofs.YtjpoipdddpmeiaaGreat
open Go Go.Proofs.YtjpoipdddpmeiaaGreat.X Go.Proofs
set_option maxHeartbeats 4000000 in
set_option maxRecDepth 20000 in
theorem c_ClusterOk (cx : List Value) (x : Cluster) (w : World) (hx : Dat.R w 0 w.heap.size cx x) (hok : ∀ l ∈ x.links,rg l.got) : Ct Tryz.prog 69 [.agg cx.toArray] w (fun v _=>v = .bool (Ka x)):=by
 refine Yi Tryz.func69 Z Tryz.ntmps69 Z ?_
 obtain ⟨o1,o2,o3,o4,o5,rfl,hd1,hd2,hd3,hd4,hd5⟩:=Cluster.op hx
 refine Q7 [(0,.agg [o1,.int .i64 x.graph.workers,.int .i64 x.graph.cap,o2,o3,o4,o5].toArray)] ⟨Z,trivial⟩ ?_
 have E : Ext w w:=Ext.refl w
 refine Qe (Qg [false,true] Z Z (Yz Z Z (fun b1 w1 e1 s1 h1=>?_)))
 have g_b1 : w.heap.size ≤ b1:=by have:=E.size;omega
 have y_b1:=h1.lt
 replace E:=E.trans e1
 have z1:=e1.size
 refine Qa (Qf Z) Z (Qc (Qe (Qg [true,true,true,true] Z Z (Qa (Qb Ul Z) Z (Qa (Qb Vn Z) Z (Qa (Qk Yp Z (h1.one 1 Z)) Z (Qa (Qf Z) Z (Qc (Qe (Qe (Qg [true,true,false,true,true,true,true,true,true,true,true,true,true,true,true,true,true,true,true,true,true,true,true,true,true,true] Z Z (Qa (Qb Ul Z) Z (Qa (Qy Uh Z (h1.part 0 [o1,.int .i64 x.graph.workers,.int .i64 x.graph.cap] Z) Z) Z (Qu Tryz.call116 Z (c_GraphOk [o1,.int .i64 x.graph.workers,.int .i64 x.graph.cap] x.graph _ (Graph.mkR x.graph (RdD.any (hd1.ext E)))) Z (fun _ w2 e2 hv=>?_)))))))))))))))
 subst hv
 replace E:=E.trans e2;replace h1:=h1.ext e2
 have z2:=e2.size
 refine Qa (Yt Z) Z (Qa (Qd Z) Z (Xd 21 [(0,.agg [o1,.int .i64 x.graph.workers,.int .i64 x.graph.cap,o2,o3,o4,o5].toArray),(1,.pointer (some ⟨b1,0,none⟩)),(2,.bool false),(3,.int .i64 x.graph.workers),(12,.pointer (some ⟨b1,0,none⟩)),(13,.pointer (some ⟨b1,1,none⟩)),(14,.int .i64 x.graph.workers),(40,.bool ((((!(Y4 x.graph)) || (((x.workers.length : Nat) : Int) != x.graph.workers)) || (((x.links.length : Nat) : Int) != (IntKind.i64.wrap (x.graph.workers * x.graph.workers)))) || (((x.tokens.length : Nat) : Int) != 4)))] (fun w'=>w2 = w') ?_ ?_))
 ·refine Y1 (gd:=19) Z Z (fun hg1=>?_) (fun hg1=>?_)
  ·refine Qh Z Z Z Z (Qh Z Z Z Z (Qh Z Z Z Z (Qh Z Z Z Z (Qh Z Z Z Z (Qa (Qx Z Z) Z (Qa (Qd Z) Z (Qh Z Z Z Z (Qh Z Z Z Z (Qh Z Z Z Z (Qh Z Z Z Z (Qh Z Z Z Z (Qh Z Z Z Z (Qh Z Z Z Z (Qa (Qx Z Z) Z (Qa (Qd Z) Z (Qh Z Z Z Z (Qh Z Z Z Z (Qh Z Z Z Z (Qh Z Z Z Z (Qa (Qx Z Z) Z (Qq ⟨Z,Z,Z,Z,Z,Z,Z,congrArg (fun b=>some (Value.bool b)) (show true = ((((!(Y4 x.graph)) || (((x.workers.length : Nat) : Int) != x.graph.workers)) || (((x.links.length : Nat) : Int) != (IntKind.i64.wrap (x.graph.workers * x.graph.workers)))) || (((x.tokens.length : Nat) : Int) != 4)) by first | (rw [hg1] <;> rfl) | (simp [hg1];done) | (simp only [Qp] <;> simp)),trivial⟩ Z)))))))))))))))))))))
  ·refine Qn Z Z (Qb X3 Z) Z (Qn Z Z (Qk Vr Z (h1.one 3 Z)) Z (Qn Z Z (Yb Tryz.underlying35 Z (hd2.ext E).len) Z (Qn Z Z (Qd Z) Z (Qn Z Z (Yo Z Z) Z (Qa (Q1 Z Z) Z (Qa (Qd Z) Z ?_))))))
   refine Y1 (gd:=26) Z Z (fun hg2=>?_) (fun hg2=>?_)
   ·refine Qh Z Z Z Z (Qh Z Z Z Z (Qh Z Z Z Z (Qh Z Z Z Z (Qh Z Z Z Z (Qh Z Z Z Z (Qh Z Z Z Z (Qa (Qx Z Z) Z (Qa (Qd Z) Z (Qh Z Z Z Z (Qh Z Z Z Z (Qh Z Z Z Z (Qh Z Z Z Z (Qa (Qx Z Z) Z (Qq ⟨Z,Z,Z,Z,Z,Z,Z,congrArg (fun b=>some (Value.bool b)) (show true = ((((!(Y4 x.graph)) || (((x.workers.length : Nat) : Int) != x.graph.workers)) || (((x.links.length : Nat) : Int) != (IntKind.i64.wrap (x.graph.workers * x.graph.workers)))) || (((x.tokens.length : Nat) : Int) != 4)) by first | (rw [hg1,hg2] <;> rfl) | (simp [hg1,hg2];done) | (simp only [Qp] <;> simp)),trivial⟩ Z))))))))))))))
   ·refine Qn Z Z (Qb Ki Z) Z (Qn Z Z (Qk V7 Z (h1.one 4 Z)) Z (Qn Z Z (Yb Tryz.underlying36 Z (hd3.ext E).len) Z (Qn Z Z (Qd Z) Z (Qn Z Z (Qd Z) Z (Qn Z Z (R_mul Z Z Z) Z (Qn Z Z (Yo Z Z) Z (Qa (Q1 Z Z) Z (Qa (Qd Z) Z ?_))))))))
    refine Y1 (gd:=35) Z Z (fun hg3=>?_) (fun hg3=>?_)
    ·refine Qh Z Z Z Z (Qh Z Z Z Z (Qh Z Z Z Z (Qh Z Z Z Z (Qa (Qx Z Z) Z (Qq ⟨Z,Z,Z,Z,Z,Z,Z,congrArg (fun b=>some (Value.bool b)) (show true = ((((!(Y4 x.graph)) || (((x.workers.length : Nat) : Int) != x.graph.workers)) || (((x.links.length : Nat) : Int) != (IntKind.i64.wrap (x.graph.workers * x.graph.workers)))) || (((x.tokens.length : Nat) : Int) != 4)) by first | (rw [hg1,hg2,hg3] <;> rfl) | (simp [hg1,hg2,hg3];done) | (simp only [Qp] <;> simp)),trivial⟩ Z)))))
    ·refine Qn Z Z (Qb U5 Z) Z (Qn Z Z (Qk Cg Z (h1.one 5 Z)) Z (Qn Z Z (Yb Tryz.underlying37 Z (hd4.ext E).len) Z (Qn Z Z (Yo Z Z) Z (Qa (Q1 Z Z) Z (Qq ⟨Z,Z,Z,Z,Z,Z,Z,congrArg (fun b=>some (Value.bool b)) (show (((x.tokens.length : Nat) : Int) != 4) = ((((!(Y4 x.graph)) || (((x.workers.length : Nat) : Int) != x.graph.workers)) || (((x.links.length : Nat) : Int) != (IntKind.i64.wrap (x.graph.workers * x.graph.workers)))) || (((x.tokens.length : Nat) : Int) != 4)) by first | (rw [hg1,hg2,hg3] <;> rfl) | (simp [hg1,hg2,hg3];done) | (simp only [Qp] <;> simp)),trivial⟩ Z)))))
 rintro _ rfl
 refine Qc (Qr Z (fun hc1=>?_) (fun hc1=>?_))
 ·refine Qe (Qg [true] Z Z (Qa (Qf Z) Z (Qc (Qt (Ql Z Z E ?_)))))
  exact cl_0 hc1
 ·have hgw:=cl_g hc1
  have hlw:=cl_w hc1
  refine Qm (Qe (Qe (Qg [true,true,true,true] Z Z (Qa (Qb X3 Z) Z (Qa (Qk Vr Z (h1.one 3 Z)) Z (Qa (Yb Tryz.underlying35 Z (hd2.ext E).len) Z (Qa (Qd Z) Z (Qc (Qw (Yk (fun (k : Nat)=>[(1,.pointer (some ⟨b1,0,none⟩)),(2,.bool false),(3,.int .i64 x.graph.workers),(42,o2),(43,.int .i64 ((x.workers.length : Nat) : Int)),(44,.int .i64 ((k : Nat) : Int))]) (fun (k : Nat) w'=>Ext w w' ∧ w2.heap.size ≤ w'.heap.size ∧ Blk w' b1 ([o1,.int .i64 x.graph.workers,.int .i64 x.graph.cap,o2,o3,o4,o5]) ∧ k ≤ x.workers.length ∧ (x.workers.take k).all (Xa x.graph) = true) (fun (k : Nat)=>x.workers.length - k) 0 ⟨Z,Z,Z,Z,Z,Z,trivial⟩ ⟨E,Nat.le_refl _,h1,Nat.zero_le _,Z⟩ ?_))))))))))
  clear E h1
  rintro k w4 ⟨E,z3,h1,hk,hI1⟩
  have hmw:=hd2.1.1
  unfold maxLen at hmw
  refine Qe (Qg [true] Z Z (Qa (Yf Z Z) Z (Qc (Qe (Qr Z (fun hc2=>?_) (fun hc2=>?_))))))
  ·have hc2n : k < x.workers.length:=by first | (have h:=of_decide_eq_true hc2;omega) | (have h:=hc2;simp at h;omega)
   refine Qm (Qe (Qw (Qe (Qg [true,true,false,false] Z Z ?_))))
   have hi1 : k < x.workers.length:=(by first | assumption | omega | (simp only [List.length_set];first | assumption | omega) | (simp only [List.getElem_set_self,List.length_set];first | assumption | omega))
   obtain ⟨_,hr1,ha1⟩:=RdD.get hd2 hi1
   obtain ⟨o6,o7,o8,o9,o10,o11,o12,o13,rfl,hd6,hd7,hd8,hd9,hd10,hd11,hd12,hd13⟩:=Worker.op hr1
   replace ha1 : At w (Y2 o2) (Y9 o2 + k * 8) [o6,o7,o8,o9,o10,o11,o12,o13]:=ha1
   refine Qa (Qv (i:=k) Uk Z Z (hd2.ext E).1 hi1) Z (Qa (Qy Kz Z (ha1.ext E) Z) Z (Yj Kz Z (fun b2 w5 e3 s2 h2=>?_)))
   have g_b2 : w.heap.size ≤ b2:=by have:=E.size;omega
   have y_b2:=h2.lt
   replace E:=E.trans e3;replace h1:=h1.ext e3
   have z4:=e3.size
   refine Q6 (cs':=[o6,o7,o8,o9,o10,o11,o12,o13]) Kz Z Z Z (Qj (RdD.one (hd6.ext E)) (Qj (RdD.one (hd7.ext E)) (Qj (RdD.one (hd8.ext E)) (Qj (RdD.one (hd9.ext E)) (Qj (RdD.one (hd10.ext E)) (Qj (RdD.one (hd11.ext E)) (Qj (RdD.one (hd12.ext E)) (Qj (RdD.one (hd13.ext E)) Z)))))))) h2 (Nat.le_of_ble_eq_true Z) Z (fun w6 m1 h2'=>?_)
   replace h2:=h2'
   replace E:=E.step m1 (fun g hg=>by cases hg;omega);replace h1:=h1.mod m1 (fun g hg=>by cases hg;omega)
   have z5:=m1.size
   refine Qc (Qe (Qg [true,true,true,false,true] Z Z (Qa (Qb Ul Z) Z (Qa (Qy Uh Z (h1.part 0 [o1,.int .i64 x.graph.workers,.int .i64 x.graph.cap] Z) Z) Z (Qa (Qy Kz Z h2.at Z) Z (Qu Tryz.call117 Z (c_WorkerOk [o1,.int .i64 x.graph.workers,.int .i64 x.graph.cap] x.graph [o6,o7,o8,o9,o10,o11,o12,o13] (x.workers[k]'hi1) _ (Graph.mkR x.graph (RdD.any (hd1.ext E))) (Worker.mkR (x.workers[k]'hi1) (RdD.any (hd6.ext E)) (RdD.any (hd7.ext E)) (RdD.any (hd8.ext E)) (RdD.any (hd9.ext E)) (RdD.any (hd10.ext E)) (RdD.any (hd11.ext E)) (RdD.any (hd12.ext E)) (RdD.any (hd13.ext E)))) Z (fun _ w7 e4 hv=>?_)))))))
   subst hv
   replace E:=E.trans e4;replace h1:=h1.ext e4;replace h2:=h2.ext e4
   have z6:=e4.size
   refine Qa (Yt Z) Z (Qc (Qr Z (fun hc3=>?_) (fun hc3=>?_)))
   ·refine Qe (Qg [true] Z Z (Qa (Qf Z) Z (Qc (Qt (Q0 (Yq (Q0 (Ql Z Z E ?_))))))))
    exact cl_1 (by assumption) (by simpa using hc3)
   ·refine Qm (Q5 (Yv (Qg [true,true] Z Z (Qa (Yd Z Z (Ye (by unfold maxLen;omega))) Z (Qa (Qd Z) Z (Qc (Q5 (Yg (k + 1) (by omega) ⟨Z,Z,Z,Z,Z,Z,trivial⟩ ⟨E,(by omega),h1,(by omega),X9 hI1 (by assumption) (by simpa using hc3)⟩))))))))
  ·have hc2n : ¬ k < x.workers.length:=by first | (have h:=of_decide_eq_false hc2;omega) | (have h:=hc2;simp at h;omega)
   refine Ym (Q4 (Q2 ?_))
   refine Qe (Qe (Qg [true,true,true,true] Z Z (Qa (Qb Ki Z) Z (Qa (Qk V7 Z (h1.one 4 Z)) Z (Qa (Yb Tryz.underlying36 Z (hd3.ext E).len) Z (Qa (Qd Z) Z (Qc (Qw (Yk (fun (k : Nat)=>[(1,.pointer (some ⟨b1,0,none⟩)),(2,.bool false),(3,.int .i64 x.graph.workers),(55,o3),(56,.int .i64 ((x.links.length : Nat) : Int)),(57,.int .i64 ((k : Nat) : Int))]) (fun (k : Nat) w'=>Ext w w' ∧ w4.heap.size ≤ w'.heap.size ∧ Blk w' b1 ([o1,.int .i64 x.graph.workers,.int .i64 x.graph.cap,o2,o3,o4,o5]) ∧ k ≤ x.links.length ∧ Hj k (fun j=>!Aw x.graph j (List.getD x.links j default)) = true) (fun (k : Nat)=>x.links.length - k) 0 ⟨Z,Z,Z,Z,Z,Z,trivial⟩ ⟨E,Nat.le_refl _,h1,Nat.zero_le _,Z⟩ ?_)))))))))
   clear E h1
   rintro k w8 ⟨E,z7,h1,hk,hI2⟩
   have hml:=hd3.1.1
   unfold maxLen at hml
   refine Qe (Qg [true] Z Z (Qa (Yf Z Z) Z (Qc (Qe (Qr Z (fun hc4=>?_) (fun hc4=>?_))))))
   ·have hc4n : k < x.links.length:=by first | (have h:=of_decide_eq_true hc4;omega) | (have h:=hc4;simp at h;omega)
    refine Qm (Qe (Qw (Qe (Qg [true,true,true,false,true,false] Z Z (Qa (Qd Z) Z ?_)))))
    have hi2 : k < x.links.length:=(by first | assumption | omega | (simp only [List.length_set];first | assumption | omega) | (simp only [List.getElem_set_self,List.length_set];first | assumption | omega))
    obtain ⟨_,hr2,ha2⟩:=RdD.get hd3 hi2
    obtain ⟨o14,rfl,hd14⟩:=Link.op hr2
    replace ha2 : At w (Y2 o3) (Y9 o3 + k * 6) [.int .i64 ((x.links[k]'hi2).cap),o14,.int .i64 ((x.links[k]'hi2).credits),.int .i64 ((x.links[k]'hi2).back),.int .i64 ((x.links[k]'hi2).sent),.int .i64 ((x.links[k]'hi2).got)]:=ha2
    refine Qa (Qv (i:=k) Vb Z Z (hd3.ext E).1 hi2) Z (Qa (Qy Xv Z (ha2.ext E) Z) Z (Yj Xv Z (fun b3 w9 e5 s3 h3=>?_)))
    have g_b3 : w.heap.size ≤ b3:=by have:=E.size;omega
    have y_b3:=h3.lt
    replace E:=E.trans e5;replace h1:=h1.ext e5
    have z8:=e5.size
    refine Qa (Qf Z) Z (Q6 (cs':=[.int .i64 ((x.links[k]'hi2).cap),o14,.int .i64 ((x.links[k]'hi2).credits),.int .i64 ((x.links[k]'hi2).back),.int .i64 ((x.links[k]'hi2).sent),.int .i64 ((x.links[k]'hi2).got)]) Xv Z Z Z (Qj Z (Qj (RdD.one (hd14.ext E)) (Qj Z (Qj Z (Qj Z (Qj Z Z)))))) h3 (Nat.le_of_ble_eq_true Z) Z (fun w10 m2 h3'=>?_))
    replace h3:=h3'
    replace E:=E.step m2 (fun g hg=>by cases hg;omega);replace h1:=h1.mod m2 (fun g hg=>by cases hg;omega)
    have z9:=m2.size
    refine Qc (Qe (Xw Xp [(0,true),(1,false),(2,true),(3,true),(4,true),(5,true),(6,true),(7,true),(8,true),(9,true),(10,true),(11,true),(12,true),(13,true),(14,true),(15,true),(16,false),(17,true),(18,true),(19,true),(20,true),(21,true),(22,true),(23,true),(24,true),(25,true),(26,true),(27,true),(28,true),(29,true),(30,true),(31,true),(32,true),(33,true)] (by decide +kernel) Z (fun w11 e6=>?_)))
    replace E:=E.trans e6;replace h1:=h1.ext e6;replace h3:=h3.ext e6
    have z10:=e6.size
    refine Qa (Qy Xv Z h3.at Z) Z (Qu Tryz.call70 Z (c_LinkOk [.int .i64 ((x.links[k]'hi2).cap),o14,.int .i64 ((x.links[k]'hi2).credits),.int .i64 ((x.links[k]'hi2).back),.int .i64 ((x.links[k]'hi2).sent),.int .i64 ((x.links[k]'hi2).got)] (x.links[k]'hi2) _ (Link.mkR (x.links[k]'hi2) (RdD.any (hd14.ext E))) (hok _ (List.getElem_mem _))) Z (fun _ w12 e7 hv=>?_))
    subst hv
    replace E:=E.trans e7;replace h1:=h1.ext e7;replace h3:=h3.ext e7
    have z11:=e7.size
    refine Qa (Yt Z) Z (Qa (Qd Z) Z (Xd 30 [(1,.pointer (some ⟨b1,0,none⟩)),(2,.bool false),(3,.int .i64 x.graph.workers),(6,.int .i64 ((k : Nat) : Int)),(7,.pointer (some ⟨b3,0,none⟩)),(55,o3),(56,.int .i64 ((x.links.length : Nat) : Int)),(57,.int .i64 ((k : Nat) : Int)),(58,.bool (decide (((k : Nat) : Int) < ((x.links.length : Nat) : Int)))),(59,.int .i64 ((k : Nat) : Int)),(60,.pointer (some ⟨Y2 o3,Y9 o3 + k * 6,none⟩)),(61,.agg [.int .i64 ((x.links[k]'hi2).cap),o14,.int .i64 ((x.links[k]'hi2).credits),.int .i64 ((x.links[k]'hi2).back),.int .i64 ((x.links[k]'hi2).sent),.int .i64 ((x.links[k]'hi2).got)].toArray),(95,.bool ((((!(Xb (x.links[k]'hi2))) || (((x.links[k]'hi2).cap) != x.graph.cap)) || (!(((x.links[k]'hi2).queue).all (Xf x.graph)))) || (((IntKind.i64.wrap (Int.tdiv ((k : Nat) : Int) x.graph.workers)) == (Int.tmod ((k : Nat) : Int) x.graph.workers)) && (decide (0 < ((((x.links[k]'hi2).queue).length : Nat) : Int))))))] (fun w'=>Ext w w' ∧ w12.heap.size ≤ w'.heap.size ∧ Blk w' b1 ([o1,.int .i64 x.graph.workers,.int .i64 x.graph.cap,o2,o3,o4,o5]) ∧ Blk w' b3 [.int .i64 ((x.links[k]'hi2).cap),o14,.int .i64 ((x.links[k]'hi2).credits),.int .i64 ((x.links[k]'hi2).back),.int .i64 ((x.links[k]'hi2).sent),.int .i64 ((x.links[k]'hi2).got)]) ?_ ?_))
    ·refine Y1 (gd:=65) Z Z (fun hg4=>?_) (fun hg4=>?_)
     ·refine Qh Z Z Z Z (Qh Z Z Z Z (Qh Z Z Z Z (Qh Z Z Z Z (Qh Z Z Z Z (Qh Z Z Z Z (Qa (Qx Z Z) Z (Qa (Qd Z) Z (Qh Z Z Z Z (Qh Z Z Z Z (Qh Z Z Z Z (Qh Z Z Z Z ?_)))))))))))
      refine Yw Z Z Z Z ?_
      refine Qh Z Z Z Z (Qa (Qx Z Z) Z (Qa (Qd Z) Z (Qh Z Z Z Z (Qh Z Z Z Z (Qh Z Z Z Z (Qh Z Z Z Z (Qh Z Z Z Z (Qh Z Z Z Z (Qh Z Z Z Z (Qh Z Z Z Z (Q9 Z Z Z (Q9 Z Z Z (Q9 Z Z Z (Q9 Z Z Z (Qh Z Z Z Z (Qa (Qx Z Z) Z (Qq ⟨Z,Z,Z,Z,Z,Z,Z,Z,Z,Z,Z,Z,congrArg (fun b=>some (Value.bool b)) (show true = ((((!(Xb (x.links[k]'hi2))) || (((x.links[k]'hi2).cap) != x.graph.cap)) || (!(((x.links[k]'hi2).queue).all (Xf x.graph)))) || (((IntKind.i64.wrap (Int.tdiv ((k : Nat) : Int) x.graph.workers)) == (Int.tmod ((k : Nat) : Int) x.graph.workers)) && (decide (0 < ((((x.links[k]'hi2).queue).length : Nat) : Int))))) by first | (rw [hg4] <;> rfl) | (simp [hg4];done) | (simp only [Qp] <;> simp)),trivial⟩ ⟨E,(by omega),h1,h3⟩)))))))))))))))))
     ·refine Qn Z Z (Qb Vd Z) Z (Qn Z Z (Qk Yp Z (h3.one 0 Z)) Z (Qn Z Z (Qb Ul Z) Z (Qn Z Z (Qb T1 Z) Z (Qn Z Z (Qk Yp Z (h1.one 2 Z)) Z (Qn Z Z (Yo Z Z) Z (Qa (Q1 Z Z) Z (Qa (Qd Z) Z ?_)))))))
      refine Y1 (gd:=73) Z Z (fun hg5=>?_) (fun hg5=>?_)
      ·refine Qh Z Z Z Z (Qh Z Z Z Z (Qh Z Z Z Z (Qh Z Z Z Z ?_)))
       refine Yw Z Z Z Z ?_
       refine Qh Z Z Z Z (Qa (Qx Z Z) Z (Qa (Qd Z) Z (Qh Z Z Z Z (Qh Z Z Z Z (Qh Z Z Z Z (Qh Z Z Z Z (Qh Z Z Z Z (Qh Z Z Z Z (Qh Z Z Z Z (Qh Z Z Z Z (Q9 Z Z Z (Q9 Z Z Z (Q9 Z Z Z (Q9 Z Z Z (Qh Z Z Z Z (Qa (Qx Z Z) Z (Qq ⟨Z,Z,Z,Z,Z,Z,Z,Z,Z,Z,Z,Z,congrArg (fun b=>some (Value.bool b)) (show true = ((((!(Xb (x.links[k]'hi2))) || (((x.links[k]'hi2).cap) != x.graph.cap)) || (!(((x.links[k]'hi2).queue).all (Xf x.graph)))) || (((IntKind.i64.wrap (Int.tdiv ((k : Nat) : Int) x.graph.workers)) == (Int.tmod ((k : Nat) : Int) x.graph.workers)) && (decide (0 < ((((x.links[k]'hi2).queue).length : Nat) : Int))))) by first | (rw [hg4,hg5] <;> rfl) | (simp [hg4,hg5];done) | (simp only [Qp] <;> simp)),trivial⟩ ⟨E,(by omega),h1,h3⟩)))))))))))))))))
      ·refine Qn Z Z (Qb Ul Z) Z (Qn Z Z (Qy Uh Z (h1.part 0 [o1,.int .i64 x.graph.workers,.int .i64 x.graph.cap] Z) Z) Z (Qn Z Z (Qb X2 Z) Z (Qn Z Z (Qk Xo Z (h3.one 1 Z)) Z ?_)))
       refine X4 Z Z ?_
       refine Qu Tryz.call118 Z (c_opsOk [o1,.int .i64 x.graph.workers,.int .i64 x.graph.cap] x.graph o14 ((x.links[k]'hi2).queue) _ (Graph.mkR x.graph (RdD.any (hd1.ext E))) (hd14.rd.ext E)) Z (fun _ w14 e8 hv=>?_)
       subst hv
       replace E:=E.trans e8;replace h1:=h1.ext e8;replace h3:=h3.ext e8
       have z12:=e8.size
       refine Qn Z Z (Yt Z) Z (Qa (Q1 Z Z) Z (Qa (Qd Z) Z ?_))
       refine Y1 (gd:=81) Z Z (fun hg6=>?_) (fun hg6=>?_)
       ·refine Qh Z Z Z Z (Qh Z Z Z Z (Qh Z Z Z Z (Qh Z Z Z Z (Qh Z Z Z Z (Qh Z Z Z Z (Qh Z Z Z Z (Qh Z Z Z Z (Q9 Z Z Z (Q9 Z Z Z (Q9 Z Z Z (Q9 Z Z Z (Qh Z Z Z Z (Qa (Qx Z Z) Z (Qq ⟨Z,Z,Z,Z,Z,Z,Z,Z,Z,Z,Z,Z,congrArg (fun b=>some (Value.bool b)) (show true = ((((!(Xb (x.links[k]'hi2))) || (((x.links[k]'hi2).cap) != x.graph.cap)) || (!(((x.links[k]'hi2).queue).all (Xf x.graph)))) || (((IntKind.i64.wrap (Int.tdiv ((k : Nat) : Int) x.graph.workers)) == (Int.tmod ((k : Nat) : Int) x.graph.workers)) && (decide (0 < ((((x.links[k]'hi2).queue).length : Nat) : Int))))) by first | (rw [hg4,hg5,hg6] <;> rfl) | (simp [hg4,hg5,hg6];done) | (simp only [Qp] <;> simp)),trivial⟩ ⟨E,(by omega),h1,h3⟩))))))))))))))
       ·refine Qn Z Z (Qd Z) Z (Qn Z Z (Qd Z) Z (Qn Z Z (R_quo Z Z (by omega) Z) Z (Qn Z Z (Qd Z) Z (Qn Z Z (Qd Z) Z (Qn Z Z (Ha Z Z (by omega) Z) Z (Qn Z Z (Xg Z Z) Z (Qn Z Z (Qd Z) Z ?_)))))))
        refine Y1 (gd:=89) Z Z (fun hg7=>?_) (fun hg7=>?_)
        ·refine Qn Z Z (Qb X2 Z) Z (Qn Z Z (Qk Xo Z (h3.one 1 Z)) Z (Qn Z Z (Yb Tryz.underlying66 Z (hd14.ext E).len) Z (Qn Z Z (G1 Z Z) Z (Qn Z Z (Qx Z Z) Z (Qa (Q1 Z Z) Z (Qq ⟨Z,Z,Z,Z,Z,Z,Z,Z,Z,Z,Z,Z,congrArg (fun b=>some (Value.bool b)) (show (decide (0 < ((((x.links[k]'hi2).queue).length : Nat) : Int))) = ((((!(Xb (x.links[k]'hi2))) || (((x.links[k]'hi2).cap) != x.graph.cap)) || (!(((x.links[k]'hi2).queue).all (Xf x.graph)))) || (((IntKind.i64.wrap (Int.tdiv ((k : Nat) : Int) x.graph.workers)) == (Int.tmod ((k : Nat) : Int) x.graph.workers)) && (decide (0 < ((((x.links[k]'hi2).queue).length : Nat) : Int))))) by first | (rw [hg4,hg5,hg6,hg7] <;> rfl) | (simp [hg4,hg5,hg6,hg7];done) | (simp only [Qp] <;> simp)),trivial⟩ ⟨E,(by omega),h1,h3⟩))))))
        ·refine Qh Z Z Z Z (Qh Z Z Z Z (Qh Z Z Z Z (Qh Z Z Z Z (Qn Z Z (Q1 Z Z) Z (Qa (Q1 Z Z) Z (Qq ⟨Z,Z,Z,Z,Z,Z,Z,Z,Z,Z,Z,Z,congrArg (fun b=>some (Value.bool b)) (show false = ((((!(Xb (x.links[k]'hi2))) || (((x.links[k]'hi2).cap) != x.graph.cap)) || (!(((x.links[k]'hi2).queue).all (Xf x.graph)))) || (((IntKind.i64.wrap (Int.tdiv ((k : Nat) : Int) x.graph.workers)) == (Int.tmod ((k : Nat) : Int) x.graph.workers)) && (decide (0 < ((((x.links[k]'hi2).queue).length : Nat) : Int))))) by first | (rw [hg4,hg5,hg6,hg7] <;> rfl) | (simp [hg4,hg5,hg6,hg7];done) | (simp only [Qp] <;> simp)),trivial⟩ ⟨E,(by omega),h1,h3⟩))))))
    clear E h1 h3
    rintro w13 ⟨E,z13,h1,h3⟩
    refine Qc (Qr Z (fun hc5=>?_) (fun hc5=>?_))
    ·refine Qe (Qg [true] Z Z (Qa (Qf Z) Z (Qc (Qt (Q0 (Yq (Q0 (Ql Z Z E ?_))))))))
     exact cl_2 (by assumption) hc5
    ·refine Qm (Q5 (Yv (Qg [true,true] Z Z (Qa (Yd Z Z (Ye (by unfold maxLen;omega))) Z (Qa (Qd Z) Z (Qc (Q5 (Yg (k + 1) (by omega) ⟨Z,Z,Z,Z,Z,Z,trivial⟩ ⟨E,(by omega),h1,(by omega),An hI2 (lk_at (by assumption) hc5)⟩))))))))
   ·have hc4n : ¬ k < x.links.length:=by first | (have h:=of_decide_eq_false hc4;omega) | (have h:=hc4;simp at h;omega)
    refine Ym (Q4 (Q2 ?_))
    refine Qe (Qe (Qg [true,true,true,true] Z Z (Qa (Qb U5 Z) Z (Qa (Qk Cg Z (h1.one 5 Z)) Z (Qa (Yb Tryz.underlying37 Z (hd4.ext E).len) Z (Qa (Qd Z) Z (Qc (Qw (Yk (fun (k : Nat)=>[(1,.pointer (some ⟨b1,0,none⟩)),(2,.bool false),(3,.int .i64 x.graph.workers),(98,o4),(99,.int .i64 ((x.tokens.length : Nat) : Int)),(100,.int .i64 ((k : Nat) : Int))]) (fun (k : Nat) w'=>Ext w w' ∧ w8.heap.size ≤ w'.heap.size ∧ Blk w' b1 ([o1,.int .i64 x.graph.workers,.int .i64 x.graph.cap,o2,o3,o4,o5]) ∧ k ≤ x.tokens.length ∧ (x.tokens.take k).all (fun t=>!tkBad x.graph t) = true) (fun (k : Nat)=>x.tokens.length - k) 0 ⟨Z,Z,Z,Z,Z,Z,trivial⟩ ⟨E,Nat.le_refl _,h1,Nat.zero_le _,Z⟩ ?_)))))))))
    clear E h1
    rintro k w15 ⟨E,z14,h1,hk,hI3⟩
    have hmt:=hd4.1.1
    unfold maxLen at hmt
    refine Qe (Qg [true] Z Z (Qa (Yf Z Z) Z (Qc (Qe (Qr Z (fun hc6=>?_) (fun hc6=>?_))))))
    ·have hc6n : k < x.tokens.length:=by first | (have h:=of_decide_eq_true hc6;omega) | (have h:=hc6;simp at h;omega)
     refine Qm (Qe (Qw (Qe (Qg [true,true,false,false] Z Z ?_))))
     have hi3 : k < x.tokens.length:=(by first | assumption | omega | (simp only [List.length_set];first | assumption | omega) | (simp only [List.getElem_set_self,List.length_set];first | assumption | omega))
     refine Qa (Qv (i:=k) Gs Z Z (hd4.rd.ext E) hi3) Z (Qa (Qy Tt Z ((hd4.rd.ext E).get hi3) Z) Z (Yj Tt Z (fun b4 w16 e9 s4 h4=>?_)))
     have g_b4 : w.heap.size ≤ b4:=by have:=E.size;omega
     have y_b4:=h4.lt
     replace E:=E.trans e9;replace h1:=h1.ext e9
     have z15:=e9.size
     refine Q6 (cs':=[.bool ((x.tokens[k]'hi3).going),.int .i64 ((x.tokens[k]'hi3).place),.int .i64 ((x.tokens[k]'hi3).sum),.bool ((x.tokens[k]'hi3).black),.bool ((x.tokens[k]'hi3).capped)]) Tt Z Z Z Z h4 (Nat.le_of_ble_eq_true Z) Z (fun w17 m3 h4'=>?_)
     replace h4:=h4'
     replace E:=E.step m3 (fun g hg=>by cases hg;omega);replace h1:=h1.mod m3 (fun g hg=>by cases hg;omega)
     have z16:=m3.size
     refine Qc (Qe (Qg [true,true,true,true,false,true,true,true,true,true,true,true,true,true,true,true,true,true,true,false,true,true] Z Z (Qa (Qb Gm Z) Z (Qa (Qk Yp Z (h4.one 1 Z)) Z (Qa (Qd Z) Z (Qa (Ug Z Z Z) Z (Qu Tryz.call71 Z (c_within ((x.tokens[k]'hi3).place) 0 (IntKind.i64.wrap (x.graph.workers - 1)) _ ) Z (fun _ w18 e10 hv=>?_))))))))
     subst hv
     replace E:=E.trans e10;replace h1:=h1.ext e10;replace h4:=h4.ext e10
     have z17:=e10.size
     refine Qa (Yt Z) Z (Qa (Qd Z) Z (Xd 15 [(1,.pointer (some ⟨b1,0,none⟩)),(2,.bool false),(3,.int .i64 x.graph.workers),(9,.pointer (some ⟨b4,0,none⟩)),(98,o4),(99,.int .i64 ((x.tokens.length : Nat) : Int)),(100,.int .i64 ((k : Nat) : Int)),(101,.bool (decide (((k : Nat) : Int) < ((x.tokens.length : Nat) : Int)))),(102,.pointer (some ⟨Y2 o4,Y9 o4 + k * 5,none⟩)),(103,.agg (Enc.enc (x.tokens[k]'hi3)).toArray),(125,.bool (((!(Yr ((x.tokens[k]'hi3).place) 0 (IntKind.i64.wrap (x.graph.workers - 1)))) || ((!((x.tokens[k]'hi3).going)) && (((x.tokens[k]'hi3).place) != 0))) || (!(Yr ((x.tokens[k]'hi3).sum) (-1000000) 1000000))))] (fun w'=>Ext w w' ∧ w18.heap.size ≤ w'.heap.size ∧ Blk w' b1 ([o1,.int .i64 x.graph.workers,.int .i64 x.graph.cap,o2,o3,o4,o5]) ∧ Blk w' b4 [.bool ((x.tokens[k]'hi3).going),.int .i64 ((x.tokens[k]'hi3).place),.int .i64 ((x.tokens[k]'hi3).sum),.bool ((x.tokens[k]'hi3).black),.bool ((x.tokens[k]'hi3).capped)]) ?_ ?_))
     ·refine Y1 (gd:=110) Z Z (fun hg8=>?_) (fun hg8=>?_)
      ·refine Qh Z Z Z Z (Qh Z Z Z Z (Qh Z Z Z Z (Qh Z Z Z Z (Q9 Z Z Z (Q9 Z Z Z (Q9 Z Z Z (Qh Z Z Z Z (Qa (Qx Z Z) Z (Qa (Qd Z) Z (Qh Z Z Z Z (Qh Z Z Z Z ?_)))))))))))
       refine Yw Z Z Z Z ?_
       refine Qh Z Z Z Z (Qa (Qx Z Z) Z (Qq ⟨Z,Z,Z,Z,Z,Z,Z,Z,Z,Z,congrArg (fun b=>some (Value.bool b)) (show true = (((!(Yr ((x.tokens[k]'hi3).place) 0 (IntKind.i64.wrap (x.graph.workers - 1)))) || ((!((x.tokens[k]'hi3).going)) && (((x.tokens[k]'hi3).place) != 0))) || (!(Yr ((x.tokens[k]'hi3).sum) (-1000000) 1000000))) by first | (rw [hg8] <;> rfl) | (simp [hg8];done) | (simp only [Qp] <;> simp)),trivial⟩ ⟨E,(by omega),h1,h4⟩))
      ·refine Qn Z Z (Qb Th Z) Z (Qn Z Z (Qk Hb Z (h4.one 0 Z)) Z (Qn Z Z (Yt Z) Z (Qn Z Z (Qd Z) Z ?_)))
       refine Y1 (gd:=114) Z Z (fun hg9=>?_) (fun hg9=>?_)
       ·refine Qn Z Z (Qb Gm Z) Z (Qn Z Z (Qk Yp Z (h4.one 1 Z)) Z (Qn Z Z (Yo Z Z) Z (Qn Z Z (Qx Z Z) Z (Qa (Q1 Z Z) Z (Qa (Qd Z) Z ?_)))))
        refine Y1 (gd:=120) Z Z (fun hg10=>?_) (fun hg10=>?_)
        ·refine Qh Z Z Z Z (Qh Z Z Z Z ?_)
         refine Yw Z Z Z Z ?_
         refine Qh Z Z Z Z (Qa (Qx Z Z) Z (Qq ⟨Z,Z,Z,Z,Z,Z,Z,Z,Z,Z,congrArg (fun b=>some (Value.bool b)) (show true = (((!(Yr ((x.tokens[k]'hi3).place) 0 (IntKind.i64.wrap (x.graph.workers - 1)))) || ((!((x.tokens[k]'hi3).going)) && (((x.tokens[k]'hi3).place) != 0))) || (!(Yr ((x.tokens[k]'hi3).sum) (-1000000) 1000000))) by first | (rw [hg8,hg9,hg10] <;> rfl) | (simp [hg8,hg9,hg10];done) | (simp only [Qp] <;> simp)),trivial⟩ ⟨E,(by omega),h1,h4⟩))
        ·refine Qn Z Z (Qb Gl Z) Z (Qn Z Z (Qk Yp Z (h4.one 2 Z)) Z ?_)
         refine X4 Z Z ?_
         refine Qu Tryz.call71 Z (c_within ((x.tokens[k]'hi3).sum) (-1000000) 1000000 _ ) Z (fun _ w20 e11 hv=>?_)
         subst hv
         replace E:=E.trans e11;replace h1:=h1.ext e11;replace h4:=h4.ext e11
         have z18:=e11.size
         refine Qn Z Z (Yt Z) Z (Qa (Q1 Z Z) Z (Qq ⟨Z,Z,Z,Z,Z,Z,Z,Z,Z,Z,congrArg (fun b=>some (Value.bool b)) (show (!(Yr ((x.tokens[k]'hi3).sum) (-1000000) 1000000)) = (((!(Yr ((x.tokens[k]'hi3).place) 0 (IntKind.i64.wrap (x.graph.workers - 1)))) || ((!((x.tokens[k]'hi3).going)) && (((x.tokens[k]'hi3).place) != 0))) || (!(Yr ((x.tokens[k]'hi3).sum) (-1000000) 1000000))) by first | (rw [hg8,hg9,hg10] <;> rfl) | (simp [hg8,hg9,hg10];done) | (simp only [Qp] <;> simp)),trivial⟩ ⟨E,(by omega),h1,h4⟩))
       ·refine Qh Z Z Z Z (Qh Z Z Z Z (Qh Z Z Z Z (Qn Z Z (Q1 Z Z) Z (Qa (Q1 Z Z) Z (Qa (Qd Z) Z (Qn Z Z (Qb Gl Z) Z (Qn Z Z (Qk Yp Z (h4.one 2 Z)) Z ?_)))))))
        refine X4 Z Z ?_
        refine Qu Tryz.call71 Z (c_within ((x.tokens[k]'hi3).sum) (-1000000) 1000000 _ ) Z (fun _ w21 e12 hv=>?_)
        subst hv
        replace E:=E.trans e12;replace h1:=h1.ext e12;replace h4:=h4.ext e12
        have z19:=e12.size
        refine Qn Z Z (Yt Z) Z (Qa (Q1 Z Z) Z (Qq ⟨Z,Z,Z,Z,Z,Z,Z,Z,Z,Z,congrArg (fun b=>some (Value.bool b)) (show (!(Yr ((x.tokens[k]'hi3).sum) (-1000000) 1000000)) = (((!(Yr ((x.tokens[k]'hi3).place) 0 (IntKind.i64.wrap (x.graph.workers - 1)))) || ((!((x.tokens[k]'hi3).going)) && (((x.tokens[k]'hi3).place) != 0))) || (!(Yr ((x.tokens[k]'hi3).sum) (-1000000) 1000000))) by first | (rw [hg8,hg9] <;> rfl) | (simp [hg8,hg9];done) | (simp only [Qp] <;> simp)),trivial⟩ ⟨E,(by omega),h1,h4⟩))
     clear E h1 h4
     rintro w19 ⟨E,z20,h1,h4⟩
     refine Qc (Qr Z (fun hc7=>?_) (fun hc7=>?_))
     ·refine Qe (Qg [true] Z Z (Qa (Qf Z) Z (Qc (Qt (Q0 (Yq (Q0 (Ql Z Z E ?_))))))))
      exact cl_3 (by assumption) hc7
     ·refine Qm (Q5 (Yv (Qg [true,true] Z Z (Qa (Yd Z Z (Ye (by unfold maxLen;omega))) Z (Qa (Qd Z) Z (Qc (Q5 (Yg (k + 1) (by omega) ⟨Z,Z,Z,Z,Z,Z,trivial⟩ ⟨E,(by omega),h1,(by omega),X9 hI3 (by assumption) (nb hc7)⟩))))))))
    ·have hc6n : ¬ k < x.tokens.length:=by first | (have h:=of_decide_eq_false hc6;omega) | (have h:=hc6;simp at h;omega)
     refine Ym (Q4 (Q2 ?_))
     refine Qe (Qe (Qg [true,true,true,true] Z Z (Qa (Qb Gz Z) Z (Qa (Qk Bi Z (h1.one 6 Z)) Z (Qa (Yb Tryz.underlying38 Z (hd5.ext E).len) Z (Qa (Qd Z) Z (Qc (Qw (Yk (fun (k : Nat)=>[(2,.bool false),(3,.int .i64 x.graph.workers),(128,o5),(129,.int .i64 ((x.news.length : Nat) : Int)),(130,.int .i64 ((k : Nat) : Int))]) (fun (k : Nat) w'=>Ext w w' ∧ w15.heap.size ≤ w'.heap.size ∧ Blk w' b1 ([o1,.int .i64 x.graph.workers,.int .i64 x.graph.cap,o2,o3,o4,o5]) ∧ k ≤ x.news.length ∧ (x.news.take k).all (fun t=>!nwBad x.graph t) = true) (fun (k : Nat)=>x.news.length - k) 0 ⟨Z,Z,Z,Z,Z,trivial⟩ ⟨E,Nat.le_refl _,h1,Nat.zero_le _,Z⟩ ?_)))))))))
     clear E h1
     rintro k w22 ⟨E,z21,h1,hk,hI4⟩
     have hmn:=hd5.1.1
     unfold maxLen at hmn
     refine Qe (Qg [true] Z Z (Qa (Yf Z Z) Z (Qc (Qe (Qr Z (fun hc8=>?_) (fun hc8=>?_))))))
     ·have hc8n : k < x.news.length:=by first | (have h:=of_decide_eq_true hc8;omega) | (have h:=hc8;simp at h;omega)
      refine Qm (Qe (Qw (Qe (Qg [true,true,false,false] Z Z ?_))))
      have hi4 : k < x.news.length:=(by first | assumption | omega | (simp only [List.length_set];first | assumption | omega) | (simp only [List.getElem_set_self,List.length_set];first | assumption | omega))
      refine Qa (Qv (i:=k) Cf Z Z (hd5.rd.ext E) hi4) Z (Qa (Qy Ts Z ((hd5.rd.ext E).get hi4) Z) Z (Yj Ts Z (fun b5 w23 e13 s5 h5=>?_)))
      have g_b5 : w.heap.size ≤ b5:=by have:=E.size;omega
      have y_b5:=h5.lt
      replace E:=E.trans e13;replace h1:=h1.ext e13
      have z22:=e13.size
      refine Q6 (cs':=[.int .i64 ((x.news[k]'hi4).dest),.int .i64 ((x.news[k]'hi4).epoch),.bool ((x.news[k]'hi4).capped)]) Ts Z Z Z Z h5 (Nat.le_of_ble_eq_true Z) Z (fun w24 m4 h5'=>?_)
      replace h5:=h5'
      replace E:=E.step m4 (fun g hg=>by cases hg;omega);replace h1:=h1.mod m4 (fun g hg=>by cases hg;omega)
      have z23:=m4.size
      refine Qc (Qe (Qg [true,true,true,true,false,true,true,true,true,false,true,true] Z Z (Qa (Qb Tg Z) Z (Qa (Qk Yp Z (h5.one 0 Z)) Z (Qa (Qd Z) Z (Qa (Ug Z Z Z) Z (Qu Tryz.call71 Z (c_within ((x.news[k]'hi4).dest) 0 (IntKind.i64.wrap (x.graph.workers - 1)) _ ) Z (fun _ w25 e14 hv=>?_))))))))
      subst hv
      replace E:=E.trans e14;replace h1:=h1.ext e14;replace h5:=h5.ext e14
      have z24:=e14.size
      refine Qa (Yt Z) Z (Qa (Qd Z) Z (Xd 5 [(2,.bool false),(3,.int .i64 x.graph.workers),(11,.pointer (some ⟨b5,0,none⟩)),(128,o5),(129,.int .i64 ((x.news.length : Nat) : Int)),(130,.int .i64 ((k : Nat) : Int)),(131,.bool (decide (((k : Nat) : Int) < ((x.news.length : Nat) : Int)))),(132,.pointer (some ⟨Y2 o5,Y9 o5 + k * 3,none⟩)),(133,.agg (Enc.enc (x.news[k]'hi4)).toArray),(145,.bool ((!(Yr ((x.news[k]'hi4).dest) 0 (IntKind.i64.wrap (x.graph.workers - 1)))) || (!(Yr ((x.news[k]'hi4).epoch) 0 3))))] (fun w'=>Ext w w' ∧ w25.heap.size ≤ w'.heap.size ∧ Blk w' b1 ([o1,.int .i64 x.graph.workers,.int .i64 x.graph.cap,o2,o3,o4,o5]) ∧ Blk w' b5 [.int .i64 ((x.news[k]'hi4).dest),.int .i64 ((x.news[k]'hi4).epoch),.bool ((x.news[k]'hi4).capped)]) ?_ ?_))
      ·refine Y1 (gd:=140) Z Z (fun hg11=>?_) (fun hg11=>?_)
       ·refine Qh Z Z Z Z (Qh Z Z Z Z ?_)
        refine Yw Z Z Z Z ?_
        refine Qh Z Z Z Z (Qa (Qx Z Z) Z (Qq ⟨Z,Z,Z,Z,Z,Z,Z,Z,Z,congrArg (fun b=>some (Value.bool b)) (show true = ((!(Yr ((x.news[k]'hi4).dest) 0 (IntKind.i64.wrap (x.graph.workers - 1)))) || (!(Yr ((x.news[k]'hi4).epoch) 0 3))) by first | (rw [hg11] <;> rfl) | (simp [hg11];done) | (simp only [Qp] <;> simp)),trivial⟩ ⟨E,(by omega),h1,h5⟩))
       ·refine Qn Z Z (Qb Tf Z) Z (Qn Z Z (Qk Yp Z (h5.one 1 Z)) Z ?_)
        refine X4 Z Z ?_
        refine Qu Tryz.call71 Z (c_within ((x.news[k]'hi4).epoch) 0 3 _ ) Z (fun _ w27 e15 hv=>?_)
        subst hv
        replace E:=E.trans e15;replace h1:=h1.ext e15;replace h5:=h5.ext e15
        have z25:=e15.size
        refine Qn Z Z (Yt Z) Z (Qa (Q1 Z Z) Z (Qq ⟨Z,Z,Z,Z,Z,Z,Z,Z,Z,congrArg (fun b=>some (Value.bool b)) (show (!(Yr ((x.news[k]'hi4).epoch) 0 3)) = ((!(Yr ((x.news[k]'hi4).dest) 0 (IntKind.i64.wrap (x.graph.workers - 1)))) || (!(Yr ((x.news[k]'hi4).epoch) 0 3))) by first | (rw [hg11] <;> rfl) | (simp [hg11];done) | (simp only [Qp] <;> simp)),trivial⟩ ⟨E,(by omega),h1,h5⟩))
      clear E h1 h5
      rintro w26 ⟨E,z26,h1,h5⟩
      refine Qc (Qr Z (fun hc9=>?_) (fun hc9=>?_))
      ·refine Qe (Qg [true] Z Z (Qa (Qf Z) Z (Qc (Qt (Q0 (Yq (Q0 (Ql Z Z E ?_))))))))
       exact cl_4 (by assumption) hc9
      ·refine Qm (Q5 (Yv (Qg [true,true] Z Z (Qa (Yd Z Z (Ye (by unfold maxLen;omega))) Z (Qa (Qd Z) Z (Qc (Q5 (Yg (k + 1) (by omega) ⟨Z,Z,Z,Z,Z,trivial⟩ ⟨E,(by omega),h1,(by omega),X9 hI4 (by assumption) (nb hc9)⟩))))))))
     ·have hc8n : ¬ k < x.news.length:=by first | (have h:=of_decide_eq_false hc8;omega) | (have h:=hc8;simp at h;omega)
      refine Ym (Q4 (Q2 ?_))
      refine Qe (Qg [true] Z Z (Qa (Qf Z) Z (Qc (Qt (Ql Z Z E ?_)))))
      exact cl_5 hc1 (Gn hI1 (by omega)) (Cc hI2 (by omega)) (Gn hI3 (by omega)) (Gn hI4 (by omega))

set_option maxRecDepth 20000 in
theorem markTokenS (vxs : Value) (lo hi : Nat) (xs : List Token) (k : Nat) (w : World) (hxs : Own w lo hi 5 vxs (List.flatMap (Enc.enc (α:=Token)) xs)) (hb : k + xs.length * 5 ≤ 1099511627776) : CtR Tryz.prog 38 [vxs,.int .i64 ((k : Nat) : Int)] w lo hi (fun v w'=>v = .int .i64 ((k + 5 * xs.length : Nat) : Int) ∧ Own w' lo hi 5 vxs (List.flatMap (Enc.enc (α:=Token)) (Vj 5 Gf k xs.length))):=by
 refine Vq Tryz.func38 Z Tryz.ntmps38 Z ?_
 refine Q7 [(0,vxs),(1,.int .i64 ((k : Nat) : Int))] ⟨Z,Z,trivial⟩ ?_
 have E : ModR w w lo hi:=ModR.refl w lo hi
 refine Qe (Qg [true] Z Z (Qa (Qf Z) Z (Qc (Qe (Qe (Qg [true] Z Z (Qa (Qf Z) Z (Qc (Qw (Yk (fun (xq : Nat × Nat × List Token)=>let ⟨i,q,bs⟩:=xq;[(0,vxs),(1,.int .i64 ((q : Nat) : Int)),(4,.int .i64 0),(5,.int .i64 ((i : Nat) : Int))]) (fun (xq : Nat × Nat × List Token) w'=>let ⟨i,q,bs⟩:=xq;ModR w w' lo hi ∧ w.heap.size ≤ w'.heap.size ∧ i + bs.length = xs.length ∧ q = k + 5 * i ∧ Own w' lo hi 5 vxs (List.flatMap (Enc.enc (α:=Token)) (Vj 5 Gf k i ++ bs))) (fun (xq : Nat × Nat × List Token)=>let ⟨i,q,bs⟩:=xq;xs.length - i) (0,k,xs) ⟨Z,Z,Z,Z,trivial⟩ ⟨E,Nat.le_refl _,(by simp),(by simp),(by simpa [Vj] using hxs)⟩ ?_))))))))))
 clear E hxs
 rintro ⟨i,q,bs⟩ w1 ⟨E,z1,hi,hq,hxs⟩
 refine Q7 [(0,vxs),(1,.int .i64 ((q : Nat) : Int)),(4,.int .i64 0),(5,.int .i64 ((i : Nat) : Int))] ⟨Z,Z,Z,Z,trivial⟩ ?_
 refine Qe (Qe (Qg [true,true,true,true] Z Z (Qa (Qd Z) Z (Qa (Qd Z) Z (Qa (Yb Tryz.underlying37 Z (Own.lenE (by decide) hxs (by simp only [List.length_append,Qi,List.length_cons];omega))) Z (Qa (Yf Z Z) Z (Qc (Qr Z (fun hc1=>?_) (fun hc1=>?_)))))))))
 ·rcases bs with _ | ⟨x,bs⟩
  ·exact absurd hi (by have h:=hc1;simp at h ⊢;omega)
  simp only [List.length_cons] at hi
  have hc1n : i < xs.length:=by first | (have h:=of_decide_eq_true hc1;omega) | (have h:=hc1;simp at h;omega)
  refine Qm (Qe (Qw (Qe (Qg [true,true,true,true,true,true,true,false] Z Z (Qa (Qd Z) Z (Qa (Qd Z) Z (Qa (Qd Z) Z (Qa (Ha Z Z (by decide) Z) Z (Qa (Xg Z Z) Z (Qa (Qv Gs Z Z (Own.rd (by decide) hxs) (by simp only [List.length_append,Qi,List.length_cons];omega)) Z (Qa (Qs Th Z) Z (Y5 (α:=Token) (i:=i) (f:=0) (⟨(Int.tmod ((q : Nat) : Int) 3) == 0,x.place,x.sum,x.black,x.capped⟩ : Token) Hb Z Z Z Z hxs (Qi _ _ _ _) (by decide) Z (fun w2 m1 hxs'=>?_)))))))))))))
  have hq:=hxs.blk
  replace hxs:=hxs'
  replace E:=E.mod m1 (fun g hg=>by have:=hq g hg;omega)
  have z2:=m1.size
  clear hq
  refine Qc (Qe (Qg [true,true,true] Z Z (Qa (Qd Z) Z (Qa (Yd Z Z (Ye (by unfold maxLen;omega))) Z (Qa (Qf Z) Z (Qc (Qe (Qg [true,true,true,true,true,false] Z Z (Qa (Qd Z) Z (Qa (Qd Z) Z (Qa (Qd Z) Z (Qa (Qv Gs Z Z (Own.rd (by decide) hxs) (by simp only [List.length_append,Qi,List.length_cons];omega)) Z (Qa (Qs Gm Z) Z (Y5 (α:=Token) (i:=i) (f:=1) (⟨(Int.tmod ((q : Nat) : Int) 3) == 0,((q + 1 : Nat) : Int),x.sum,x.black,x.capped⟩ : Token) Yp Z Z Z Z hxs (Qi _ _ _ _) (by decide) Z (fun w3 m2 hxs'=>?_)))))))))))))))
  have hq:=hxs.blk
  replace hxs:=hxs'
  replace E:=E.mod m2 (fun g hg=>by have:=hq g hg;omega)
  have z3:=m2.size
  clear hq
  refine Qc (Qe (Qg [true,true,true] Z Z (Qa (Qd Z) Z (Qa (Yd Z Z (Ye (by unfold maxLen;omega))) Z (Qa (Qf Z) Z (Qc (Qe (Qg [true,true,true,true,true,false] Z Z (Qa (Qd Z) Z (Qa (Qd Z) Z (Qa (Qd Z) Z (Qa (Qv Gs Z Z (Own.rd (by decide) hxs) (by simp only [List.length_append,Qi,List.length_cons];omega)) Z (Qa (Qs Gl Z) Z (Y5 (α:=Token) (i:=i) (f:=2) (⟨(Int.tmod ((q : Nat) : Int) 3) == 0,((q + 1 : Nat) : Int),((q + 1 + 1 : Nat) : Int),x.black,x.capped⟩ : Token) Yp Z Z Z Z hxs (Qi _ _ _ _) (by decide) Z (fun w4 m3 hxs'=>?_)))))))))))))))
  have hq:=hxs.blk
  replace hxs:=hxs'
  replace E:=E.mod m3 (fun g hg=>by have:=hq g hg;omega)
  have z4:=m3.size
  clear hq
  refine Qc (Qe (Qg [true,true,true] Z Z (Qa (Qd Z) Z (Qa (Yd Z Z (Ye (by unfold maxLen;omega))) Z (Qa (Qf Z) Z (Qc (Qe (Qg [true,true,true,true,true,true,true,false] Z Z (Qa (Qd Z) Z (Qa (Qd Z) Z (Qa (Qd Z) Z (Qa (Ha Z Z (by decide) Z) Z (Qa (Xg Z Z) Z (Qa (Qv Gs Z Z (Own.rd (by decide) hxs) (by simp only [List.length_append,Qi,List.length_cons];omega)) Z (Qa (Qs Ac Z) Z (Y5 (α:=Token) (i:=i) (f:=3) (⟨(Int.tmod ((q : Nat) : Int) 3) == 0,((q + 1 : Nat) : Int),((q + 1 + 1 : Nat) : Int),(Int.tmod ((q + 1 + 1 + 1 : Nat) : Int) 3) == 0,x.capped⟩ : Token) Hb Z Z Z Z hxs (Qi _ _ _ _) (by decide) Z (fun w5 m4 hxs'=>?_)))))))))))))))))
  have hq:=hxs.blk
  replace hxs:=hxs'
  replace E:=E.mod m4 (fun g hg=>by have:=hq g hg;omega)
  have z5:=m4.size
  clear hq
  refine Qc (Qe (Qg [true,true,true] Z Z (Qa (Qd Z) Z (Qa (Yd Z Z (Ye (by unfold maxLen;omega))) Z (Qa (Qf Z) Z (Qc (Qe (Qg [true,true,true,true,true,true,true,false] Z Z (Qa (Qd Z) Z (Qa (Qd Z) Z (Qa (Qd Z) Z (Qa (Ha Z Z (by decide) Z) Z (Qa (Xg Z Z) Z (Qa (Qv Gs Z Z (Own.rd (by decide) hxs) (by simp only [List.length_append,Qi,List.length_cons];omega)) Z (Qa (Qs Ab Z) Z (Y5 (α:=Token) (i:=i) (f:=4) (⟨(Int.tmod ((q : Nat) : Int) 3) == 0,((q + 1 : Nat) : Int),((q + 1 + 1 : Nat) : Int),(Int.tmod ((q + 1 + 1 + 1 : Nat) : Int) 3) == 0,(Int.tmod ((q + 1 + 1 + 1 + 1 : Nat) : Int) 3) == 0⟩ : Token) Hb Z Z Z Z hxs (Qi _ _ _ _) (by decide) Z (fun w6 m5 hxs'=>?_)))))))))))))))))
  have hq:=hxs.blk
  replace hxs:=hxs'
  replace E:=E.mod m5 (fun g hg=>by have:=hq g hg;omega)
  have z6:=m5.size
  clear hq
  refine Qc (Qg [true,true,true] Z Z (Qa (Qd Z) Z (Qa (Yd Z Z (Ye (by unfold maxLen;omega))) Z (Qa (Qf Z) Z (Qc (Q5 (Yv (Qg [true,true,true] Z Z (Qa (Qd Z) Z (Qa (Yd Z Z (Ye (by unfold maxLen;omega))) Z (Qa (Qf Z) Z (Qc (Q5 (Yg (i + 1,q + 1 + 1 + 1 + 1 + 1,bs) (by simp;omega) ⟨rfl,rfl,rfl,rfl,trivial⟩ ⟨E,(by omega),(by omega),(by omega),(by subst hq;rw [← Gw];exact hxs)⟩))))))))))))))
 ·have hc1n : ¬ i < xs.length:=by first | (have h:=of_decide_eq_false hc1;omega) | (have h:=hc1;simp at h;omega)
  refine Ym (Q4 (Q2 ?_))
  refine Qe (Qg [true,true] Z Z (Qa (Qd Z) Z (Qa (Qf Z) Z (Qc (Qt (Ql Z Z E ?_))))))
  exact ⟨by subst hq;rw [show i = xs.length from by omega],by obtain rfl : bs = []:=List.eq_nil_of_length_eq_zero (by omega);rw [show xs.length = i from by simp at hi;omega];simpa using hxs⟩

set_option maxRecDepth 20000 in
theorem heldTokenS (vxs : Value) (xs : List Token) (k : Nat) (w : World) (hxs : RdS w vxs xs) (hm : xs = Vj 5 Gf k xs.length) (hb : k + xs.length * 5 ≤ 1099511627776) : Ct Tryz.prog 43 [vxs,.int .i64 ((k : Nat) : Int)] w (fun v _=>v = .int .i64 ((k + 5 * xs.length : Nat) : Int)):=by
 refine Yi Tryz.func43 Z Tryz.ntmps43 Z ?_
 refine Q7 [(0,vxs),(1,.int .i64 ((k : Nat) : Int))] ⟨Z,Z,trivial⟩ ?_
 have E : Ext w w:=Ext.refl w
 refine Qe (Qg [true] Z Z (Qa (Qf Z) Z (Qc (Qe (Qe (Qg [true] Z Z (Qa (Qf Z) Z (Qc (Qw (Yk (fun (xq : Nat × Nat)=>let ⟨i,q⟩:=xq;[(0,vxs),(1,.int .i64 ((q : Nat) : Int)),(4,.int .i64 0),(5,.int .i64 ((i : Nat) : Int))]) (fun (xq : Nat × Nat) w'=>let ⟨i,q⟩:=xq;Ext w w' ∧ w.heap.size ≤ w'.heap.size ∧ i ≤ xs.length ∧ q = k + 5 * i) (fun (xq : Nat × Nat)=>let ⟨i,q⟩:=xq;xs.length - i) (0,k) ⟨Z,Z,Z,Z,trivial⟩ ⟨E,Nat.le_refl _,Nat.zero_le _,(by simp)⟩ ?_))))))))))
 clear E
 rintro ⟨i,q⟩ w1 ⟨E,z1,hi,hq⟩
 refine Q7 [(0,vxs),(1,.int .i64 ((q : Nat) : Int)),(4,.int .i64 0),(5,.int .i64 ((i : Nat) : Int))] ⟨Z,Z,Z,Z,trivial⟩ ?_
 refine Qe (Qe (Qg [true,true,true,true] Z Z (Qa (Qd Z) Z (Qa (Qd Z) Z (Qa (Yb Tryz.underlying37 Z (hxs.ext E).len) Z (Qa (Yf Z Z) Z (Qc (Qr Z (fun hc1=>?_) (fun hc1=>?_)))))))))
 ·have hc1n : i < xs.length:=by first | (have h:=of_decide_eq_true hc1;omega) | (have h:=hc1;simp at h;omega)
  refine Qm (Qe (Qw (Qe (Qe (Qg [true,true,true,true,true,true,true,true,true] Z Z (Qa (Qd Z) Z (Qa (Qd Z) Z ?_)))))))
  have hi1 : i < xs.length:=(by first | assumption | omega | (simp only [List.length_set];first | assumption | omega) | (simp only [List.getElem_set_self,List.length_set];first | assumption | omega))
  refine Qa (Qv (i:=i) Gs Z Z (hxs.ext E) hi1) Z (Qa (Qs Th Z) Z (Qa (Qk Hb Z (((hxs.ext E).get hi1).one 0 Z)) Z (Qa (Qd Z) Z (Qa (Ha Z Z (by decide) Z) Z (Qa (Xg Z Z) Z (Qa (Uz (Tryz.underlying4) Z Z) Z (Qc (Yn rfl (by subst hq;rw [K5 hm (by omega)];simp [Gf]) (Qm (Qe (Qg [true,true,true] Z Z (Qa (Qd Z) Z (Qa (Yd Z Z (Ye (by unfold maxLen;omega))) Z (Qa (Qf Z) Z (Qc (Qe (Qe (Qg [true,true,true,true,true,true,true] Z Z (Qa (Qd Z) Z (Qa (Qd Z) Z (Qa (Qv (i:=i) Gs Z Z (hxs.ext E) hi1) Z (Qa (Qs Gm Z) Z (Qa (Qk Yp Z (((hxs.ext E).get hi1).one 1 Z)) Z (Qa (Qd Z) Z (Qa (Yo Z Z) Z (Qc (Yn rfl (by subst hq;rw [K5 hm (by omega)];simp [Gf]) (Qm (Qe (Qg [true,true,true] Z Z (Qa (Qd Z) Z (Qa (Yd Z Z (Ye (by unfold maxLen;omega))) Z (Qa (Qf Z) Z (Qc (Qe (Qe (Qg [true,true,true,true,true,true,true] Z Z (Qa (Qd Z) Z (Qa (Qd Z) Z (Qa (Qv (i:=i) Gs Z Z (hxs.ext E) hi1) Z (Qa (Qs Gl Z) Z (Qa (Qk Yp Z (((hxs.ext E).get hi1).one 2 Z)) Z (Qa (Qd Z) Z (Qa (Yo Z Z) Z (Qc (Yn rfl (by subst hq;rw [K5 hm (by omega)];simp [Gf]) (Qm (Qe (Qg [true,true,true] Z Z (Qa (Qd Z) Z (Qa (Yd Z Z (Ye (by unfold maxLen;omega))) Z (Qa (Qf Z) Z (Qc (Qe (Qe (Qg [true,true,true,true,true,true,true,true,true] Z Z (Qa (Qd Z) Z (Qa (Qd Z) Z (Qa (Qv (i:=i) Gs Z Z (hxs.ext E) hi1) Z (Qa (Qs Ac Z) Z (Qa (Qk Hb Z (((hxs.ext E).get hi1).one 3 Z)) Z (Qa (Qd Z) Z (Qa (Ha Z Z (by decide) Z) Z (Qa (Xg Z Z) Z (Qa (Uz (Tryz.underlying4) Z Z) Z (Qc (Yn rfl (by subst hq;rw [K5 hm (by omega)];simp [Gf]) (Qm (Qe (Qg [true,true,true] Z Z (Qa (Qd Z) Z (Qa (Yd Z Z (Ye (by unfold maxLen;omega))) Z (Qa (Qf Z) Z (Qc (Qe (Qe (Qg [true,true,true,true,true,true,true,true,true] Z Z (Qa (Qd Z) Z (Qa (Qd Z) Z (Qa (Qv (i:=i) Gs Z Z (hxs.ext E) hi1) Z (Qa (Qs Ab Z) Z (Qa (Qk Hb Z (((hxs.ext E).get hi1).one 4 Z)) Z (Qa (Qd Z) Z (Qa (Ha Z Z (by decide) Z) Z (Qa (Xg Z Z) Z (Qa (Uz (Tryz.underlying4) Z Z) Z (Qc (Yn rfl (by subst hq;rw [K5 hm (by omega)];simp [Gf]) (Qm (Qg [true,true,true] Z Z (Qa (Qd Z) Z (Qa (Yd Z Z (Ye (by unfold maxLen;omega))) Z (Qa (Qf Z) Z (Qc (Q5 (Yv (Qg [true,true,true] Z Z (Qa (Qd Z) Z (Qa (Yd Z Z (Ye (by unfold maxLen;omega))) Z (Qa (Qf Z) Z (Qc (Q5 (Yg (i + 1,q + 1 + 1 + 1 + 1 + 1) (by simp;omega) ⟨Z,Z,Z,Z,trivial⟩ ⟨E,(by omega),(by omega),(by omega)⟩)))))))))))))))))))))))))))))))))))))))))))))))))))))))))))))))))))))))))))))))))))))))))))))))))))))))
 ·have hc1n : ¬ i < xs.length:=by first | (have h:=of_decide_eq_false hc1;omega) | (have h:=hc1;simp at h;omega)
  refine Ym (Q4 (Q2 ?_))
  refine Qe (Qg [true,true] Z Z (Qa (Qd Z) Z (Qa (Qf Z) Z (Qc (Qt (Ql Z Z E ?_))))))
  subst hq;rw [show i = xs.length from by omega]

set_option maxRecDepth 20000 in
theorem markNewsS (vxs : Value) (lo hi : Nat) (xs : List News) (k : Nat) (w : World) (hxs : Own w lo hi 3 vxs (List.flatMap (Enc.enc (α:=News)) xs)) (hb : k + xs.length * 3 ≤ 1099511627776) : CtR Tryz.prog 39 [vxs,.int .i64 ((k : Nat) : Int)] w lo hi (fun v w'=>v = .int .i64 ((k + 3 * xs.length : Nat) : Int) ∧ Own w' lo hi 3 vxs (List.flatMap (Enc.enc (α:=News)) (Vj 3 Cu k xs.length))):=by
 refine Vq Tryz.func39 Z Tryz.ntmps39 Z ?_
 refine Q7 [(0,vxs),(1,.int .i64 ((k : Nat) : Int))] ⟨Z,Z,trivial⟩ ?_
 have E : ModR w w lo hi:=ModR.refl w lo hi
 refine Qe (Qg [true] Z Z (Qa (Qf Z) Z (Qc (Qe (Qe (Qg [true] Z Z (Qa (Qf Z) Z (Qc (Qw (Yk (fun (xq : Nat × Nat × List News)=>let ⟨i,q,bs⟩:=xq;[(0,vxs),(1,.int .i64 ((q : Nat) : Int)),(4,.int .i64 0),(5,.int .i64 ((i : Nat) : Int))]) (fun (xq : Nat × Nat × List News) w'=>let ⟨i,q,bs⟩:=xq;ModR w w' lo hi ∧ w.heap.size ≤ w'.heap.size ∧ i + bs.length = xs.length ∧ q = k + 3 * i ∧ Own w' lo hi 3 vxs (List.flatMap (Enc.enc (α:=News)) (Vj 3 Cu k i ++ bs))) (fun (xq : Nat × Nat × List News)=>let ⟨i,q,bs⟩:=xq;xs.length - i) (0,k,xs) ⟨Z,Z,Z,Z,trivial⟩ ⟨E,Nat.le_refl _,(by simp),(by simp),(by simpa [Vj] using hxs)⟩ ?_))))))))))
 clear E hxs
 rintro ⟨i,q,bs⟩ w1 ⟨E,z1,hi,hq,hxs⟩
 refine Q7 [(0,vxs),(1,.int .i64 ((q : Nat) : Int)),(4,.int .i64 0),(5,.int .i64 ((i : Nat) : Int))] ⟨Z,Z,Z,Z,trivial⟩ ?_
 refine Qe (Qe (Qg [true,true,true,true] Z Z (Qa (Qd Z) Z (Qa (Qd Z) Z (Qa (Yb Tryz.underlying38 Z (Own.lenE (by decide) hxs (by simp only [List.length_append,Qi,List.length_cons];omega))) Z (Qa (Yf Z Z) Z (Qc (Qr Z (fun hc1=>?_) (fun hc1=>?_)))))))))
 ·rcases bs with _ | ⟨x,bs⟩
  ·exact absurd hi (by have h:=hc1;simp at h ⊢;omega)
  simp only [List.length_cons] at hi
  have hc1n : i < xs.length:=by first | (have h:=of_decide_eq_true hc1;omega) | (have h:=hc1;simp at h;omega)
  refine Qm (Qe (Qw (Qe (Qg [true,true,true,true,true,false] Z Z (Qa (Qd Z) Z (Qa (Qd Z) Z (Qa (Qd Z) Z (Qa (Qv Cf Z Z (Own.rd (by decide) hxs) (by simp only [List.length_append,Qi,List.length_cons];omega)) Z (Qa (Qs Tg Z) Z (Y5 (α:=News) (i:=i) (f:=0) (⟨((q : Nat) : Int),x.epoch,x.capped⟩ : News) Yp Z Z Z Z hxs (Qi _ _ _ _) (by decide) Z (fun w2 m1 hxs'=>?_)))))))))))
  have hq:=hxs.blk
  replace hxs:=hxs'
  replace E:=E.mod m1 (fun g hg=>by have:=hq g hg;omega)
  have z2:=m1.size
  clear hq
  refine Qc (Qe (Qg [true,true,true] Z Z (Qa (Qd Z) Z (Qa (Yd Z Z (Ye (by unfold maxLen;omega))) Z (Qa (Qf Z) Z (Qc (Qe (Qg [true,true,true,true,true,false] Z Z (Qa (Qd Z) Z (Qa (Qd Z) Z (Qa (Qd Z) Z (Qa (Qv Cf Z Z (Own.rd (by decide) hxs) (by simp only [List.length_append,Qi,List.length_cons];omega)) Z (Qa (Qs Tf Z) Z (Y5 (α:=News) (i:=i) (f:=1) (⟨((q : Nat) : Int),((q + 1 : Nat) : Int),x.capped⟩ : News) Yp Z Z Z Z hxs (Qi _ _ _ _) (by decide) Z (fun w3 m2 hxs'=>?_)))))))))))))))
  have hq:=hxs.blk
  replace hxs:=hxs'
  replace E:=E.mod m2 (fun g hg=>by have:=hq g hg;omega)
  have z3:=m2.size
  clear hq
  refine Qc (Qe (Qg [true,true,true] Z Z (Qa (Qd Z) Z (Qa (Yd Z Z (Ye (by unfold maxLen;omega))) Z (Qa (Qf Z) Z (Qc (Qe (Qg [true,true,true,true,true,true,true,false] Z Z (Qa (Qd Z) Z (Qa (Qd Z) Z (Qa (Qd Z) Z (Qa (Ha Z Z (by decide) Z) Z (Qa (Xg Z Z) Z (Qa (Qv Cf Z Z (Own.rd (by decide) hxs) (by simp only [List.length_append,Qi,List.length_cons];omega)) Z (Qa (Qs Aa Z) Z (Y5 (α:=News) (i:=i) (f:=2) (⟨((q : Nat) : Int),((q + 1 : Nat) : Int),(Int.tmod ((q + 1 + 1 : Nat) : Int) 3) == 0⟩ : News) Hb Z Z Z Z hxs (Qi _ _ _ _) (by decide) Z (fun w4 m3 hxs'=>?_)))))))))))))))))
  have hq:=hxs.blk
  replace hxs:=hxs'
  replace E:=E.mod m3 (fun g hg=>by have:=hq g hg;omega)
  have z4:=m3.size
  clear hq
  refine Qc (Qg [true,true,true] Z Z (Qa (Qd Z) Z (Qa (Yd Z Z (Ye (by unfold maxLen;omega))) Z (Qa (Qf Z) Z (Qc (Q5 (Yv (Qg [true,true,true] Z Z (Qa (Qd Z) Z (Qa (Yd Z Z (Ye (by unfold maxLen;omega))) Z (Qa (Qf Z) Z (Qc (Q5 (Yg (i + 1,q + 1 + 1 + 1,bs) (by simp;omega) ⟨rfl,rfl,rfl,rfl,trivial⟩ ⟨E,(by omega),(by omega),(by omega),(by subst hq;rw [← Gw];exact hxs)⟩))))))))))))))
 ·have hc1n : ¬ i < xs.length:=by first | (have h:=of_decide_eq_false hc1;omega) | (have h:=hc1;simp at h;omega)
  refine Ym (Q4 (Q2 ?_))
  refine Qe (Qg [true,true] Z Z (Qa (Qd Z) Z (Qa (Qf Z) Z (Qc (Qt (Ql Z Z E ?_))))))
  exact ⟨by subst hq;rw [show i = xs.length from by omega],by obtain rfl : bs = []:=List.eq_nil_of_length_eq_zero (by omega);rw [show xs.length = i from by simp at hi;omega];simpa using hxs⟩

set_option maxRecDepth 20000 in
theorem heldNewsS (vxs : Value) (xs : List News) (k : Nat) (w : World) (hxs : RdS w vxs xs) (hm : xs = Vj 3 Cu k xs.length) (hb : k + xs.length * 3 ≤ 1099511627776) : Ct Tryz.prog 44 [vxs,.int .i64 ((k : Nat) : Int)] w (fun v _=>v = .int .i64 ((k + 3 * xs.length : Nat) : Int)):=by
 refine Yi Tryz.func44 Z Tryz.ntmps44 Z ?_
 refine Q7 [(0,vxs),(1,.int .i64 ((k : Nat) : Int))] ⟨Z,Z,trivial⟩ ?_
 have E : Ext w w:=Ext.refl w
 refine Qe (Qg [true] Z Z (Qa (Qf Z) Z (Qc (Qe (Qe (Qg [true] Z Z (Qa (Qf Z) Z (Qc (Qw (Yk (fun (xq : Nat × Nat)=>let ⟨i,q⟩:=xq;[(0,vxs),(1,.int .i64 ((q : Nat) : Int)),(4,.int .i64 0),(5,.int .i64 ((i : Nat) : Int))]) (fun (xq : Nat × Nat) w'=>let ⟨i,q⟩:=xq;Ext w w' ∧ w.heap.size ≤ w'.heap.size ∧ i ≤ xs.length ∧ q = k + 3 * i) (fun (xq : Nat × Nat)=>let ⟨i,q⟩:=xq;xs.length - i) (0,k) ⟨Z,Z,Z,Z,trivial⟩ ⟨E,Nat.le_refl _,Nat.zero_le _,(by simp)⟩ ?_))))))))))
 clear E
 rintro ⟨i,q⟩ w1 ⟨E,z1,hi,hq⟩
 refine Q7 [(0,vxs),(1,.int .i64 ((q : Nat) : Int)),(4,.int .i64 0),(5,.int .i64 ((i : Nat) : Int))] ⟨Z,Z,Z,Z,trivial⟩ ?_
 refine Qe (Qe (Qg [true,true,true,true] Z Z (Qa (Qd Z) Z (Qa (Qd Z) Z (Qa (Yb Tryz.underlying38 Z (hxs.ext E).len) Z (Qa (Yf Z Z) Z (Qc (Qr Z (fun hc1=>?_) (fun hc1=>?_)))))))))
 ·have hc1n : i < xs.length:=by first | (have h:=of_decide_eq_true hc1;omega) | (have h:=hc1;simp at h;omega)
  refine Qm (Qe (Qw (Qe (Qe (Qg [true,true,true,true,true,true,true] Z Z (Qa (Qd Z) Z (Qa (Qd Z) Z ?_)))))))
  have hi1 : i < xs.length:=(by first | assumption | omega | (simp only [List.length_set];first | assumption | omega) | (simp only [List.getElem_set_self,List.length_set];first | assumption | omega))
  refine Qa (Qv (i:=i) Cf Z Z (hxs.ext E) hi1) Z (Qa (Qs Tg Z) Z (Qa (Qk Yp Z (((hxs.ext E).get hi1).one 0 Z)) Z (Qa (Qd Z) Z (Qa (Yo Z Z) Z (Qc (Yn rfl (by subst hq;rw [K5 hm (by omega)];simp [Cu]) (Qm (Qe (Qg [true,true,true] Z Z (Qa (Qd Z) Z (Qa (Yd Z Z (Ye (by unfold maxLen;omega))) Z (Qa (Qf Z) Z (Qc (Qe (Qe (Qg [true,true,true,true,true,true,true] Z Z (Qa (Qd Z) Z (Qa (Qd Z) Z (Qa (Qv (i:=i) Cf Z Z (hxs.ext E) hi1) Z (Qa (Qs Tf Z) Z (Qa (Qk Yp Z (((hxs.ext E).get hi1).one 1 Z)) Z (Qa (Qd Z) Z (Qa (Yo Z Z) Z (Qc (Yn rfl (by subst hq;rw [K5 hm (by omega)];simp [Cu]) (Qm (Qe (Qg [true,true,true] Z Z (Qa (Qd Z) Z (Qa (Yd Z Z (Ye (by unfold maxLen;omega))) Z (Qa (Qf Z) Z (Qc (Qe (Qe (Qg [true,true,true,true,true,true,true,true,true] Z Z (Qa (Qd Z) Z (Qa (Qd Z) Z (Qa (Qv (i:=i) Cf Z Z (hxs.ext E) hi1) Z (Qa (Qs Aa Z) Z (Qa (Qk Hb Z (((hxs.ext E).get hi1).one 2 Z)) Z (Qa (Qd Z) Z (Qa (Ha Z Z (by decide) Z) Z (Qa (Xg Z Z) Z (Qa (Uz (Tryz.underlying4) Z Z) Z (Qc (Yn rfl (by subst hq;rw [K5 hm (by omega)];simp [Cu]) (Qm (Qg [true,true,true] Z Z (Qa (Qd Z) Z (Qa (Yd Z Z (Ye (by unfold maxLen;omega))) Z (Qa (Qf Z) Z (Qc (Q5 (Yv (Qg [true,true,true] Z Z (Qa (Qd Z) Z (Qa (Yd Z Z (Ye (by unfold maxLen;omega))) Z (Qa (Qf Z) Z (Qc (Q5 (Yg (i + 1,q + 1 + 1 + 1) (by simp;omega) ⟨Z,Z,Z,Z,trivial⟩ ⟨E,(by omega),(by omega),(by omega)⟩)))))))))))))))))))))))))))))))))))))))))))))))))))))))))))))
 ·have hc1n : ¬ i < xs.length:=by first | (have h:=of_decide_eq_false hc1;omega) | (have h:=hc1;simp at h;omega)
  refine Ym (Q4 (Q2 ?_))
  refine Qe (Qg [true,true] Z Z (Qa (Qd Z) Z (Qa (Qf Z) Z (Qc (Qt (Ql Z Z E ?_))))))
  subst hq;rw [show i = xs.length from by omega]

set_option maxHeartbeats 4000000 in
set_option maxRecDepth 20000 in
theorem markWorkerS (vxs : Value) (lo hi : Nat) (fp : List Nat) (xs : List Worker) (k : Nat) (w : World) (gxs : OwF w lo hi vxs xs fp) (hhi : hi ≤ w.heap.size) (hb : k + 5 * Xr Q8 xs ≤ 1099511627776) : CtR Tryz.prog 36 [vxs,.int .i64 ((k : Nat) : Int)] w lo hi (fun v w'=>v = .int .i64 (((Xj Vk) k xs : Nat) : Int) ∧ OwF w' lo hi vxs ((Xq Vk G7) k xs) fp ∧ Kq w w' fp):=by
 have hxs : OwK w fp w lo hi vxs xs:=⟨gxs,Kq.refl _ _⟩
 have hmx : xs.length ≤ maxLen:=hxs.rd.1.1
 unfold maxLen at hmx
 refine Vq Tryz.func36 Z Tryz.ntmps36 Z ?_
 refine Q7 [(0,vxs),(1,.int .i64 ((k : Nat) : Int))] ⟨Z,Z,trivial⟩ ?_
 have E : ModR w w lo hi:=ModR.refl w lo hi
 refine Qe (Qg [true] Z Z (Qa (Qf Z) Z (Qc (Qe (Qe (Qg [true] Z Z (Qa (Qf Z) Z (Qc (Qw (Yk (fun (xq : Nat × Nat)=>let ⟨i,q⟩:=xq;[(0,vxs),(1,.int .i64 ((q : Nat) : Int)),(4,.int .i64 0),(5,.int .i64 ((i : Nat) : Int))]) (fun (xq : Nat × Nat) w'=>let ⟨i,q⟩:=xq;ModR w w' lo hi ∧ w.heap.size ≤ w'.heap.size ∧ i ≤ xs.length ∧ q = (Xj Vk) k (xs.take i) ∧ OwK w fp w' lo hi vxs ((Xq Vk G7) k (xs.take i) ++ xs.drop i)) (fun (xq : Nat × Nat)=>let ⟨i,q⟩:=xq;xs.length - i) (0,k) ⟨Z,Z,Z,Z,trivial⟩ ⟨E,Nat.le_refl _,Nat.zero_le _,Z,(by simpa [Xq] using hxs)⟩ ?_))))))))))
 clear E hxs
 rintro ⟨i,q⟩ w1 ⟨E,z1,hi0,hq,hxs⟩
 refine Q7 [(0,vxs),(1,.int .i64 ((q : Nat) : Int)),(4,.int .i64 0),(5,.int .i64 ((i : Nat) : Int))] ⟨Z,Z,Z,Z,trivial⟩ ?_
 refine Qe (Qe (Qg [true,true,true,true] Z Z (Qa (Qd Z) Z (Qa (Qd Z) Z (Qa (Yb Tryz.underlying35 Z (OwK.lenE (n:=xs.length) hxs (by simp [K4];omega))) Z (Qa (Yf Z Z) Z (Qc (Qr Z (fun hc1=>?_) (fun hc1=>?_)))))))))
 ·have hlt : i < xs.length:=by have h:=of_decide_eq_true hc1;omega
  rw [Cy hlt] at hxs
  obtain ⟨_,ho1,hrow⟩:=OwK.focus hxs
  obtain ⟨o1,o2,o3,o4,o5,o6,o7,o8,rfl,sp1,hw1,hw2,hw3,hw4,hw5,hw6,hw7,hw8⟩:=Worker.opO ho1
  clear hxs
  have hl0 : ((Xq Vk G7) k (xs.take i)).length = i:=by rw [K4];simp;omega
  have hn0 : i + 1 + (xs.drop (i + 1)).length = xs.length:=by simp;omega
  have hqk:=T6 (k:=k) A3 hlt;rw [← hq] at hqk;unfold Vk at hqk
  have hc1n : i < xs.length:=by first | (have h:=of_decide_eq_true hc1;omega) | (have h:=hc1;simp at h;omega)
  refine Qm (Qe (Qw (Qe (Qg [true,true,true,true,true,true,false,true] Z Z (Qa (Qd Z) Z (Qa (Qd Z) Z (Qa (Qv (i:=i) Uk Z Z (RowK.same1 hrow hl0 hn0) (by simp;omega)) Z (Qa (Qs Vy Z) Z (Qa (Qk Xo Z ((RowK.at hrow hl0).one 0 Z)) Z (Qa (Qd Z) Z (Kh Tryz.call78 Z Z (markRecordS o1 (bl o1) (bh o1) ((xs[i]'hlt).queue) q _ (Own.tight hw1) (by first | omega | (simp only [Qi];omega) | (rw [Qi];done) | (simp only [Qi];done))) Z (fun _ w2 e1 hv=>?_))))))))))))
  obtain ⟨rfl,hw1'⟩:=hv
  have e1c:=ModR.loose e1 (Own.blk hw1)
  replace hw1:=Own.loose hw1' (Own.blk hw1)
  clear hw1'
  replace E:=E.trans e1c (by omega) (by omega);replace hw2:=Own.modRS hw2 e1 sp1.1.1;replace hw3:=Own.modRS hw3 e1 sp1.1.2.1;replace hw4:=Own.modRS hw4 e1 sp1.1.2.2.1;replace hw5:=Own.modRS hw5 e1 sp1.1.2.2.2.1;replace hw6:=Own.modRS hw6 e1 sp1.1.2.2.2.2.1;replace hw7:=Own.modRS hw7 e1 sp1.1.2.2.2.2.2.1;replace hw8:=Own.modRS hw8 e1 sp1.1.2.2.2.2.2.2.1;replace hrow:=RowK.modRS hrow e1 (by simp)
  have z2:=e1c.size
  refine Qa (Qf Z) Z (Qc (Qe (Qg [true,true,true,true,true,true,false,true] Z Z (Qa (Qd Z) Z (Qa (Qd Z) Z (Qa (Qv (i:=i) Uk Z Z (RowK.same1 hrow hl0 hn0) (by simp;omega)) Z (Qa (Qs Tb Z) Z (Qa (Qk Xo Z ((RowK.at hrow hl0).one 1 Z)) Z (Qa (Qd Z) Z (Kh Tryz.call78 Z Z (markRecordS o2 (bl o2) (bh o2) ((xs[i]'hlt).staged) (q + 5 * ((xs[i]'hlt).queue).length) _ (Own.tight hw2) (by first | omega | (simp only [Qi];omega) | (rw [Qi];done) | (simp only [Qi];done))) Z (fun _ w3 e2 hv=>?_)))))))))))
  obtain ⟨rfl,hw2'⟩:=hv
  have e2c:=ModR.loose e2 (Own.blk hw2)
  replace hw2:=Own.loose hw2' (Own.blk hw2)
  clear hw2'
  replace E:=E.trans e2c (by omega) (by omega);replace hw1:=Own.modRS hw1 e2 (sp1.1.1).symm;replace hw3:=Own.modRS hw3 e2 sp1.2.1.1;replace hw4:=Own.modRS hw4 e2 sp1.2.1.2.1;replace hw5:=Own.modRS hw5 e2 sp1.2.1.2.2.1;replace hw6:=Own.modRS hw6 e2 sp1.2.1.2.2.2.1;replace hw7:=Own.modRS hw7 e2 sp1.2.1.2.2.2.2.1;replace hw8:=Own.modRS hw8 e2 sp1.2.1.2.2.2.2.2.1;replace hrow:=RowK.modRS hrow e2 (by simp)
  have z3:=e2c.size
  refine Qa (Qf Z) Z (Qc (Qe (Qg [true,true,true,true,true,true,false,true] Z Z (Qa (Qd Z) Z (Qa (Qd Z) Z (Qa (Qv (i:=i) Uk Z Z (RowK.same1 hrow hl0 hn0) (by simp;omega)) Z (Qa (Qs U4 Z) Z (Qa (Qk Xo Z ((RowK.at hrow hl0).one 2 Z)) Z (Qa (Qd Z) Z (Kh Tryz.call78 Z Z (markRecordS o3 (bl o3) (bh o3) ((xs[i]'hlt).inputs) ((q + 5 * ((xs[i]'hlt).queue).length) + 5 * ((xs[i]'hlt).staged).length) _ (Own.tight hw3) (by first | omega | (simp only [Qi];omega) | (rw [Qi];done) | (simp only [Qi];done))) Z (fun _ w4 e3 hv=>?_)))))))))))
  obtain ⟨rfl,hw3'⟩:=hv
  have e3c:=ModR.loose e3 (Own.blk hw3)
  replace hw3:=Own.loose hw3' (Own.blk hw3)
  clear hw3'
  replace E:=E.trans e3c (by omega) (by omega);replace hw1:=Own.modRS hw1 e3 (sp1.1.2.1).symm;replace hw2:=Own.modRS hw2 e3 (sp1.2.1.1).symm;replace hw4:=Own.modRS hw4 e3 sp1.2.2.1.1;replace hw5:=Own.modRS hw5 e3 sp1.2.2.1.2.1;replace hw6:=Own.modRS hw6 e3 sp1.2.2.1.2.2.1;replace hw7:=Own.modRS hw7 e3 sp1.2.2.1.2.2.2.1;replace hw8:=Own.modRS hw8 e3 sp1.2.2.1.2.2.2.2.1;replace hrow:=RowK.modRS hrow e3 (by simp)
  have z4:=e3c.size
  refine Qa (Qf Z) Z (Qc (Qe (Qg [true,true,true,true,true,true,false,true] Z Z (Qa (Qd Z) Z (Qa (Qd Z) Z (Qa (Qv (i:=i) Uk Z Z (RowK.same1 hrow hl0 hn0) (by simp;omega)) Z (Qa (Qs Ta Z) Z (Qa (Qk sc75 Z ((RowK.at hrow hl0).one 3 Z)) Z (Qa (Qd Z) Z (Kh Tryz.call79 Z Z (markCellS o4 (bl o4) (bh o4) ((xs[i]'hlt).cells) (((q + 5 * ((xs[i]'hlt).queue).length) + 5 * ((xs[i]'hlt).staged).length) + 5 * ((xs[i]'hlt).inputs).length) _ (Own.tight hw4) (by first | omega | (simp only [Qi];omega) | (rw [Qi];done) | (simp only [Qi];done))) Z (fun _ w5 e4 hv=>?_)))))))))))
  obtain ⟨rfl,hw4'⟩:=hv
  have e4c:=ModR.loose e4 (Own.blk hw4)
  replace hw4:=Own.loose hw4' (Own.blk hw4)
  clear hw4'
  replace E:=E.trans e4c (by omega) (by omega);replace hw1:=Own.modRS hw1 e4 (sp1.1.2.2.1).symm;replace hw2:=Own.modRS hw2 e4 (sp1.2.1.2.1).symm;replace hw3:=Own.modRS hw3 e4 (sp1.2.2.1.1).symm;replace hw5:=Own.modRS hw5 e4 sp1.2.2.2.1.1;replace hw6:=Own.modRS hw6 e4 sp1.2.2.2.1.2.1;replace hw7:=Own.modRS hw7 e4 sp1.2.2.2.1.2.2.1;replace hw8:=Own.modRS hw8 e4 sp1.2.2.2.1.2.2.2.1;replace hrow:=RowK.modRS hrow e4 (by simp)
  have z5:=e4c.size
  refine Qa (Qf Z) Z (Qc (Qe (Qg [true,true,true,true,true,true,false,true] Z Z (Qa (Qd Z) Z (Qa (Qd Z) Z (Qa (Qv (i:=i) Uk Z Z (RowK.same1 hrow hl0 hn0) (by simp;omega)) Z (Qa (Qs U3 Z) Z (Qa (Qk Ks Z ((RowK.at hrow hl0).one 4 Z)) Z (Qa (Qd Z) Z (Kh Tryz.call80 Z Z (markIntS o5 (bl o5) (bh o5) ((xs[i]'hlt).sums) ((((q + 5 * ((xs[i]'hlt).queue).length) + 5 * ((xs[i]'hlt).staged).length) + 5 * ((xs[i]'hlt).inputs).length) + 4 * ((xs[i]'hlt).cells).length) _ (Own.tight hw5) (by first | omega | (simp only [Qi];omega) | (rw [Qi];done) | (simp only [Qi];done))) Z (fun _ w6 e5 hv=>?_)))))))))))
  obtain ⟨rfl,hw5'⟩:=hv
  have e5c:=ModR.loose e5 (Own.blk hw5)
  replace hw5:=Own.loose hw5' (Own.blk hw5)
  clear hw5'
  replace E:=E.trans e5c (by omega) (by omega);replace hw1:=Own.modRS hw1 e5 (sp1.1.2.2.2.1).symm;replace hw2:=Own.modRS hw2 e5 (sp1.2.1.2.2.1).symm;replace hw3:=Own.modRS hw3 e5 (sp1.2.2.1.2.1).symm;replace hw4:=Own.modRS hw4 e5 (sp1.2.2.2.1.1).symm;replace hw6:=Own.modRS hw6 e5 sp1.2.2.2.2.1.1;replace hw7:=Own.modRS hw7 e5 sp1.2.2.2.2.1.2.1;replace hw8:=Own.modRS hw8 e5 sp1.2.2.2.2.1.2.2.1;replace hrow:=RowK.modRS hrow e5 (by simp)
  have z6:=e5c.size
  refine Qa (Qf Z) Z (Qc (Qe (Qg [true,true,true,true,true,true,false,true] Z Z (Qa (Qd Z) Z (Qa (Qd Z) Z (Qa (Qv (i:=i) Uk Z Z (RowK.same1 hrow hl0 hn0) (by simp;omega)) Z (Qa (Qs Gb Z) Z (Qa (Qk V6 Z ((RowK.at hrow hl0).one 5 Z)) Z (Qa (Qd Z) Z (Kh Tryz.call81 Z Z (markBoolS o6 (bl o6) (bh o6) ((xs[i]'hlt).black) (((((q + 5 * ((xs[i]'hlt).queue).length) + 5 * ((xs[i]'hlt).staged).length) + 5 * ((xs[i]'hlt).inputs).length) + 4 * ((xs[i]'hlt).cells).length) + 1 * ((xs[i]'hlt).sums).length) _ (Own.tight hw6) (by first | omega | (simp only [Qi];omega) | (rw [Qi];done) | (simp only [Qi];done))) Z (fun _ w7 e6 hv=>?_)))))))))))
  obtain ⟨rfl,hw6'⟩:=hv
  have e6c:=ModR.loose e6 (Own.blk hw6)
  replace hw6:=Own.loose hw6' (Own.blk hw6)
  clear hw6'
  replace E:=E.trans e6c (by omega) (by omega);replace hw1:=Own.modRS hw1 e6 (sp1.1.2.2.2.2.1).symm;replace hw2:=Own.modRS hw2 e6 (sp1.2.1.2.2.2.1).symm;replace hw3:=Own.modRS hw3 e6 (sp1.2.2.1.2.2.1).symm;replace hw4:=Own.modRS hw4 e6 (sp1.2.2.2.1.2.1).symm;replace hw5:=Own.modRS hw5 e6 (sp1.2.2.2.2.1.1).symm;replace hw7:=Own.modRS hw7 e6 sp1.2.2.2.2.2.1.1;replace hw8:=Own.modRS hw8 e6 sp1.2.2.2.2.2.1.2.1;replace hrow:=RowK.modRS hrow e6 (by simp)
  have z7:=e6c.size
  refine Qa (Qf Z) Z (Qc (Qe (Qg [true,true,true,true,true,true,false,true] Z Z (Qa (Qd Z) Z (Qa (Qd Z) Z (Qa (Qv (i:=i) Uk Z Z (RowK.same1 hrow hl0 hn0) (by simp;omega)) Z (Qa (Qs H9 Z) Z (Qa (Qk V6 Z ((RowK.at hrow hl0).one 6 Z)) Z (Qa (Qd Z) Z (Kh Tryz.call81 Z Z (markBoolS o7 (bl o7) (bh o7) ((xs[i]'hlt).caps) ((((((q + 5 * ((xs[i]'hlt).queue).length) + 5 * ((xs[i]'hlt).staged).length) + 5 * ((xs[i]'hlt).inputs).length) + 4 * ((xs[i]'hlt).cells).length) + 1 * ((xs[i]'hlt).sums).length) + 1 * ((xs[i]'hlt).black).length) _ (Own.tight hw7) (by first | omega | (simp only [Qi];omega) | (rw [Qi];done) | (simp only [Qi];done))) Z (fun _ w8 e7 hv=>?_)))))))))))
  obtain ⟨rfl,hw7'⟩:=hv
  have e7c:=ModR.loose e7 (Own.blk hw7)
  replace hw7:=Own.loose hw7' (Own.blk hw7)
  clear hw7'
  replace E:=E.trans e7c (by omega) (by omega);replace hw1:=Own.modRS hw1 e7 (sp1.1.2.2.2.2.2.1).symm;replace hw2:=Own.modRS hw2 e7 (sp1.2.1.2.2.2.2.1).symm;replace hw3:=Own.modRS hw3 e7 (sp1.2.2.1.2.2.2.1).symm;replace hw4:=Own.modRS hw4 e7 (sp1.2.2.2.1.2.2.1).symm;replace hw5:=Own.modRS hw5 e7 (sp1.2.2.2.2.1.2.1).symm;replace hw6:=Own.modRS hw6 e7 (sp1.2.2.2.2.2.1.1).symm;replace hw8:=Own.modRS hw8 e7 sp1.2.2.2.2.2.2.1.1;replace hrow:=RowK.modRS hrow e7 (by simp)
  have z8:=e7c.size
  refine Qa (Qf Z) Z (Qc (Qg [true,true,true,true,true,true,false,true] Z Z (Qa (Qd Z) Z (Qa (Qd Z) Z (Qa (Qv (i:=i) Uk Z Z (RowK.same1 hrow hl0 hn0) (by simp;omega)) Z (Qa (Qs Vx Z) Z (Qa (Qk Ah Z ((RowK.at hrow hl0).one 7 Z)) Z (Qa (Qd Z) Z (Kh Tryz.call82 Z Z (markDoneS o8 (bl o8) (bh o8) ((xs[i]'hlt).dones) (((((((q + 5 * ((xs[i]'hlt).queue).length) + 5 * ((xs[i]'hlt).staged).length) + 5 * ((xs[i]'hlt).inputs).length) + 4 * ((xs[i]'hlt).cells).length) + 1 * ((xs[i]'hlt).sums).length) + 1 * ((xs[i]'hlt).black).length) + 1 * ((xs[i]'hlt).caps).length) _ (Own.tight hw8) (by first | omega | (simp only [Qi];omega) | (rw [Qi];done) | (simp only [Qi];done))) Z (fun _ w9 e8 hv=>?_))))))))))
  obtain ⟨rfl,hw8'⟩:=hv
  have e8c:=ModR.loose e8 (Own.blk hw8)
  replace hw8:=Own.loose hw8' (Own.blk hw8)
  clear hw8'
  replace E:=E.trans e8c (by omega) (by omega);replace hw1:=Own.modRS hw1 e8 (sp1.1.2.2.2.2.2.2.1).symm;replace hw2:=Own.modRS hw2 e8 (sp1.2.1.2.2.2.2.2.1).symm;replace hw3:=Own.modRS hw3 e8 (sp1.2.2.1.2.2.2.2.1).symm;replace hw4:=Own.modRS hw4 e8 (sp1.2.2.2.1.2.2.2.1).symm;replace hw5:=Own.modRS hw5 e8 (sp1.2.2.2.2.1.2.2.1).symm;replace hw6:=Own.modRS hw6 e8 (sp1.2.2.2.2.2.1.2.1).symm;replace hw7:=Own.modRS hw7 e8 (sp1.2.2.2.2.2.2.1.1).symm;replace hrow:=RowK.modRS hrow e8 (by simp)
  have z9:=e8c.size
  refine Qa (Qf Z) Z (Qc (Q5 (Yv (Qg [true,true,true] Z Z (Qa (Qd Z) Z (Qa (Yd Z Z (Ye (by unfold maxLen;omega))) Z (Qa (Qf Z) Z (Qc ?_))))))))
  have hxs:=RowK.close hrow (Worker.mkO (⟨Vj 5 Kj q ((xs[i]'hlt).queue).length,Vj 5 Kj (q + 5 * ((xs[i]'hlt).queue).length) ((xs[i]'hlt).staged).length,Vj 5 Kj ((q + 5 * ((xs[i]'hlt).queue).length) + 5 * ((xs[i]'hlt).staged).length) ((xs[i]'hlt).inputs).length,Vj 4 H4 (((q + 5 * ((xs[i]'hlt).queue).length) + 5 * ((xs[i]'hlt).staged).length) + 5 * ((xs[i]'hlt).inputs).length) ((xs[i]'hlt).cells).length,Vj 1 C6 ((((q + 5 * ((xs[i]'hlt).queue).length) + 5 * ((xs[i]'hlt).staged).length) + 5 * ((xs[i]'hlt).inputs).length) + 4 * ((xs[i]'hlt).cells).length) ((xs[i]'hlt).sums).length,Vj 1 Ty (((((q + 5 * ((xs[i]'hlt).queue).length) + 5 * ((xs[i]'hlt).staged).length) + 5 * ((xs[i]'hlt).inputs).length) + 4 * ((xs[i]'hlt).cells).length) + 1 * ((xs[i]'hlt).sums).length) ((xs[i]'hlt).black).length,Vj 1 Ty ((((((q + 5 * ((xs[i]'hlt).queue).length) + 5 * ((xs[i]'hlt).staged).length) + 5 * ((xs[i]'hlt).inputs).length) + 4 * ((xs[i]'hlt).cells).length) + 1 * ((xs[i]'hlt).sums).length) + 1 * ((xs[i]'hlt).black).length) ((xs[i]'hlt).caps).length,Vj 2 Cv (((((((q + 5 * ((xs[i]'hlt).queue).length) + 5 * ((xs[i]'hlt).staged).length) + 5 * ((xs[i]'hlt).inputs).length) + 4 * ((xs[i]'hlt).cells).length) + 1 * ((xs[i]'hlt).sums).length) + 1 * ((xs[i]'hlt).black).length) + 1 * ((xs[i]'hlt).caps).length) ((xs[i]'hlt).dones).length⟩ : Worker) sp1 (Own.widen hw1 (by omega) (by omega)) (Own.widen hw2 (by omega) (by omega)) (Own.widen hw3 (by omega) (by omega)) (Own.widen hw4 (by omega) (by omega)) (Own.widen hw5 (by omega) (by omega)) (Own.widen hw6 (by omega) (by omega)) (Own.widen hw7 (by omega) (by omega)) (Own.widen hw8 (by omega) (by omega)))
  refine Q5 (Yg (i + 1,(((((((q + 5 * ((xs[i]'hlt).queue).length) + 5 * ((xs[i]'hlt).staged).length) + 5 * ((xs[i]'hlt).inputs).length) + 4 * ((xs[i]'hlt).cells).length) + 1 * ((xs[i]'hlt).sums).length) + 1 * ((xs[i]'hlt).black).length) + 1 * ((xs[i]'hlt).caps).length) + 2 * ((xs[i]'hlt).dones).length) (by simp;omega) ⟨Z,Z,Z,Z,trivial⟩ ⟨E,(by omega),(by omega),(by rw [Vv hlt,← hq];rfl),(by rw [H5 hlt,← hq];exact hxs)⟩)
 ·have hc1n : ¬ i < xs.length:=by first | (have h:=of_decide_eq_false hc1;omega) | (have h:=hc1;simp at h;omega)
  refine Ym (Q4 (Q2 ?_))
  refine Qe (Qg [true,true] Z Z (Qa (Qd Z) Z (Qa (Qf Z) Z (Qc (Qt (Ql Z Z E ?_))))))
  have hi9 : xs.length ≤ i:=by have h:=of_decide_eq_false hc1;omega
  rw [List.take_of_length_le hi9] at hq hxs
  rw [List.drop_of_length_le hi9,List.append_nil] at hxs
  exact ⟨by rw [hq],hxs.1,hxs.2⟩

set_option maxHeartbeats 4000000 in
set_option maxRecDepth 20000 in
theorem markLinkS (vxs : Value) (lo hi : Nat) (fp : List Nat) (xs : List Link) (k : Nat) (w : World) (gxs : OwF w lo hi vxs xs fp) (hhi : hi ≤ w.heap.size) (hb : k + 5 * Xr Y0 xs ≤ 1099511627776) : CtR Tryz.prog 37 [vxs,.int .i64 ((k : Nat) : Int)] w lo hi (fun v w'=>v = .int .i64 (((Xj Ux) k xs : Nat) : Int) ∧ OwF w' lo hi vxs ((Xq Ux Us) k xs) fp ∧ Kq w w' fp):=by
 have hxs : OwK w fp w lo hi vxs xs:=⟨gxs,Kq.refl _ _⟩
 have hmx : xs.length ≤ maxLen:=hxs.rd.1.1
 unfold maxLen at hmx
 refine Vq Tryz.func37 Z Tryz.ntmps37 Z ?_
 refine Q7 [(0,vxs),(1,.int .i64 ((k : Nat) : Int))] ⟨Z,Z,trivial⟩ ?_
 have E : ModR w w lo hi:=ModR.refl w lo hi
 refine Qe (Qg [true] Z Z (Qa (Qf Z) Z (Qc (Qe (Qe (Qg [true] Z Z (Qa (Qf Z) Z (Qc (Qw (Yk (fun (xq : Nat × Nat)=>let ⟨i,q⟩:=xq;[(0,vxs),(1,.int .i64 ((q : Nat) : Int)),(4,.int .i64 0),(5,.int .i64 ((i : Nat) : Int))]) (fun (xq : Nat × Nat) w'=>let ⟨i,q⟩:=xq;ModR w w' lo hi ∧ w.heap.size ≤ w'.heap.size ∧ i ≤ xs.length ∧ q = (Xj Ux) k (xs.take i) ∧ OwK w fp w' lo hi vxs ((Xq Ux Us) k (xs.take i) ++ xs.drop i)) (fun (xq : Nat × Nat)=>let ⟨i,q⟩:=xq;xs.length - i) (0,k) ⟨Z,Z,Z,Z,trivial⟩ ⟨E,Nat.le_refl _,Nat.zero_le _,Z,(by simpa [Xq] using hxs)⟩ ?_))))))))))
 clear E hxs
 rintro ⟨i,q⟩ w1 ⟨E,z1,hi0,hq,hxs⟩
 refine Q7 [(0,vxs),(1,.int .i64 ((q : Nat) : Int)),(4,.int .i64 0),(5,.int .i64 ((i : Nat) : Int))] ⟨Z,Z,Z,Z,trivial⟩ ?_
 refine Qe (Qe (Qg [true,true,true,true] Z Z (Qa (Qd Z) Z (Qa (Qd Z) Z (Qa (Yb Tryz.underlying36 Z (OwK.lenE (n:=xs.length) hxs (by simp [K4];omega))) Z (Qa (Yf Z Z) Z (Qc (Qr Z (fun hc1=>?_) (fun hc1=>?_)))))))))
 ·have hlt : i < xs.length:=by have h:=of_decide_eq_true hc1;omega
  rw [Cy hlt] at hxs
  obtain ⟨_,ho1,hrow⟩:=OwK.focus hxs
  obtain ⟨o1,rfl,sp1,hw1⟩:=Link.opO ho1
  clear hxs
  have hl0 : ((Xq Ux Us) k (xs.take i)).length = i:=by rw [K4];simp;omega
  have hn0 : i + 1 + (xs.drop (i + 1)).length = xs.length:=by simp;omega
  have hqk:=T6 (k:=k) C4 hlt;rw [← hq] at hqk;unfold Ux at hqk
  have hc1n : i < xs.length:=by first | (have h:=of_decide_eq_true hc1;omega) | (have h:=hc1;simp at h;omega)
  refine Qm (Qe (Qw (Qe (Qg [true,true,true,true,true,false] Z Z (Qa (Qd Z) Z (Qa (Qd Z) Z (Qa (Qd Z) Z (Qa (Qv (i:=i) Vb Z Z (RowK.same1 hrow hl0 hn0) (by simp;omega)) Z (Qa (Qs Vd Z) Z ?_)))))))))
  have hq1:=RowK.sep hrow (u:=o1) (by simp)
  have hqb:=RowK.blk hrow
  refine Ui (i:=i) (f:=0) (cs':=[.int .i64 ((q : Nat) : Int),o1,.int .i64 ((xs[i]'hlt).credits),.int .i64 ((xs[i]'hlt).back),.int .i64 ((xs[i]'hlt).sent),.int .i64 ((xs[i]'hlt).got)]) Yp Z Z Z Z hrow hl0 (by decide) Z Z (fun w2 m1 hrow'=>?_)
  replace hrow:=hrow'
  replace E:=E.mod m1 (fun g hg=>by have:=hqb g hg;omega);replace hw1:=Own.modS hw1 m1 hq1
  have z2:=m1.size
  clear hqb hq1
  refine Qc (Qe (Qg [true,true,true] Z Z (Qa (Qd Z) Z (Qa (Yd Z Z (Ye (by unfold maxLen;omega))) Z (Qa (Qf Z) Z (Qc (Qe (Qg [true,true,true,true,true,true,false,true] Z Z (Qa (Qd Z) Z (Qa (Qd Z) Z (Qa (Qv (i:=i) Vb Z Z (RowK.same1 hrow hl0 hn0) (by simp;omega)) Z (Qa (Qs X2 Z) Z (Qa (Qk Xo Z ((RowK.at hrow hl0).one 1 Z)) Z (Qa (Qd Z) Z (Kh Tryz.call78 Z Z (markRecordS o1 (bl o1) (bh o1) ((xs[i]'hlt).queue) (q + 1) _ (Own.tight hw1) (by first | omega | (simp only [Qi];omega) | (rw [Qi];done) | (simp only [Qi];done))) Z (fun _ w3 e1 hv=>?_))))))))))))))))
  obtain ⟨rfl,hw1'⟩:=hv
  have e1c:=ModR.loose e1 (Own.blk hw1)
  replace hw1:=Own.loose hw1' (Own.blk hw1)
  clear hw1'
  replace E:=E.trans e1c (by omega) (by omega);replace hrow:=RowK.modRS hrow e1 (by simp)
  have z3:=e1c.size
  refine Qa (Qf Z) Z (Qc (Qe (Qg [true,true,true,true,true,false] Z Z (Qa (Qd Z) Z (Qa (Qd Z) Z (Qa (Qd Z) Z (Qa (Qv (i:=i) Vb Z Z (RowK.same1 hrow hl0 hn0) (by simp;omega)) Z (Qa (Qs Te Z) Z ?_))))))))
  have hq2:=RowK.sep hrow (u:=o1) (by simp)
  have hqb:=RowK.blk hrow
  refine Ui (i:=i) (f:=2) (cs':=[.int .i64 ((q : Nat) : Int),o1,.int .i64 (((q + 1) + 5 * ((xs[i]'hlt).queue).length : Nat) : Int),.int .i64 ((xs[i]'hlt).back),.int .i64 ((xs[i]'hlt).sent),.int .i64 ((xs[i]'hlt).got)]) Yp Z Z Z Z hrow hl0 (by decide) Z Z (fun w4 m2 hrow'=>?_)
  replace hrow:=hrow'
  replace E:=E.mod m2 (fun g hg=>by have:=hqb g hg;omega);replace hw1:=Own.modS hw1 m2 hq2
  have z4:=m2.size
  clear hqb hq2
  refine Qc (Qe (Qg [true,true,true] Z Z (Qa (Qd Z) Z (Qa (Yd Z Z (Ye (by unfold maxLen;omega))) Z (Qa (Qf Z) Z (Qc (Qe (Qg [true,true,true,true,true,false] Z Z (Qa (Qd Z) Z (Qa (Qd Z) Z (Qa (Qd Z) Z (Qa (Qv (i:=i) Vb Z Z (RowK.same1 hrow hl0 hn0) (by simp;omega)) Z (Qa (Qs V0 Z) Z ?_)))))))))))))
  have hq3:=RowK.sep hrow (u:=o1) (by simp)
  have hqb:=RowK.blk hrow
  refine Ui (i:=i) (f:=3) (cs':=[.int .i64 ((q : Nat) : Int),o1,.int .i64 (((q + 1) + 5 * ((xs[i]'hlt).queue).length : Nat) : Int),.int .i64 (((q + 1) + 5 * ((xs[i]'hlt).queue).length + 1 : Nat) : Int),.int .i64 ((xs[i]'hlt).sent),.int .i64 ((xs[i]'hlt).got)]) Yp Z Z Z Z hrow hl0 (by decide) Z Z (fun w5 m3 hrow'=>?_)
  replace hrow:=hrow'
  replace E:=E.mod m3 (fun g hg=>by have:=hqb g hg;omega);replace hw1:=Own.modS hw1 m3 hq3
  have z5:=m3.size
  clear hqb hq3
  refine Qc (Qe (Qg [true,true,true] Z Z (Qa (Qd Z) Z (Qa (Yd Z Z (Ye (by unfold maxLen;omega))) Z (Qa (Qf Z) Z (Qc (Qe (Qg [true,true,true,true,true,false] Z Z (Qa (Qd Z) Z (Qa (Qd Z) Z (Qa (Qd Z) Z (Qa (Qv (i:=i) Vb Z Z (RowK.same1 hrow hl0 hn0) (by simp;omega)) Z (Qa (Qs Td Z) Z ?_)))))))))))))
  have hq4:=RowK.sep hrow (u:=o1) (by simp)
  have hqb:=RowK.blk hrow
  refine Ui (i:=i) (f:=4) (cs':=[.int .i64 ((q : Nat) : Int),o1,.int .i64 (((q + 1) + 5 * ((xs[i]'hlt).queue).length : Nat) : Int),.int .i64 (((q + 1) + 5 * ((xs[i]'hlt).queue).length + 1 : Nat) : Int),.int .i64 (((q + 1) + 5 * ((xs[i]'hlt).queue).length + 1 + 1 : Nat) : Int),.int .i64 ((xs[i]'hlt).got)]) Yp Z Z Z Z hrow hl0 (by decide) Z Z (fun w6 m4 hrow'=>?_)
  replace hrow:=hrow'
  replace E:=E.mod m4 (fun g hg=>by have:=hqb g hg;omega);replace hw1:=Own.modS hw1 m4 hq4
  have z6:=m4.size
  clear hqb hq4
  refine Qc (Qe (Qg [true,true,true] Z Z (Qa (Qd Z) Z (Qa (Yd Z Z (Ye (by unfold maxLen;omega))) Z (Qa (Qf Z) Z (Qc (Qe (Qg [true,true,true,true,true,false] Z Z (Qa (Qd Z) Z (Qa (Qd Z) Z (Qa (Qd Z) Z (Qa (Qv (i:=i) Vb Z Z (RowK.same1 hrow hl0 hn0) (by simp;omega)) Z (Qa (Qs Vz Z) Z ?_)))))))))))))
  have hq5:=RowK.sep hrow (u:=o1) (by simp)
  have hqb:=RowK.blk hrow
  refine Ui (i:=i) (f:=5) (cs':=[.int .i64 ((q : Nat) : Int),o1,.int .i64 (((q + 1) + 5 * ((xs[i]'hlt).queue).length : Nat) : Int),.int .i64 (((q + 1) + 5 * ((xs[i]'hlt).queue).length + 1 : Nat) : Int),.int .i64 (((q + 1) + 5 * ((xs[i]'hlt).queue).length + 1 + 1 : Nat) : Int),.int .i64 (((q + 1) + 5 * ((xs[i]'hlt).queue).length + 1 + 1 + 1 : Nat) : Int)]) Yp Z Z Z Z hrow hl0 (by decide) Z Z (fun w7 m5 hrow'=>?_)
  replace hrow:=hrow'
  replace E:=E.mod m5 (fun g hg=>by have:=hqb g hg;omega);replace hw1:=Own.modS hw1 m5 hq5
  have z7:=m5.size
  clear hqb hq5
  refine Qc (Qg [true,true,true] Z Z (Qa (Qd Z) Z (Qa (Yd Z Z (Ye (by unfold maxLen;omega))) Z (Qa (Qf Z) Z (Qc (Q5 (Yv (Qg [true,true,true] Z Z (Qa (Qd Z) Z (Qa (Yd Z Z (Ye (by unfold maxLen;omega))) Z (Qa (Qf Z) Z (Qc ?_))))))))))))
  have hxs:=RowK.close hrow (Link.mkO (⟨((q : Nat) : Int),Vj 5 Kj (q + 1) ((xs[i]'hlt).queue).length,(((q + 1) + 5 * ((xs[i]'hlt).queue).length : Nat) : Int),(((q + 1) + 5 * ((xs[i]'hlt).queue).length + 1 : Nat) : Int),(((q + 1) + 5 * ((xs[i]'hlt).queue).length + 1 + 1 : Nat) : Int),(((q + 1) + 5 * ((xs[i]'hlt).queue).length + 1 + 1 + 1 : Nat) : Int)⟩ : Link) sp1 (Own.widen hw1 (by omega) (by omega)))
  refine Q5 (Yg (i + 1,(q + 1) + 5 * ((xs[i]'hlt).queue).length + 1 + 1 + 1 + 1) (by simp;omega) ⟨Z,Z,Z,Z,trivial⟩ ⟨E,(by omega),(by omega),(by rw [Vv hlt,← hq];rfl),(by rw [H5 hlt,← hq];exact hxs)⟩)
 ·have hc1n : ¬ i < xs.length:=by first | (have h:=of_decide_eq_false hc1;omega) | (have h:=hc1;simp at h;omega)
  refine Ym (Q4 (Q2 ?_))
  refine Qe (Qg [true,true] Z Z (Qa (Qd Z) Z (Qa (Qf Z) Z (Qc (Qt (Ql Z Z E ?_))))))
  have hi9 : xs.length ≤ i:=by have h:=of_decide_eq_false hc1;omega
  rw [List.take_of_length_le hi9] at hq hxs
  rw [List.drop_of_length_le hi9,List.append_nil] at hxs
  exact ⟨by rw [hq],hxs.1,hxs.2⟩

set_option maxRecDepth 20000 in
theorem markCluster (o1x o2x o3x o4x o5x : Value) (lo hi : Nat) (x : Cluster) (k : Nat) (w : World) (hx : OwC w lo hi o1x o2x o3x o4x o5x x) (hhi : hi ≤ w.heap.size) (hb : k + 5 * Ya x ≤ 1099511627776) : CtR Tryz.prog 10 [.agg [o1x,.int .i64 x.graph.workers,.int .i64 x.graph.cap,o2x,o3x,o4x,o5x].toArray,.int .i64 ((k : Nat) : Int)] w lo hi (fun v w'=>v = .int .i64 ((Uy k x : Nat) : Int) ∧ OwC w' lo hi o1x o2x o3x o4x o5x (K6 k x)):=by
 unfold Ya Y7 at hb
 have b1:=@G6 _ _ _ 4 C3 k x.graph.nodes
 have b2:=@G6 _ _ _ 5 A3 (Xj X0 k x.graph.nodes) x.workers
 have b3:=@G6 _ _ _ 5 C4 (Xj Vk (Xj X0 k x.graph.nodes) x.workers) x.links
 refine Vq Tryz.func10 Z Tryz.ntmps10 Z ?_
 obtain ⟨f1,f2,f3,hw1,hw2,hw3,hw4,hw5,sp1⟩:=hx
 refine Q7 [(0,.agg [o1x,.int .i64 x.graph.workers,.int .i64 x.graph.cap,o2x,o3x,o4x,o5x].toArray),(1,.int .i64 ((k : Nat) : Int))] ⟨Z,Z,trivial⟩ ?_
 have E : ModR w w lo hi:=ModR.refl w lo hi
 refine Qe (Qg [false,true] Z Z (Yz Z Z (fun b1 w1 e1 s1 h1=>?_)))
 have g_b1 : w.heap.size ≤ b1:=by have:=E.size;omega
 have y_b1:=h1.lt
 replace E:=E.ext e1;replace hw1:=hw1.ext e1;replace hw2:=hw2.ext e1;replace hw3:=hw3.ext e1;replace hw4:=hw4.ext e1;replace hw5:=hw5.ext e1
 have z1:=e1.size
 refine Qa (Qf Z) Z (Qc (Qe (Qg [true,true,true,false,true] Z Z (Qa (Qb Ul Z) Z (Qa (Qy Uh Z (h1.part 0 [o1x,.int .i64 x.graph.workers,.int .i64 x.graph.cap] Z) Z) Z (Qa (Qd Z) Z (Kh Tryz.call35 Z Z (markGraph o1x lo hi f1 x.graph k _ hw1 (by omega) (by unfold Y7;omega)) Z (fun _ w2 e2 hv=>?_))))))))
 obtain ⟨rfl,hw1',kq1⟩:=hv
 replace hw1:=hw1'
 replace E:=E.trans e2 (by omega) (by omega);replace hw2:=OwF.kp hw2 (Kq.kp kq1 (sp1.1.1).symm);replace hw3:=OwF.kp hw3 (Kq.kp kq1 (sp1.1.2.1).symm);replace hw4:=Own.kp hw4 (Kq.kp kq1 (sp1.1.2.2.1).symm);replace hw5:=Own.kp hw5 (Kq.kp kq1 (sp1.1.2.2.2.1).symm);replace h1:=h1.modR e2 (by omega)
 have z2:=e2.size
 refine Qa (Qf Z) Z (Qc (Qe (Qg [true,true,true,false,true] Z Z (Qa (Qb X3 Z) Z (Qa (Qk Vr Z (h1.one 3 Z)) Z (Qa (Qd Z) Z (Kh Tryz.call36 Z Z (markWorkerS o2x lo hi f2 x.workers (Xj X0 k x.graph.nodes) _ hw2 (by omega) (by omega)) Z (fun _ w3 e3 hv=>?_))))))))
 obtain ⟨rfl,hw2',kq2⟩:=hv
 replace hw2:=hw2'
 replace E:=E.trans e3 (by omega) (by omega);replace hw1:=OwF.kp hw1 (Kq.kp kq2 sp1.1.1);replace hw3:=OwF.kp hw3 (Kq.kp kq2 (sp1.2.1.1).symm);replace hw4:=Own.kp hw4 (Kq.kp kq2 (sp1.2.1.2.1).symm);replace hw5:=Own.kp hw5 (Kq.kp kq2 (sp1.2.1.2.2.1).symm);replace h1:=h1.modR e3 (by omega)
 have z3:=e3.size
 refine Qa (Qf Z) Z (Qc (Qe (Qg [true,true,true,false,true] Z Z (Qa (Qb Ki Z) Z (Qa (Qk V7 Z (h1.one 4 Z)) Z (Qa (Qd Z) Z (Kh Tryz.call37 Z Z (markLinkS o3x lo hi f3 x.links ((Xj Vk) (Xj X0 k x.graph.nodes) x.workers) _ hw3 (by omega) (by omega)) Z (fun _ w4 e4 hv=>?_))))))))
 obtain ⟨rfl,hw3',kq3⟩:=hv
 replace hw3:=hw3'
 replace E:=E.trans e4 (by omega) (by omega);replace hw1:=OwF.kp hw1 (Kq.kp kq3 sp1.1.2.1);replace hw2:=OwF.kp hw2 (Kq.kp kq3 sp1.2.1.1);replace hw4:=Own.kp hw4 (Kq.kp kq3 (sp1.2.2.1.1).symm);replace hw5:=Own.kp hw5 (Kq.kp kq3 (sp1.2.2.1.2.1).symm);replace h1:=h1.modR e4 (by omega)
 have z4:=e4.size
 refine Qa (Qf Z) Z (Qc (Qe (Qg [true,true,true,false,true] Z Z (Qa (Qb U5 Z) Z (Qa (Qk Cg Z (h1.one 5 Z)) Z (Qa (Qd Z) Z (Kh Tryz.call38 Z Z (markTokenS o4x (bl o4x) (bh o4x) x.tokens ((Xj Ux) ((Xj Vk) (Xj X0 k x.graph.nodes) x.workers) x.links) _ (Own.tight hw4) (by omega)) Z (fun _ w5 e5 hv=>?_))))))))
 obtain ⟨rfl,hw4'⟩:=hv
 have e5c:=ModR.loose e5 (Own.blk hw4)
 replace hw4:=Own.loose hw4' (Own.blk hw4)
 clear hw4'
 have kq4:=ModR.kq e5
 replace E:=E.trans e5c (by omega) (by omega);replace hw1:=OwF.kp hw1 (Kq.kp kq4 sp1.1.2.2.1);replace hw2:=OwF.kp hw2 (Kq.kp kq4 sp1.2.1.2.1);replace hw3:=OwF.kp hw3 (Kq.kp kq4 sp1.2.2.1.1);replace hw5:=Own.kp hw5 (Kq.kp kq4 (sp1.2.2.2.1.1).symm);replace h1:=h1.modR e5c (by omega)
 have z5:=e5c.size
 refine Qa (Qf Z) Z (Qc (Qe (Qg [true,true,true,false,true] Z Z (Qa (Qb Gz Z) Z (Qa (Qk Bi Z (h1.one 6 Z)) Z (Qa (Qd Z) Z (Kh Tryz.call39 Z Z (markNewsS o5x (bl o5x) (bh o5x) x.news (((Xj Ux) ((Xj Vk) (Xj X0 k x.graph.nodes) x.workers) x.links) + 5 * x.tokens.length) _ (Own.tight hw5) (by omega)) Z (fun _ w6 e6 hv=>?_))))))))
 obtain ⟨rfl,hw5'⟩:=hv
 have e6c:=ModR.loose e6 (Own.blk hw5)
 replace hw5:=Own.loose hw5' (Own.blk hw5)
 clear hw5'
 have kq5:=ModR.kq e6
 replace E:=E.trans e6c (by omega) (by omega);replace hw1:=OwF.kp hw1 (Kq.kp kq5 sp1.1.2.2.2.1);replace hw2:=OwF.kp hw2 (Kq.kp kq5 sp1.2.1.2.2.1);replace hw3:=OwF.kp hw3 (Kq.kp kq5 sp1.2.2.1.2.1);replace hw4:=Own.kp hw4 (Kq.kp kq5 sp1.2.2.2.1.1);replace h1:=h1.modR e6c (by omega)
 have z6:=e6c.size
 refine Qa (Qf Z) Z (Qc (Qe (Qg [true,true] Z Z (Qa (Qd Z) Z (Qa (Qf Z) Z (Qc (Qt (Ql Z Z E ?_))))))))
 exact ⟨Z,_,_,_,hw1,hw2,hw3,hw4,hw5,sp1⟩

set_option maxRecDepth 20000 in
theorem heldNodeS (vxs : Value) (xs : List Node) (k : Nat) (w : World) (hxs : RdD w 0 w.heap.size vxs xs) (hm : xs = (Xq X0 Ur) k xs) (hb : k + 4 * Xr Xn xs ≤ 1099511627776) : Ct Tryz.prog 83 [vxs,.int .i64 ((k : Nat) : Int)] w (fun v _=>v = .int .i64 ((Xj X0 k xs : Nat) : Int)):=by
 refine Yi Tryz.func83 Z Tryz.ntmps83 Z ?_
 refine Q7 [(0,vxs),(1,.int .i64 ((k : Nat) : Int))] ⟨Z,Z,trivial⟩ ?_
 have E : Ext w w:=Ext.refl w
 refine Qe (Qg [true] Z Z (Qa (Qf Z) Z (Qc (Qe (Qe (Qg [true] Z Z (Qa (Qf Z) Z (Qc (Qw (Yk (fun (xq : Nat × Nat)=>let ⟨i,q⟩:=xq;[(0,vxs),(1,.int .i64 ((q : Nat) : Int)),(4,.int .i64 0),(5,.int .i64 ((i : Nat) : Int))]) (fun (xq : Nat × Nat) w'=>let ⟨i,q⟩:=xq;Ext w w' ∧ w.heap.size ≤ w'.heap.size ∧ i ≤ xs.length ∧ q = (Xj X0) k (xs.take i)) (fun (xq : Nat × Nat)=>let ⟨i,q⟩:=xq;xs.length - i) (0,k) ⟨Z,Z,Z,Z,trivial⟩ ⟨E,Nat.le_refl _,Nat.zero_le _,Z⟩ ?_))))))))))
 clear E
 rintro ⟨i,q⟩ w1 ⟨E,z1,hi,hq⟩
 refine Q7 [(0,vxs),(1,.int .i64 ((q : Nat) : Int)),(4,.int .i64 0),(5,.int .i64 ((i : Nat) : Int))] ⟨Z,Z,Z,Z,trivial⟩ ?_
 have hmx:=hxs.1.1
 unfold maxLen at hmx
 refine Qe (Qe (Qg [true,true,true,true] Z Z (Qa (Qd Z) Z (Qa (Qd Z) Z (Qa (Yb Tryz.underlying32 Z (hxs.ext E).len) Z (Qa (Yf Z Z) Z (Qc (Qr Z (fun hc1=>?_) (fun hc1=>?_)))))))))
 ·have hlt : i < xs.length:=by have h:=of_decide_eq_true hc1;omega
  have hqk:=T6 (k:=k) C3 hlt;rw [← hq] at hqk;unfold X0 at hqk
  have hx:=Bq hm hlt;rw [← hq] at hx
  have hc1n : i < xs.length:=by first | (have h:=of_decide_eq_true hc1;omega) | (have h:=hc1;simp at h;omega)
  refine Qm (Qe (Qw (Qe (Qe (Qg [true,true,true,true,true,true,true] Z Z (Qa (Qd Z) Z (Qa (Qd Z) Z ?_)))))))
  have hi1 : i < xs.length:=(by first | assumption | omega | (simp only [List.length_set];first | assumption | omega) | (simp only [List.getElem_set_self,List.length_set];first | assumption | omega))
  obtain ⟨_,hr1,ha1⟩:=RdD.get hxs hi1
  obtain ⟨o1,rfl,hd1⟩:=Node.op hr1
  replace ha1 : At w (Y2 vxs) (Y9 vxs + i * 4) [.int .i64 ((xs[i]'hi1).kind),.int .i64 ((xs[i]'hi1).a),.int .i64 ((xs[i]'hi1).b),o1]:=ha1
  refine Qa (Qv (i:=i) Gt Z Z (hxs.ext E).1 hi1) Z (Qa (Qs Ke Z) Z (Qa (Qk Yp Z ((ha1.ext E).one 0 Z)) Z (Qa (Qd Z) Z (Qa (Yo Z Z) Z (Qc (Yn Z (by rw [hx];simp [Ur,Qi]) (Qm (Qe (Qg [true,true,true] Z Z (Qa (Qd Z) Z (Qa (Yd Z Z (Ye (by unfold maxLen;omega))) Z (Qa (Qf Z) Z (Qc (Qe (Qe (Qg [true,true,true,true,true,true,true] Z Z (Qa (Qd Z) Z (Qa (Qd Z) Z (Qa (Qv (i:=i) Gt Z Z (hxs.ext E).1 hi1) Z (Qa (Qs Ko Z) Z (Qa (Qk Yp Z ((ha1.ext E).one 1 Z)) Z (Qa (Qd Z) Z (Qa (Yo Z Z) Z (Qc (Yn Z (by rw [hx];simp [Ur,Qi]) (Qm (Qe (Qg [true,true,true] Z Z (Qa (Qd Z) Z (Qa (Yd Z Z (Ye (by unfold maxLen;omega))) Z (Qa (Qf Z) Z (Qc (Qe (Qe (Qg [true,true,true,true,true,true,true] Z Z (Qa (Qd Z) Z (Qa (Qd Z) Z (Qa (Qv (i:=i) Gt Z Z (hxs.ext E).1 hi1) Z (Qa (Qs Um Z) Z (Qa (Qk Yp Z ((ha1.ext E).one 2 Z)) Z (Qa (Qd Z) Z (Qa (Yo Z Z) Z (Qc (Yn Z (by rw [hx];simp [Ur,Qi]) (Qm (Qe (Qg [true,true,true] Z Z (Qa (Qd Z) Z (Qa (Yd Z Z (Ye (by unfold maxLen;omega))) Z (Qa (Qf Z) Z (Qc (Qe (Qg [true,true,true,true,true,true,false,true] Z Z (Qa (Qd Z) Z (Qa (Qd Z) Z (Qa (Qv (i:=i) Gt Z Z (hxs.ext E).1 hi1) Z (Qa (Qs Xk Z) Z (Qa (Qk Ks Z ((ha1.ext E).one 3 Z)) Z (Qa (Qd Z) Z (Qu Tryz.call86 Z (heldIntS o1 ((xs[i]'hi1).outs) (q + 1 + 1 + 1) _ (hd1.rd.ext E) (congrArg Node.outs hx) (by omega)) Z (fun _ w2 e1 hv=>?_)))))))))))))))))))))))))))))))))))))))))))))))))))))))))))))
  subst hv
  replace E:=E.trans e1
  have z2:=e1.size
  refine Qa (Qf Z) Z (Qc (Qe (Qg [true,true] Z Z (Qa (Qd Z) Z (Qa (Yf Z Z) Z (Qc (Yn Z (by first | (simp;done) | (simp only [Qp] <;> simp) | (simp only [Qi,Qp] <;> simp) | (simp only [Qi] <;> simp)) (Qm (Q5 (Yv (Qg [true,true,true] Z Z (Qa (Qd Z) Z (Qa (Yd Z Z (Ye (by unfold maxLen;omega))) Z (Qa (Qf Z) Z (Qc (Q5 (Yg (i + 1,(q + 1 + 1 + 1) + 1 * ((xs[i]'hi1).outs).length) (by simp;omega) ⟨Z,Z,Z,Z,trivial⟩ ⟨E,(by omega),(by omega),(by rw [Vv (by omega),← hq];rfl)⟩)))))))))))))))))
 ·have hc1n : ¬ i < xs.length:=by first | (have h:=of_decide_eq_false hc1;omega) | (have h:=hc1;simp at h;omega)
  refine Ym (Q4 (Q2 ?_))
  refine Qe (Qg [true,true] Z Z (Qa (Qd Z) Z (Qa (Qf Z) Z (Qc (Qt (Ql Z Z E ?_))))))
  rw [hq,List.take_of_length_le (by omega)]

set_option maxHeartbeats 4000000 in
set_option maxRecDepth 20000 in
theorem heldWorkerS (vxs : Value) (xs : List Worker) (k : Nat) (w : World) (hxs : RdD w 0 w.heap.size vxs xs) (hm : xs = (Xq Vk G7) k xs) (hb : k + 5 * Xr Q8 xs ≤ 1099511627776) : Ct Tryz.prog 41 [vxs,.int .i64 ((k : Nat) : Int)] w (fun v _=>v = .int .i64 ((Xj Vk k xs : Nat) : Int)):=by
 refine Yi Tryz.func41 Z Tryz.ntmps41 Z ?_
 refine Q7 [(0,vxs),(1,.int .i64 ((k : Nat) : Int))] ⟨Z,Z,trivial⟩ ?_
 have E : Ext w w:=Ext.refl w
 refine Qe (Qg [true] Z Z (Qa (Qf Z) Z (Qc (Qe (Qe (Qg [true] Z Z (Qa (Qf Z) Z (Qc (Qw (Yk (fun (xq : Nat × Nat)=>let ⟨i,q⟩:=xq;[(0,vxs),(1,.int .i64 ((q : Nat) : Int)),(4,.int .i64 0),(5,.int .i64 ((i : Nat) : Int))]) (fun (xq : Nat × Nat) w'=>let ⟨i,q⟩:=xq;Ext w w' ∧ w.heap.size ≤ w'.heap.size ∧ i ≤ xs.length ∧ q = (Xj Vk) k (xs.take i)) (fun (xq : Nat × Nat)=>let ⟨i,q⟩:=xq;xs.length - i) (0,k) ⟨Z,Z,Z,Z,trivial⟩ ⟨E,Nat.le_refl _,Nat.zero_le _,Z⟩ ?_))))))))))
 clear E
 rintro ⟨i,q⟩ w1 ⟨E,z1,hi,hq⟩
 refine Q7 [(0,vxs),(1,.int .i64 ((q : Nat) : Int)),(4,.int .i64 0),(5,.int .i64 ((i : Nat) : Int))] ⟨Z,Z,Z,Z,trivial⟩ ?_
 have hmx:=hxs.1.1
 unfold maxLen at hmx
 refine Qe (Qe (Qg [true,true,true,true] Z Z (Qa (Qd Z) Z (Qa (Qd Z) Z (Qa (Yb Tryz.underlying35 Z (hxs.ext E).len) Z (Qa (Yf Z Z) Z (Qc (Qr Z (fun hc1=>?_) (fun hc1=>?_)))))))))
 ·have hlt : i < xs.length:=by have h:=of_decide_eq_true hc1;omega
  have hqk:=T6 (k:=k) A3 hlt;rw [← hq] at hqk;unfold Vk at hqk
  have hx:=Bq hm hlt;rw [← hq] at hx
  have hc1n : i < xs.length:=by first | (have h:=of_decide_eq_true hc1;omega) | (have h:=hc1;simp at h;omega)
  refine Qm (Qe (Qw (Qe (Qg [true,true,true,true,true,true,false,true] Z Z (Qa (Qd Z) Z (Qa (Qd Z) Z ?_))))))
  have hi1 : i < xs.length:=(by first | assumption | omega | (simp only [List.length_set];first | assumption | omega) | (simp only [List.getElem_set_self,List.length_set];first | assumption | omega))
  obtain ⟨_,hr1,ha1⟩:=RdD.get hxs hi1
  obtain ⟨o1,o2,o3,o4,o5,o6,o7,o8,rfl,hd1,hd2,hd3,hd4,hd5,hd6,hd7,hd8⟩:=Worker.op hr1
  replace ha1 : At w (Y2 vxs) (Y9 vxs + i * 8) [o1,o2,o3,o4,o5,o6,o7,o8]:=ha1
  refine Qa (Qv (i:=i) Uk Z Z (hxs.ext E).1 hi1) Z (Qa (Qs Vy Z) Z (Qa (Qk Xo Z ((ha1.ext E).one 0 Z)) Z (Qa (Qd Z) Z (Qu Tryz.call84 Z (heldRecordS o1 ((xs[i]'hi1).queue) q _ (hd1.rd.ext E) (congrArg Worker.queue hx) (by omega)) Z (fun _ w2 e1 hv=>?_)))))
  subst hv
  replace E:=E.trans e1
  have z2:=e1.size
  refine Qa (Qf Z) Z (Qc (Qe (Qe (Qg [true,true] Z Z (Qa (Qd Z) Z (Qa (Yf Z Z) Z (Qc (Yn Z (by first | (simp;done) | (simp only [Qp] <;> simp) | (simp only [Qi,Qp] <;> simp) | (simp only [Qi] <;> simp)) (Qm (Qe (Qg [true,true,true,true,true,true,false,true] Z Z (Qa (Qd Z) Z (Qa (Qd Z) Z (Qa (Qv (i:=i) Uk Z Z (hxs.ext E).1 hi1) Z (Qa (Qs Tb Z) Z (Qa (Qk Xo Z ((ha1.ext E).one 1 Z)) Z (Qa (Qd Z) Z (Qu Tryz.call84 Z (heldRecordS o2 ((xs[i]'hi1).staged) (q + 5 * ((xs[i]'hi1).queue).length) _ (hd2.rd.ext E) (congrArg Worker.staged hx) (by omega)) Z (fun _ w3 e2 hv=>?_)))))))))))))))))))
  subst hv
  replace E:=E.trans e2
  have z3:=e2.size
  refine Qa (Qf Z) Z (Qc (Qe (Qe (Qg [true,true] Z Z (Qa (Qd Z) Z (Qa (Yf Z Z) Z (Qc (Yn Z (by first | (simp;done) | (simp only [Qp] <;> simp) | (simp only [Qi,Qp] <;> simp) | (simp only [Qi] <;> simp)) (Qm (Qe (Qg [true,true,true,true,true,true,false,true] Z Z (Qa (Qd Z) Z (Qa (Qd Z) Z (Qa (Qv (i:=i) Uk Z Z (hxs.ext E).1 hi1) Z (Qa (Qs U4 Z) Z (Qa (Qk Xo Z ((ha1.ext E).one 2 Z)) Z (Qa (Qd Z) Z (Qu Tryz.call84 Z (heldRecordS o3 ((xs[i]'hi1).inputs) ((q + 5 * ((xs[i]'hi1).queue).length) + 5 * ((xs[i]'hi1).staged).length) _ (hd3.rd.ext E) (congrArg Worker.inputs hx) (by omega)) Z (fun _ w4 e3 hv=>?_)))))))))))))))))))
  subst hv
  replace E:=E.trans e3
  have z4:=e3.size
  refine Qa (Qf Z) Z (Qc (Qe (Qe (Qg [true,true] Z Z (Qa (Qd Z) Z (Qa (Yf Z Z) Z (Qc (Yn Z (by first | (simp;done) | (simp only [Qp] <;> simp) | (simp only [Qi,Qp] <;> simp) | (simp only [Qi] <;> simp)) (Qm (Qe (Qg [true,true,true,true,true,true,false,true] Z Z (Qa (Qd Z) Z (Qa (Qd Z) Z (Qa (Qv (i:=i) Uk Z Z (hxs.ext E).1 hi1) Z (Qa (Qs Ta Z) Z (Qa (Qk sc75 Z ((ha1.ext E).one 3 Z)) Z (Qa (Qd Z) Z (Qu Tryz.call85 Z (heldCellS o4 ((xs[i]'hi1).cells) (((q + 5 * ((xs[i]'hi1).queue).length) + 5 * ((xs[i]'hi1).staged).length) + 5 * ((xs[i]'hi1).inputs).length) _ (hd4.rd.ext E) (congrArg Worker.cells hx) (by omega)) Z (fun _ w5 e4 hv=>?_)))))))))))))))))))
  subst hv
  replace E:=E.trans e4
  have z5:=e4.size
  refine Qa (Qf Z) Z (Qc (Qe (Qe (Qg [true,true] Z Z (Qa (Qd Z) Z (Qa (Yf Z Z) Z (Qc (Yn Z (by first | (simp;done) | (simp only [Qp] <;> simp) | (simp only [Qi,Qp] <;> simp) | (simp only [Qi] <;> simp)) (Qm (Qe (Qg [true,true,true,true,true,true,false,true] Z Z (Qa (Qd Z) Z (Qa (Qd Z) Z (Qa (Qv (i:=i) Uk Z Z (hxs.ext E).1 hi1) Z (Qa (Qs U3 Z) Z (Qa (Qk Ks Z ((ha1.ext E).one 4 Z)) Z (Qa (Qd Z) Z (Qu Tryz.call86 Z (heldIntS o5 ((xs[i]'hi1).sums) ((((q + 5 * ((xs[i]'hi1).queue).length) + 5 * ((xs[i]'hi1).staged).length) + 5 * ((xs[i]'hi1).inputs).length) + 4 * ((xs[i]'hi1).cells).length) _ (hd5.rd.ext E) (congrArg Worker.sums hx) (by omega)) Z (fun _ w6 e5 hv=>?_)))))))))))))))))))
  subst hv
  replace E:=E.trans e5
  have z6:=e5.size
  refine Qa (Qf Z) Z (Qc (Qe (Qe (Qg [true,true] Z Z (Qa (Qd Z) Z (Qa (Yf Z Z) Z (Qc (Yn Z (by first | (simp;done) | (simp only [Qp] <;> simp) | (simp only [Qi,Qp] <;> simp) | (simp only [Qi] <;> simp)) (Qm (Qe (Qg [true,true,true,true,true,true,false,true] Z Z (Qa (Qd Z) Z (Qa (Qd Z) Z (Qa (Qv (i:=i) Uk Z Z (hxs.ext E).1 hi1) Z (Qa (Qs Gb Z) Z (Qa (Qk V6 Z ((ha1.ext E).one 5 Z)) Z (Qa (Qd Z) Z (Qu Tryz.call87 Z (heldBoolS o6 ((xs[i]'hi1).black) (((((q + 5 * ((xs[i]'hi1).queue).length) + 5 * ((xs[i]'hi1).staged).length) + 5 * ((xs[i]'hi1).inputs).length) + 4 * ((xs[i]'hi1).cells).length) + 1 * ((xs[i]'hi1).sums).length) _ (hd6.rd.ext E) (congrArg Worker.black hx) (by omega)) Z (fun _ w7 e6 hv=>?_)))))))))))))))))))
  subst hv
  replace E:=E.trans e6
  have z7:=e6.size
  refine Qa (Qf Z) Z (Qc (Qe (Qe (Qg [true,true] Z Z (Qa (Qd Z) Z (Qa (Yf Z Z) Z (Qc (Yn Z (by first | (simp;done) | (simp only [Qp] <;> simp) | (simp only [Qi,Qp] <;> simp) | (simp only [Qi] <;> simp)) (Qm (Qe (Qg [true,true,true,true,true,true,false,true] Z Z (Qa (Qd Z) Z (Qa (Qd Z) Z (Qa (Qv (i:=i) Uk Z Z (hxs.ext E).1 hi1) Z (Qa (Qs H9 Z) Z (Qa (Qk V6 Z ((ha1.ext E).one 6 Z)) Z (Qa (Qd Z) Z (Qu Tryz.call87 Z (heldBoolS o7 ((xs[i]'hi1).caps) ((((((q + 5 * ((xs[i]'hi1).queue).length) + 5 * ((xs[i]'hi1).staged).length) + 5 * ((xs[i]'hi1).inputs).length) + 4 * ((xs[i]'hi1).cells).length) + 1 * ((xs[i]'hi1).sums).length) + 1 * ((xs[i]'hi1).black).length) _ (hd7.rd.ext E) (congrArg Worker.caps hx) (by omega)) Z (fun _ w8 e7 hv=>?_)))))))))))))))))))
  subst hv
  replace E:=E.trans e7
  have z8:=e7.size
  refine Qa (Qf Z) Z (Qc (Qe (Qe (Qg [true,true] Z Z (Qa (Qd Z) Z (Qa (Yf Z Z) Z (Qc (Yn Z (by first | (simp;done) | (simp only [Qp] <;> simp) | (simp only [Qi,Qp] <;> simp) | (simp only [Qi] <;> simp)) (Qm (Qe (Qg [true,true,true,true,true,true,false,true] Z Z (Qa (Qd Z) Z (Qa (Qd Z) Z (Qa (Qv (i:=i) Uk Z Z (hxs.ext E).1 hi1) Z (Qa (Qs Vx Z) Z (Qa (Qk Ah Z ((ha1.ext E).one 7 Z)) Z (Qa (Qd Z) Z (Qu Tryz.call88 Z (heldDoneS o8 ((xs[i]'hi1).dones) (((((((q + 5 * ((xs[i]'hi1).queue).length) + 5 * ((xs[i]'hi1).staged).length) + 5 * ((xs[i]'hi1).inputs).length) + 4 * ((xs[i]'hi1).cells).length) + 1 * ((xs[i]'hi1).sums).length) + 1 * ((xs[i]'hi1).black).length) + 1 * ((xs[i]'hi1).caps).length) _ (hd8.rd.ext E) (congrArg Worker.dones hx) (by omega)) Z (fun _ w9 e8 hv=>?_)))))))))))))))))))
  subst hv
  replace E:=E.trans e8
  have z9:=e8.size
  refine Qa (Qf Z) Z (Qc (Qe (Qg [true,true] Z Z (Qa (Qd Z) Z (Qa (Yf Z Z) Z (Qc (Yn Z (by first | (simp;done) | (simp only [Qp] <;> simp) | (simp only [Qi,Qp] <;> simp) | (simp only [Qi] <;> simp)) (Qm (Q5 (Yv (Qg [true,true,true] Z Z (Qa (Qd Z) Z (Qa (Yd Z Z (Ye (by unfold maxLen;omega))) Z (Qa (Qf Z) Z (Qc (Q5 (Yg (i + 1,(((((((q + 5 * ((xs[i]'hi1).queue).length) + 5 * ((xs[i]'hi1).staged).length) + 5 * ((xs[i]'hi1).inputs).length) + 4 * ((xs[i]'hi1).cells).length) + 1 * ((xs[i]'hi1).sums).length) + 1 * ((xs[i]'hi1).black).length) + 1 * ((xs[i]'hi1).caps).length) + 2 * ((xs[i]'hi1).dones).length) (by simp;omega) ⟨Z,Z,Z,Z,trivial⟩ ⟨E,(by omega),(by omega),(by rw [Vv (by omega),← hq];rfl)⟩)))))))))))))))))
 ·have hc1n : ¬ i < xs.length:=by first | (have h:=of_decide_eq_false hc1;omega) | (have h:=hc1;simp at h;omega)
  refine Ym (Q4 (Q2 ?_))
  refine Qe (Qg [true,true] Z Z (Qa (Qd Z) Z (Qa (Qf Z) Z (Qc (Qt (Ql Z Z E ?_))))))
  rw [hq,List.take_of_length_le (by omega)]

set_option maxRecDepth 20000 in
theorem heldLinkS (vxs : Value) (xs : List Link) (k : Nat) (w : World) (hxs : RdD w 0 w.heap.size vxs xs) (hm : xs = (Xq Ux Us) k xs) (hb : k + 5 * Xr Y0 xs ≤ 1099511627776) : Ct Tryz.prog 42 [vxs,.int .i64 ((k : Nat) : Int)] w (fun v _=>v = .int .i64 ((Xj Ux k xs : Nat) : Int)):=by
 refine Yi Tryz.func42 Z Tryz.ntmps42 Z ?_
 refine Q7 [(0,vxs),(1,.int .i64 ((k : Nat) : Int))] ⟨Z,Z,trivial⟩ ?_
 have E : Ext w w:=Ext.refl w
 refine Qe (Qg [true] Z Z (Qa (Qf Z) Z (Qc (Qe (Qe (Qg [true] Z Z (Qa (Qf Z) Z (Qc (Qw (Yk (fun (xq : Nat × Nat)=>let ⟨i,q⟩:=xq;[(0,vxs),(1,.int .i64 ((q : Nat) : Int)),(4,.int .i64 0),(5,.int .i64 ((i : Nat) : Int))]) (fun (xq : Nat × Nat) w'=>let ⟨i,q⟩:=xq;Ext w w' ∧ w.heap.size ≤ w'.heap.size ∧ i ≤ xs.length ∧ q = (Xj Ux) k (xs.take i)) (fun (xq : Nat × Nat)=>let ⟨i,q⟩:=xq;xs.length - i) (0,k) ⟨Z,Z,Z,Z,trivial⟩ ⟨E,Nat.le_refl _,Nat.zero_le _,Z⟩ ?_))))))))))
 clear E
 rintro ⟨i,q⟩ w1 ⟨E,z1,hi,hq⟩
 refine Q7 [(0,vxs),(1,.int .i64 ((q : Nat) : Int)),(4,.int .i64 0),(5,.int .i64 ((i : Nat) : Int))] ⟨Z,Z,Z,Z,trivial⟩ ?_
 have hmx:=hxs.1.1
 unfold maxLen at hmx
 refine Qe (Qe (Qg [true,true,true,true] Z Z (Qa (Qd Z) Z (Qa (Qd Z) Z (Qa (Yb Tryz.underlying36 Z (hxs.ext E).len) Z (Qa (Yf Z Z) Z (Qc (Qr Z (fun hc1=>?_) (fun hc1=>?_)))))))))
 ·have hlt : i < xs.length:=by have h:=of_decide_eq_true hc1;omega
  have hqk:=T6 (k:=k) C4 hlt;rw [← hq] at hqk;unfold Ux at hqk
  have hx:=Bq hm hlt;rw [← hq] at hx
  have hc1n : i < xs.length:=by first | (have h:=of_decide_eq_true hc1;omega) | (have h:=hc1;simp at h;omega)
  refine Qm (Qe (Qw (Qe (Qe (Qg [true,true,true,true,true,true,true] Z Z (Qa (Qd Z) Z (Qa (Qd Z) Z ?_)))))))
  have hi1 : i < xs.length:=(by first | assumption | omega | (simp only [List.length_set];first | assumption | omega) | (simp only [List.getElem_set_self,List.length_set];first | assumption | omega))
  obtain ⟨_,hr1,ha1⟩:=RdD.get hxs hi1
  obtain ⟨o1,rfl,hd1⟩:=Link.op hr1
  replace ha1 : At w (Y2 vxs) (Y9 vxs + i * 6) [.int .i64 ((xs[i]'hi1).cap),o1,.int .i64 ((xs[i]'hi1).credits),.int .i64 ((xs[i]'hi1).back),.int .i64 ((xs[i]'hi1).sent),.int .i64 ((xs[i]'hi1).got)]:=ha1
  refine Qa (Qv (i:=i) Vb Z Z (hxs.ext E).1 hi1) Z (Qa (Qs Vd Z) Z (Qa (Qk Yp Z ((ha1.ext E).one 0 Z)) Z (Qa (Qd Z) Z (Qa (Yo Z Z) Z (Qc (Yn Z (by rw [hx];simp [Us,Qi]) (Qm (Qe (Qg [true,true,true] Z Z (Qa (Qd Z) Z (Qa (Yd Z Z (Ye (by unfold maxLen;omega))) Z (Qa (Qf Z) Z (Qc (Qe (Qg [true,true,true,true,true,true,false,true] Z Z (Qa (Qd Z) Z (Qa (Qd Z) Z (Qa (Qv (i:=i) Vb Z Z (hxs.ext E).1 hi1) Z (Qa (Qs X2 Z) Z (Qa (Qk Xo Z ((ha1.ext E).one 1 Z)) Z (Qa (Qd Z) Z (Qu Tryz.call84 Z (heldRecordS o1 ((xs[i]'hi1).queue) (q + 1) _ (hd1.rd.ext E) (congrArg Link.queue hx) (by omega)) Z (fun _ w2 e1 hv=>?_)))))))))))))))))))))))
  subst hv
  replace E:=E.trans e1
  have z2:=e1.size
  refine Qa (Qf Z) Z (Qc (Qe (Qe (Qg [true,true] Z Z (Qa (Qd Z) Z (Qa (Yf Z Z) Z (Qc (Yn Z (by first | (simp;done) | (simp only [Qp] <;> simp) | (simp only [Qi,Qp] <;> simp) | (simp only [Qi] <;> simp)) (Qm (Qe (Qe (Qg [true,true,true,true,true,true,true] Z Z (Qa (Qd Z) Z (Qa (Qd Z) Z (Qa (Qv (i:=i) Vb Z Z (hxs.ext E).1 hi1) Z (Qa (Qs Te Z) Z (Qa (Qk Yp Z ((ha1.ext E).one 2 Z)) Z (Qa (Qd Z) Z (Qa (Yo Z Z) Z (Qc (Yn Z (by rw [hx];simp [Us,Qi]) (Qm (Qe (Qg [true,true,true] Z Z (Qa (Qd Z) Z (Qa (Yd Z Z (Ye (by unfold maxLen;omega))) Z (Qa (Qf Z) Z (Qc (Qe (Qe (Qg [true,true,true,true,true,true,true] Z Z (Qa (Qd Z) Z (Qa (Qd Z) Z (Qa (Qv (i:=i) Vb Z Z (hxs.ext E).1 hi1) Z (Qa (Qs V0 Z) Z (Qa (Qk Yp Z ((ha1.ext E).one 3 Z)) Z (Qa (Qd Z) Z (Qa (Yo Z Z) Z (Qc (Yn Z (by rw [hx];simp [Us,Qi]) (Qm (Qe (Qg [true,true,true] Z Z (Qa (Qd Z) Z (Qa (Yd Z Z (Ye (by unfold maxLen;omega))) Z (Qa (Qf Z) Z (Qc (Qe (Qe (Qg [true,true,true,true,true,true,true] Z Z (Qa (Qd Z) Z (Qa (Qd Z) Z (Qa (Qv (i:=i) Vb Z Z (hxs.ext E).1 hi1) Z (Qa (Qs Td Z) Z (Qa (Qk Yp Z ((ha1.ext E).one 4 Z)) Z (Qa (Qd Z) Z (Qa (Yo Z Z) Z (Qc (Yn Z (by rw [hx];simp [Us,Qi]) (Qm (Qe (Qg [true,true,true] Z Z (Qa (Qd Z) Z (Qa (Yd Z Z (Ye (by unfold maxLen;omega))) Z (Qa (Qf Z) Z (Qc (Qe (Qe (Qg [true,true,true,true,true,true,true] Z Z (Qa (Qd Z) Z (Qa (Qd Z) Z (Qa (Qv (i:=i) Vb Z Z (hxs.ext E).1 hi1) Z (Qa (Qs Vz Z) Z (Qa (Qk Yp Z ((ha1.ext E).one 5 Z)) Z (Qa (Qd Z) Z (Qa (Yo Z Z) Z (Qc (Yn Z (by rw [hx];simp [Us,Qi]) (Qm (Qg [true,true,true] Z Z (Qa (Qd Z) Z (Qa (Yd Z Z (Ye (by unfold maxLen;omega))) Z (Qa (Qf Z) Z (Qc (Q5 (Yv (Qg [true,true,true] Z Z (Qa (Qd Z) Z (Qa (Yd Z Z (Ye (by unfold maxLen;omega))) Z (Qa (Qf Z) Z (Qc (Q5 (Yg (i + 1,(q + 1) + 5 * ((xs[i]'hi1).queue).length + 1 + 1 + 1 + 1) (by simp;omega) ⟨Z,Z,Z,Z,trivial⟩ ⟨E,(by omega),(by omega),(by rw [Vv (by omega),← hq];rfl)⟩)))))))))))))))))))))))))))))))))))))))))))))))))))))))))))))))))))))))))))))))))))))))))))))
 ·have hc1n : ¬ i < xs.length:=by first | (have h:=of_decide_eq_false hc1;omega) | (have h:=hc1;simp at h;omega)
  refine Ym (Q4 (Q2 ?_))
  refine Qe (Qg [true,true] Z Z (Qa (Qd Z) Z (Qa (Qf Z) Z (Qc (Qt (Ql Z Z E ?_))))))
  rw [hq,List.take_of_length_le (by omega)]

set_option maxRecDepth 20000 in
theorem heldGraph (cx : List Value) (x : Graph) (k : Nat) (w : World) (hx : Dat.R w 0 w.heap.size cx x) (hm : x.nodes = Xq X0 Ur k x.nodes) (hb : k + 4 * Y7 x ≤ 1099511627776) : Ct Tryz.prog 40 [.agg cx.toArray,.int .i64 ((k : Nat) : Int)] w (fun v _=>v = .int .i64 ((Xj X0 k x.nodes : Nat) : Int)):=by
 refine Yi Tryz.func40 Z Tryz.ntmps40 Z ?_
 obtain ⟨o1,rfl,hd1⟩:=Graph.op hx
 refine Q7 [(0,.agg [o1,.int .i64 x.workers,.int .i64 x.cap].toArray),(1,.int .i64 ((k : Nat) : Int))] ⟨Z,Z,trivial⟩ ?_
 have E : Ext w w:=Ext.refl w
 refine Qe (Qg [false,true] Z Z (Yz Z Z (fun b1 w1 e1 s1 h1=>?_)))
 have g_b1 : w.heap.size ≤ b1:=by have:=E.size;omega
 have y_b1:=h1.lt
 replace E:=E.trans e1
 have z1:=e1.size
 refine Qa (Qf Z) Z (Qc (Qe (Qg [true,true,true,false,true] Z Z (Qa (Qb Kn Z) Z (Qa (Qk Ge Z (h1.one 0 Z)) Z (Qa (Qd Z) Z (Qu Tryz.call83 Z (heldNodeS o1 x.nodes k _ (RdD.any (hd1.ext E)) hm (by unfold Y7 at hb;omega)) Z (fun _ w2 e2 hv=>?_))))))))
 subst hv
 replace E:=E.trans e2;replace h1:=h1.ext e2
 have z2:=e2.size
 refine Qa (Qf Z) Z (Qc (Qe (Qe (Qg [true,true] Z Z (Qa (Qd Z) Z (Qa (Yf Z Z) Z (Qc (Yn Z (by first | (simp;done) | (simp only [Qp] <;> simp) | (simp only [Qi,Qp] <;> simp) | (simp only [Qi] <;> simp)) (Qm (Qe (Qg [true,true] Z Z (Qa (Qd Z) Z (Qa (Qf Z) Z (Qc (Qt (Ql Z Z E ?_))))))))))))))))
 rfl

set_option maxRecDepth 20000 in
theorem heldCluster (cx : List Value) (x : Cluster) (k : Nat) (w : World) (hx : Dat.R w 0 w.heap.size cx x) (hm : x = K6 k x) (hb : k + 5 * Ya x ≤ 1099511627776) : Ct Tryz.prog 11 [.agg cx.toArray,.int .i64 ((k : Nat) : Int)] w (fun v _=>v = .int .i64 ((Uy k x : Nat) : Int)):=by
 unfold Ya Y7 at hb
 have b1:=@G6 _ _ _ 4 C3 k x.graph.nodes
 have b2:=@G6 _ _ _ 5 A3 (Xj X0 k x.graph.nodes) x.workers
 have b3:=@G6 _ _ _ 5 C4 (Xj Vk (Xj X0 k x.graph.nodes) x.workers) x.links
 refine Yi Tryz.func11 Z Tryz.ntmps11 Z ?_
 obtain ⟨o1,o2,o3,o4,o5,rfl,hd1,hd2,hd3,hd4,hd5⟩:=Cluster.op hx
 refine Q7 [(0,.agg [o1,.int .i64 x.graph.workers,.int .i64 x.graph.cap,o2,o3,o4,o5].toArray),(1,.int .i64 ((k : Nat) : Int))] ⟨Z,Z,trivial⟩ ?_
 have E : Ext w w:=Ext.refl w
 refine Qe (Qg [false,true] Z Z (Yz Z Z (fun b1 w1 e1 s1 h1=>?_)))
 have g_b1 : w.heap.size ≤ b1:=by have:=E.size;omega
 have y_b1:=h1.lt
 replace E:=E.trans e1
 have z1:=e1.size
 refine Qa (Qf Z) Z (Qc (Qe (Qg [true,true,true,false,true] Z Z (Qa (Qb Ul Z) Z (Qa (Qy Uh Z (h1.part 0 [o1,.int .i64 x.graph.workers,.int .i64 x.graph.cap] Z) Z) Z (Qa (Qd Z) Z (Qu Tryz.call40 Z (heldGraph [o1,.int .i64 x.graph.workers,.int .i64 x.graph.cap] x.graph k _ (Graph.mkR x.graph (RdD.any (hd1.ext E))) (congrArg (fun c=>c.graph.nodes) hm) (by unfold Y7;omega)) Z (fun _ w2 e2 hv=>?_))))))))
 subst hv
 replace E:=E.trans e2;replace h1:=h1.ext e2
 have z2:=e2.size
 refine Qa (Qf Z) Z (Qc (Qe (Qe (Qg [true,true] Z Z (Qa (Qd Z) Z (Qa (Yf Z Z) Z (Qc (Yn Z (by first | (simp;done) | (simp only [Qp] <;> simp) | (simp only [Qi,Qp] <;> simp) | (simp only [Qi] <;> simp)) (Qm (Qe (Qg [true,true,true,false,true] Z Z (Qa (Qb X3 Z) Z (Qa (Qk Vr Z (h1.one 3 Z)) Z (Qa (Qd Z) Z (Qu Tryz.call41 Z (heldWorkerS o2 x.workers (Xj X0 k x.graph.nodes) _ (RdD.any (hd2.ext E)) (congrArg Cluster.workers hm) (by omega)) Z (fun _ w3 e3 hv=>?_))))))))))))))))
 subst hv
 replace E:=E.trans e3;replace h1:=h1.ext e3
 have z3:=e3.size
 refine Qa (Qf Z) Z (Qc (Qe (Qe (Qg [true,true] Z Z (Qa (Qd Z) Z (Qa (Yf Z Z) Z (Qc (Yn Z (by first | (simp;done) | (simp only [Qp] <;> simp) | (simp only [Qi,Qp] <;> simp) | (simp only [Qi] <;> simp)) (Qm (Qe (Qg [true,true,true,false,true] Z Z (Qa (Qb Ki Z) Z (Qa (Qk V7 Z (h1.one 4 Z)) Z (Qa (Qd Z) Z (Qu Tryz.call42 Z (heldLinkS o3 x.links (Xj Vk (Xj X0 k x.graph.nodes) x.workers) _ (RdD.any (hd3.ext E)) (congrArg Cluster.links hm) (by omega)) Z (fun _ w4 e4 hv=>?_))))))))))))))))
 subst hv
 replace E:=E.trans e4;replace h1:=h1.ext e4
 have z4:=e4.size
 refine Qa (Qf Z) Z (Qc (Qe (Qe (Qg [true,true] Z Z (Qa (Qd Z) Z (Qa (Yf Z Z) Z (Qc (Yn Z (by first | (simp;done) | (simp only [Qp] <;> simp) | (simp only [Qi,Qp] <;> simp) | (simp only [Qi] <;> simp)) (Qm (Qe (Qg [true,true,true,false,true] Z Z (Qa (Qb U5 Z) Z (Qa (Qk Cg Z (h1.one 5 Z)) Z (Qa (Qd Z) Z (Qu Tryz.call43 Z (heldTokenS o4 x.tokens (Xj Ux (Xj Vk (Xj X0 k x.graph.nodes) x.workers) x.links) _ (hd4.rd.ext E) (congrArg Cluster.tokens hm) (by omega)) Z (fun _ w5 e5 hv=>?_))))))))))))))))
 subst hv
 replace E:=E.trans e5;replace h1:=h1.ext e5
 have z5:=e5.size
 refine Qa (Qf Z) Z (Qc (Qe (Qe (Qg [true,true] Z Z (Qa (Qd Z) Z (Qa (Yf Z Z) Z (Qc (Yn Z (by first | (simp;done) | (simp only [Qp] <;> simp) | (simp only [Qi,Qp] <;> simp) | (simp only [Qi] <;> simp)) (Qm (Qe (Qg [true,true,true,false,true] Z Z (Qa (Qb Gz Z) Z (Qa (Qk Bi Z (h1.one 6 Z)) Z (Qa (Qd Z) Z (Qu Tryz.call44 Z (heldNewsS o5 x.news ((Xj Ux (Xj Vk (Xj X0 k x.graph.nodes) x.workers) x.links) + 5 * x.tokens.length) _ (hd5.rd.ext E) (congrArg Cluster.news hm) (by omega)) Z (fun _ w6 e6 hv=>?_))))))))))))))))
 subst hv
 replace E:=E.trans e6;replace h1:=h1.ext e6
 have z6:=e6.size
 refine Qa (Qf Z) Z (Qc (Qe (Qe (Qg [true,true] Z Z (Qa (Qd Z) Z (Qa (Yf Z Z) Z (Qc (Yn Z (by first | (simp;done) | (simp only [Qp] <;> simp) | (simp only [Qi,Qp] <;> simp) | (simp only [Qi] <;> simp)) (Qm (Qe (Qg [true,true] Z Z (Qa (Qd Z) Z (Qa (Qf Z) Z (Qc (Qt (Ql Z Z E ?_))))))))))))))))
 rfl

set_option maxRecDepth 20000 in
theorem c_copyLink (cx : List Value) (x : Link) (w : World) (hx : Dat.R w 0 w.heap.size cx x) (hb : Y0 x ≤ 1048576) : Ct Tryz.prog 68 [.agg cx.toArray] w (fun v w'=>∃ cs,v = .agg cs.toArray ∧ Own1.O w' w.heap.size w'.heap.size cs x):=by
 unfold Y0 at hb
 refine Yi Tryz.func68 Z Tryz.ntmps68 Z ?_
 obtain ⟨o1,rfl,hd1⟩:=Link.op hx
 refine Q7 [(0,.agg [.int .i64 x.cap,o1,.int .i64 x.credits,.int .i64 x.back,.int .i64 x.sent,.int .i64 x.got].toArray)] ⟨Z,trivial⟩ ?_
 have E : Ext w w:=Ext.refl w
 refine Qe (Qg [false,false] Z Z (Yz Z Z (fun b1 w1 e1 s1 h1=>?_)))
 have g_b1 : w.heap.size ≤ b1:=by have:=E.size;omega
 have y_b1:=h1.lt
 replace E:=E.trans e1
 have z1:=e1.size
 refine Yj Xv Z (fun b2 w2 e2 s2 h2=>?_)
 have g_b2 : w.heap.size ≤ b2:=by have:=E.size;omega
 have y_b2:=h2.lt
 replace E:=E.trans e2;replace h1:=h1.ext e2
 have z2:=e2.size
 refine Qc (Qe (Qg [true,true,false,true,false] Z Z (Qa (Qb X2 Z) Z (Qa (Qk Xo Z (h1.one 1 Z)) Z (Qu Tryz.call114 Z (c_copyRecords o1 x.queue _ (hd1.rd.ext E) (by first | omega | (simp only [Qi];omega) | (rw [Qi];done) | (simp only [Qi];done))) Z (fun v1 w3 e3 ho1=>?_))))))
 have g_ho1 : w.heap.size ≤ w2.heap.size:=E.size
 replace E:=E.trans e3;replace h1:=h1.ext e3;replace h2:=h2.ext e3
 have z3:=e3.size
 refine Qa (Qb X2 Z) Z (Yh (cs':=[.int .i64 x.cap,v1,.int .i64 x.credits,.int .i64 x.back,.int .i64 x.sent,.int .i64 x.got]) Xo Z Z ho1.one h1 (Nat.le_of_ble_eq_true Z) Z (fun w4 m1 h1'=>?_))
 replace h1:=h1'
 replace E:=E.step m1 (fun g hg=>by cases hg;omega);replace h2:=h2.mod m1 (fun g hg=>by cases hg;omega);replace ho1:=ho1.mod m1 (fun g hg=>by cases hg;omega)
 have z4:=m1.size
 refine Qc (Qe (Qg [true,false] Z Z (Qa (Qy Xv Z h1.at Z) Z (Q6 (cs':=[.int .i64 x.cap,v1,.int .i64 x.credits,.int .i64 x.back,.int .i64 x.sent,.int .i64 x.got]) Xv Z Z Z (Qj Z (Qj ho1.one (Qj Z (Qj Z (Qj Z (Qj Z Z)))))) h2 (Nat.le_of_ble_eq_true Z) Z (fun w5 m2 h2'=>?_)))))
 replace h2:=h2'
 replace E:=E.step m2 (fun g hg=>by cases hg;omega);replace h1:=h1.mod m2 (fun g hg=>by cases hg;omega);replace ho1:=ho1.mod m2 (fun g hg=>by cases hg;omega)
 have z5:=m2.size
 refine Qc (Qt (Xu Z Z (Yc Xv h2.at Z) E ?_))
 exact ⟨_,Z,Link.mkO x ⟨trivial,trivial⟩ (Own.widen ho1 (by omega) (by omega))⟩

set_option maxRecDepth 20000 in
theorem s_l06Copy (cx : List Value) (x : Link) (w : World) (hx : Dat.R w 0 w.heap.size cx x) (hb : Y0 x ≤ 1048576) : Ct Tryz.prog 101 [.agg cx.toArray] w (fun v w'=>∃ cs,v = .agg cs.toArray ∧ Own1.O w' w.heap.size w'.heap.size cs x):=by
 unfold Y0 at hb
 refine Yi Tryz.func101 Z Tryz.ntmps101 Z ?_
 obtain ⟨o1,rfl,hd1⟩:=Link.op hx
 refine Q7 [(0,.agg [.int .i64 x.cap,o1,.int .i64 x.credits,.int .i64 x.back,.int .i64 x.sent,.int .i64 x.got].toArray)] ⟨Z,trivial⟩ ?_
 have E : Ext w w:=Ext.refl w
 refine Qe (Qg [false,false] Z Z (Yz Z Z (fun b1 w1 e1 s1 h1=>?_)))
 have g_b1 : w.heap.size ≤ b1:=by have:=E.size;omega
 have y_b1:=h1.lt
 replace E:=E.trans e1
 have z1:=e1.size
 refine Yj Xv Z (fun b2 w2 e2 s2 h2=>?_)
 have g_b2 : w.heap.size ≤ b2:=by have:=E.size;omega
 have y_b2:=h2.lt
 replace E:=E.trans e2;replace h1:=h1.ext e2
 have z2:=e2.size
 refine Qc (Qe (Qg [false,true,true,false,true,false] Z Z (Y8 (vs:=[]) (css:=[]) K2 Z Z trivial Z Z (fun b3 w3 e3 s3 h3=>?_))))
 replace h3 : Blk w3 b3 []:=h3
 have g_b3 : w.heap.size ≤ b3:=by have:=E.size;omega
 have y_b3:=h3.lt
 replace E:=E.trans e3;replace h1:=h1.ext e3;replace h2:=h2.ext e3
 have z3:=e3.size
 refine Qa (Qb X2 Z) Z (Qa (Qk Xo Z (h1.one 1 Z)) Z (Hr K2 Z Z (Own.ofBlk (lo:=b3) (hi:=b3 + 1) (sz:=5) h3 (Nat.le_refl _) (Nat.lt_succ_self _) (by simp) (by simp [maxLen])) (RdS.src (hd1.rd.ext E)) (Xi _) (by simp only [List.length_append,Yx,List.length_nil,List.length_cons,List.length_drop];simp only [Enc.sz];omega) (by decide) (by omega) (by omega) Z Z (fun v1 w4 m1 ho1=>?_)))
 replace E:=E.step m1 (fun g hg=>by have:=Own.blk (Own.ofBlk (lo:=b3) (hi:=b3 + 1) (sz:=5) h3 (Nat.le_refl _) (Nat.lt_succ_self _) (by simp) (by simp [maxLen])) g hg;omega);replace h1:=h1.mod m1 (fun g hg=>by have:=Own.blk (Own.ofBlk (lo:=b3) (hi:=b3 + 1) (sz:=5) h3 (Nat.le_refl _) (Nat.lt_succ_self _) (by simp) (by simp [maxLen])) g hg;omega);replace h2:=h2.mod m1 (fun g hg=>by have:=Own.blk (Own.ofBlk (lo:=b3) (hi:=b3 + 1) (sz:=5) h3 (Nat.le_refl _) (Nat.lt_succ_self _) (by simp) (by simp [maxLen])) g hg;omega)
 have z4:=m1.size
 refine Qa (Qb X2 Z) Z (Yh (cs':=[.int .i64 x.cap,v1,.int .i64 x.credits,.int .i64 x.back,.int .i64 x.sent,.int .i64 x.got]) Xo Z Z ho1.one h1 (Nat.le_of_ble_eq_true Z) Z (fun w5 m2 h1'=>?_))
 replace h1:=h1'
 replace E:=E.step m2 (fun g hg=>by cases hg;omega);replace h2:=h2.mod m2 (fun g hg=>by cases hg;omega);replace ho1:=ho1.mod m2 (fun g hg=>by cases hg;omega)
 have z5:=m2.size
 refine Qc (Qe (Qg [true,false] Z Z (Qa (Qy Xv Z h1.at Z) Z (Q6 (cs':=[.int .i64 x.cap,v1,.int .i64 x.credits,.int .i64 x.back,.int .i64 x.sent,.int .i64 x.got]) Xv Z Z Z (Qj Z (Qj ho1.one (Qj Z (Qj Z (Qj Z (Qj Z Z)))))) h2 (Nat.le_of_ble_eq_true Z) Z (fun w6 m3 h2'=>?_)))))
 replace h2:=h2'
 replace E:=E.step m3 (fun g hg=>by cases hg;omega);replace h1:=h1.mod m3 (fun g hg=>by cases hg;omega);replace ho1:=ho1.mod m3 (fun g hg=>by cases hg;omega)
 have z6:=m3.size
 refine Qc (Qt (Xu Z Z (Yc Xv h2.at Z) E ?_))
 exact ⟨_,Z,Link.mkO (⟨x.cap,[] ++ x.queue,x.credits,x.back,x.sent,x.got⟩ : Link) ⟨trivial,trivial⟩ (Own.widen ho1 (by omega) (by omega))⟩

set_option maxHeartbeats 4000000 in
set_option maxRecDepth 20000 in
theorem s_TakeFrom (cx : List Value) (x : Link) (w : World) (hx : Dat.R w 0 w.heap.size cx x) (hb : Y0 x ≤ 1048576) : Ct Tryz.prog 59 [.agg cx.toArray] w (fun v w'=>∃ c0,v = .tuple [.agg c0.toArray,.agg (Enc.enc ((Q3 x).2.1)).toArray,.bool ((Q3 x).2.2)].toArray ∧ Own1.O w' w.heap.size w'.heap.size c0 ((Q3 x).1)):=by
 unfold Y0 at hb
 refine Yi Tryz.func59 Z Tryz.ntmps59 Z ?_
 obtain ⟨o1,rfl,hd1⟩:=Link.op hx
 refine Q7 [(0,.agg [.int .i64 x.cap,o1,.int .i64 x.credits,.int .i64 x.back,.int .i64 x.sent,.int .i64 x.got].toArray)] ⟨Z,trivial⟩ ?_
 have E : Ext w w:=Ext.refl w
 refine Qe (Qg [false,false,false,true] Z Z (Yz Z Z (fun b1 w1 e1 s1 h1=>?_)))
 have g_b1 : w.heap.size ≤ b1:=by have:=E.size;omega
 have y_b1:=h1.lt
 replace E:=E.trans e1
 have z1:=e1.size
 refine Yj Xv Z (fun b2 w2 e2 s2 h2=>?_)
 have g_b2 : w.heap.size ≤ b2:=by have:=E.size;omega
 have y_b2:=h2.lt
 replace E:=E.trans e2;replace h1:=h1.ext e2
 have z2:=e2.size
 refine Yj K0 Z (fun b3 w3 e3 s3 h3=>?_)
 have g_b3 : w.heap.size ≤ b3:=by have:=E.size;omega
 have y_b3:=h3.lt
 replace E:=E.trans e3;replace h1:=h1.ext e3;replace h2:=h2.ext e3
 have z3:=e3.size
 refine Qa (Qf Z) Z (Qc (Qe (Qg [true,false,false] Z Z (Qa (Qy Xv Z h1.at Z) Z (Qu Tryz.call101 Z (s_l06Copy [.int .i64 x.cap,o1,.int .i64 x.credits,.int .i64 x.back,.int .i64 x.sent,.int .i64 x.got] x _ (Link.mkR x (RdD.any (hd1.ext E))) hb) Z (fun _ w4 e4 ho1=>?_))))))
 obtain ⟨_,rfl,ho1⟩:=ho1
 have g_ho1 : w.heap.size ≤ w3.heap.size:=E.size
 replace E:=E.trans e4;replace h1:=h1.ext e4;replace h2:=h2.ext e4;replace h3:=h3.ext e4
 have z4:=e4.size
 obtain ⟨o2,rfl,sp1,hw1⟩:=Link.opO ho1
 refine Q6 (cs':=[.int .i64 x.cap,o2,.int .i64 x.credits,.int .i64 x.back,.int .i64 x.sent,.int .i64 x.got]) Xv Z Z Z (Qj Z (Qj hw1.one (Qj Z (Qj Z (Qj Z (Qj Z Z)))))) h1 (Nat.le_of_ble_eq_true Z) Z (fun w5 m1 h1'=>?_)
 replace h1:=h1'
 replace E:=E.step m1 (fun g hg=>by cases hg;omega);replace h2:=h2.mod m1 (fun g hg=>by cases hg;omega);replace h3:=h3.mod m1 (fun g hg=>by cases hg;omega);replace hw1:=hw1.mod m1 (fun g hg=>by cases hg;omega)
 have z5:=m1.size
 refine Qc (Qe (Qe (Qg [true,false,true,true,true,true,true,true,true] Z Z (Qa (Qy Xv Z h1.at Z) Z (Qu Tryz.call104 Z (s_LinkOk [.int .i64 x.cap,o2,.int .i64 x.credits,.int .i64 x.back,.int .i64 x.sent,.int .i64 x.got] x _ (Link.mkR x (RdD.any (Own.rdD hw1)))) Z (fun _ w6 e5 hv=>?_))))))
 subst hv
 replace E:=E.trans e5;replace h1:=h1.ext e5;replace h2:=h2.ext e5;replace h3:=h3.ext e5;replace hw1:=hw1.ext e5
 have z6:=e5.size
 refine Qa (Yt Z) Z (Qa (Qd Z) Z (Xd 5 [(0,.agg [.int .i64 x.cap,o1,.int .i64 x.credits,.int .i64 x.back,.int .i64 x.sent,.int .i64 x.got].toArray),(1,.pointer (some ⟨b1,0,none⟩)),(2,.pointer (some ⟨b2,0,none⟩)),(3,.pointer (some ⟨b3,0,none⟩)),(4,.bool false),(6,.agg [.int .i64 x.cap,o1,.int .i64 x.credits,.int .i64 x.back,.int .i64 x.sent,.int .i64 x.got].toArray),(7,.agg [.int .i64 x.cap,o2,.int .i64 x.credits,.int .i64 x.back,.int .i64 x.sent,.int .i64 x.got].toArray),(16,.bool ((!(Xb x)) || (((x.queue.length : Nat) : Int) == 0)))] (fun w'=>w6 = w') ?_ ?_))
 ·refine Y1 (gd:=11) Z Z (fun hg1=>?_) (fun hg1=>?_)
  ·refine Qh Z Z Z Z (Qh Z Z Z Z (Qh Z Z Z Z (Qh Z Z Z Z (Qa (Qx Z Z) Z (Qq ⟨Z,Z,Z,Z,Z,Z,Z,congrArg (fun b=>some (Value.bool b)) (show true = ((!(Xb x)) || (((x.queue.length : Nat) : Int) == 0)) by first | (rw [hg1] <;> rfl) | (simp [hg1];done) | (simp only [Qp] <;> simp)),trivial⟩ Z)))))
  ·refine Qn Z Z (Qb X2 Z) Z (Qn Z Z (Qk Xo Z (h1.one 1 Z)) Z (Qn Z Z (Yb Tryz.underlying66 Z (Own.len (by decide) hw1)) Z (Qn Z Z (Xg Z Z) Z (Qa (Q1 Z Z) Z (Qq ⟨Z,Z,Z,Z,Z,Z,Z,congrArg (fun b=>some (Value.bool b)) (show (((x.queue.length : Nat) : Int) == 0) = ((!(Xb x)) || (((x.queue.length : Nat) : Int) == 0)) by first | (rw [hg1] <;> rfl) | (simp [hg1];done) | (simp only [Qp] <;> simp)),trivial⟩ Z)))))
 rintro _ rfl
 refine Qc (Qr Z (fun hc1=>?_) (fun hc1=>?_))
 ·refine Qe (Qg [true,true,false,false,true] Z Z (Qa (Qy Xv Z h1.at Z) Z (Qa (R_build (⟨0,(⟨0,0⟩ : Stamp),0,0⟩ : Record) Z (fun _=>by kernel_rfl)) Z (Q6 (cs':=[.int .i64 x.cap,o2,.int .i64 x.credits,.int .i64 x.back,.int .i64 x.sent,.int .i64 x.got]) Xv Z Z Z (Qj Z (Qj hw1.one (Qj Z (Qj Z (Qj Z (Qj Z Z)))))) h2 (Nat.le_of_ble_eq_true Z) Z (fun w8 m2 h2'=>?_)))))
  replace h2:=h2'
  replace E:=E.step m2 (fun g hg=>by cases hg;omega);replace h1:=h1.mod m2 (fun g hg=>by cases hg;omega);replace h3:=h3.mod m2 (fun g hg=>by cases hg;omega);replace hw1:=hw1.mod m2 (fun g hg=>by cases hg;omega)
  have z7:=m2.size
  refine Q6 (cs':=[.int .i64 ((⟨0,(⟨0,0⟩ : Stamp),0,0⟩ : Record).op),.int .i64 (((⟨0,(⟨0,0⟩ : Stamp),0,0⟩ : Record).stamp).epoch),.int .i64 (((⟨0,(⟨0,0⟩ : Stamp),0,0⟩ : Record).stamp).turn),.int .i64 ((⟨0,(⟨0,0⟩ : Stamp),0,0⟩ : Record).key),.int .i64 ((⟨0,(⟨0,0⟩ : Stamp),0,0⟩ : Record).val)]) K0 Z Z Z Z h3 (Nat.le_of_ble_eq_true Z) Z (fun w9 m3 h3'=>?_)
  replace h3:=h3'
  replace E:=E.step m3 (fun g hg=>by cases hg;omega);replace h1:=h1.mod m3 (fun g hg=>by cases hg;omega);replace h2:=h2.mod m3 (fun g hg=>by cases hg;omega);replace hw1:=hw1.mod m3 (fun g hg=>by cases hg;omega)
  have z8:=m3.size
  refine Qa (Qf Z) Z (Qc (Qt (Gp (l:=[.cell 2 68,.cell 3 72,.tmp 4]) (vs:=[.agg [.int .i64 x.cap,o2,.int .i64 x.credits,.int .i64 x.back,.int .i64 x.sent,.int .i64 x.got].toArray,.agg (Enc.enc (⟨0,(⟨0,0⟩ : Stamp),0,0⟩ : Record)).toArray,.bool false]) Z ⟨.cell Z (Yc Xv h2.at Z),.cell Z (Yc K0 h3.at Z),.tmp Z,trivial⟩ Z E ?_)))
  rw [took_no hc1]
  exact ⟨_,Z,(Link.mkO x sp1 (Own.widen hw1 (by omega) (by omega)))⟩
 ·have htl:=took_lt hc1
  refine Qm (Qe (Qg [true,true,true,true,false,false] Z Z (Qa (Qb X2 Z) Z (Qa (Qk Xo Z (h1.one 1 Z)) Z ?_))))
  have hi1 : 0 < x.queue.length:=(by first | assumption | omega | (simp only [List.length_set];first | assumption | omega) | (simp only [List.getElem_set_self,List.length_set];first | assumption | omega))
  refine Qa (Qv (i:=0) K2 Z Z (Own.rd (by decide) hw1) hi1) Z (Qa (Qy K0 Z ((Own.rd (by decide) hw1).get hi1) Z) Z (Yj K0 Z (fun b4 w10 e6 s4 h4=>?_)))
  have g_b4 : w.heap.size ≤ b4:=by have:=E.size;omega
  have y_b4:=h4.lt
  replace E:=E.trans e6;replace h1:=h1.ext e6;replace h2:=h2.ext e6;replace h3:=h3.ext e6;replace hw1:=hw1.ext e6
  have z9:=e6.size
  refine Q6 (cs':=[.int .i64 ((x.queue[0]'hi1).op),.int .i64 (((x.queue[0]'hi1).stamp).epoch),.int .i64 (((x.queue[0]'hi1).stamp).turn),.int .i64 ((x.queue[0]'hi1).key),.int .i64 ((x.queue[0]'hi1).val)]) K0 Z Z Z Z h4 (Nat.le_of_ble_eq_true Z) Z (fun w11 m4 h4'=>?_)
  replace h4:=h4'
  replace E:=E.step m4 (fun g hg=>by cases hg;omega);replace h1:=h1.mod m4 (fun g hg=>by cases hg;omega);replace h2:=h2.mod m4 (fun g hg=>by cases hg;omega);replace h3:=h3.mod m4 (fun g hg=>by cases hg;omega);replace hw1:=hw1.mod m4 (fun g hg=>by cases hg;omega)
  have z10:=m4.size
  refine Qc (Qe (Qg [false,true,true,true,false,true,false] Z Z (Y8 (vs:=[]) (css:=[]) K2 Z Z trivial Z Z (fun b5 w12 e7 s5 h5=>?_))))
  replace h5 : Blk w12 b5 []:=h5
  have g_b5 : w.heap.size ≤ b5:=by have:=E.size;omega
  have y_b5:=h5.lt
  replace E:=E.trans e7;replace h1:=h1.ext e7;replace h2:=h2.ext e7;replace h3:=h3.ext e7;replace hw1:=hw1.ext e7;replace h4:=h4.ext e7
  have z11:=e7.size
  refine Qa (Qb X2 Z) Z (Qa (Qk Xo Z (h1.one 1 Z)) Z ?_)
  have hk1 : 1 ≤ x.queue.length:=by first | assumption | omega
  have hs1:=Own.slFromE (α:=Record) hw1 hk1
  replace hs1 : Own w12 w3.heap.size w4.heap.size 5 (slFrom o2 1 5) (List.flatMap (Enc.enc (α:=Record)) (List.drop 1 x.queue)):=hs1
  have hb1 : Become w12 o2 (slFrom o2 1 5):=fun g hg=>.inl (by rwa [Bh] at hg)
  replace sp1:=SepL.set hb1 0 rfl sp1 ⟨(Own.lt hw1),trivial⟩
  replace sp1 : SepL [slFrom o2 1 5]:=sp1
  refine Qa (Ay K2 Z Z (Own.roomE (α:=Record) hw1) hk1) Z (Hr K2 Z Z (Own.ofBlk (lo:=b5) (hi:=b5 + 1) (sz:=5) h5 (Nat.le_refl _) (Nat.lt_succ_self _) (by simp) (by simp [maxLen])) (Own.src hs1) (Xi _) (by simp only [List.length_append,Yx,List.length_nil,List.length_cons,List.length_drop];simp only [Enc.sz];omega) (by decide) (by omega) (by omega) Z Z (fun v1 w13 m5 ho2=>?_))
  replace E:=E.step m5 (fun g hg=>by have:=Own.blk (Own.ofBlk (lo:=b5) (hi:=b5 + 1) (sz:=5) h5 (Nat.le_refl _) (Nat.lt_succ_self _) (by simp) (by simp [maxLen])) g hg;omega);replace h1:=h1.mod m5 (fun g hg=>by have:=Own.blk (Own.ofBlk (lo:=b5) (hi:=b5 + 1) (sz:=5) h5 (Nat.le_refl _) (Nat.lt_succ_self _) (by simp) (by simp [maxLen])) g hg;omega);replace h2:=h2.mod m5 (fun g hg=>by have:=Own.blk (Own.ofBlk (lo:=b5) (hi:=b5 + 1) (sz:=5) h5 (Nat.le_refl _) (Nat.lt_succ_self _) (by simp) (by simp [maxLen])) g hg;omega);replace h3:=h3.mod m5 (fun g hg=>by have:=Own.blk (Own.ofBlk (lo:=b5) (hi:=b5 + 1) (sz:=5) h5 (Nat.le_refl _) (Nat.lt_succ_self _) (by simp) (by simp [maxLen])) g hg;omega);replace h4:=h4.mod m5 (fun g hg=>by have:=Own.blk (Own.ofBlk (lo:=b5) (hi:=b5 + 1) (sz:=5) h5 (Nat.le_refl _) (Nat.lt_succ_self _) (by simp) (by simp [maxLen])) g hg;omega);replace hs1:=hs1.mod m5 (fun g hg=>by have:=Own.blk (Own.ofBlk (lo:=b5) (hi:=b5 + 1) (sz:=5) h5 (Nat.le_refl _) (Nat.lt_succ_self _) (by simp) (by simp [maxLen])) g hg;omega)
  have z12:=m5.size
  refine Qa (Qb X2 Z) Z (Yh (cs':=[.int .i64 x.cap,v1,.int .i64 x.credits,.int .i64 x.back,.int .i64 x.sent,.int .i64 x.got]) Xo Z Z ho2.one h1 (Nat.le_of_ble_eq_true Z) Z (fun w14 m6 h1'=>?_))
  replace h1:=h1'
  replace E:=E.step m6 (fun g hg=>by cases hg;omega);replace h2:=h2.mod m6 (fun g hg=>by cases hg;omega);replace h3:=h3.mod m6 (fun g hg=>by cases hg;omega);replace h4:=h4.mod m6 (fun g hg=>by cases hg;omega);replace hs1:=hs1.mod m6 (fun g hg=>by cases hg;omega);replace ho2:=ho2.mod m6 (fun g hg=>by cases hg;omega)
  have z13:=m6.size
  refine Qc (Qe (Qg [true,true,true,true,false] Z Z (Qa (Qb Vz Z) Z (Qa (Qk Yp Z (h1.one 5 Z)) Z (Qa (Yd Z Z Z) Z (Qa (Qb Vz Z) Z (Yh (cs':=[.int .i64 x.cap,v1,.int .i64 x.credits,.int .i64 x.back,.int .i64 x.sent,.int .i64 (IntKind.i64.wrap (x.got + 1))]) Yp Z Z Z h1 (Nat.le_of_ble_eq_true Z) Z (fun w15 m7 h1'=>?_))))))))
  replace h1:=h1'
  replace E:=E.step m7 (fun g hg=>by cases hg;omega);replace h2:=h2.mod m7 (fun g hg=>by cases hg;omega);replace h3:=h3.mod m7 (fun g hg=>by cases hg;omega);replace h4:=h4.mod m7 (fun g hg=>by cases hg;omega);replace hs1:=hs1.mod m7 (fun g hg=>by cases hg;omega);replace ho2:=ho2.mod m7 (fun g hg=>by cases hg;omega)
  have z14:=m7.size
  refine Qc (Qe (Qg [true,true,true,true,false] Z Z (Qa (Qb V0 Z) Z (Qa (Qk Yp Z (h1.one 3 Z)) Z (Qa (Yd Z Z Z) Z (Qa (Qb V0 Z) Z (Yh (cs':=[.int .i64 x.cap,v1,.int .i64 x.credits,.int .i64 (IntKind.i64.wrap (x.back + 1)),.int .i64 x.sent,.int .i64 (IntKind.i64.wrap (x.got + 1))]) Yp Z Z Z h1 (Nat.le_of_ble_eq_true Z) Z (fun w16 m8 h1'=>?_))))))))
  replace h1:=h1'
  replace E:=E.step m8 (fun g hg=>by cases hg;omega);replace h2:=h2.mod m8 (fun g hg=>by cases hg;omega);replace h3:=h3.mod m8 (fun g hg=>by cases hg;omega);replace h4:=h4.mod m8 (fun g hg=>by cases hg;omega);replace hs1:=hs1.mod m8 (fun g hg=>by cases hg;omega);replace ho2:=ho2.mod m8 (fun g hg=>by cases hg;omega)
  have z15:=m8.size
  refine Qc (Qe (S_regS Xp 2 [2,37] [(0,true)] [(1,true)] [(3,false),(4,true)] (by decide +kernel) Z Z Z Z Z Z Z [(0,.agg [.int .i64 x.cap,o1,.int .i64 x.credits,.int .i64 x.back,.int .i64 x.sent,.int .i64 x.got].toArray),(1,.pointer (some ⟨b1,0,none⟩)),(2,.pointer (some ⟨b2,0,none⟩)),(3,.pointer (some ⟨b3,0,none⟩)),(4,.bool false),(5,.pointer (some ⟨b4,0,none⟩)),(6,.agg [.int .i64 x.cap,o1,.int .i64 x.credits,.int .i64 x.back,.int .i64 x.sent,.int .i64 x.got].toArray),(7,.agg [.int .i64 x.cap,o2,.int .i64 x.credits,.int .i64 x.back,.int .i64 x.sent,.int .i64 x.got].toArray),(16,.bool ((!(Xb x)) || (((x.queue.length : Nat) : Int) == 0))),(19,.pointer (some ⟨b1,1,none⟩)),(20,o2),(21,.pointer (some ⟨Y2 o2,Y9 o2 + 0 * 5,none⟩)),(22,.agg (Enc.enc (x.queue[0]'hi1)).toArray),(23,.slice (some ⟨b5,0,none⟩) 0 0),(24,.pointer (some ⟨b1,1,none⟩)),(25,o2),(26,slFrom o2 1 5),(27,v1),(28,.pointer (some ⟨b1,1,none⟩)),(29,.pointer (some ⟨b1,5,none⟩)),(30,.int .i64 x.got),(31,.int .i64 (IntKind.i64.wrap (x.got + 1))),(32,.pointer (some ⟨b1,5,none⟩)),(33,.pointer (some ⟨b1,3,none⟩)),(34,.int .i64 x.back),(35,.int .i64 (IntKind.i64.wrap (x.back + 1))),(36,.pointer (some ⟨b1,3,none⟩)),(37,.agg [.int .i64 x.cap,v1,.int .i64 x.credits,.int .i64 (IntKind.i64.wrap (x.back + 1)),.int .i64 x.sent,.int .i64 (IntKind.i64.wrap (x.got + 1))].toArray)] [(2,.pointer (some ⟨b2,0,none⟩)),(37,.agg [.int .i64 x.cap,v1,.int .i64 x.credits,.int .i64 (IntKind.i64.wrap (x.back + 1)),.int .i64 x.sent,.int .i64 (IntKind.i64.wrap (x.got + 1))].toArray)] Z ⟨Z,Z,trivial⟩ (fun w'=>Ext w w' ∧ w16.heap.size ≤ w'.heap.size ∧ Blk w' b1 [.int .i64 x.cap,v1,.int .i64 x.credits,.int .i64 (IntKind.i64.wrap (x.back + 1)),.int .i64 x.sent,.int .i64 (IntKind.i64.wrap (x.got + 1))] ∧ Blk w' b2 [.int .i64 0,.slice none 0 0,.int .i64 0,.int .i64 0,.int .i64 0,.int .i64 0] ∧ Blk w' b3 [.int .i64 0,.int .i64 0,.int .i64 0,.int .i64 0,.int .i64 0] ∧ Blk w' b4 [.int .i64 ((x.queue[0]'hi1).op),.int .i64 (((x.queue[0]'hi1).stamp).epoch),.int .i64 (((x.queue[0]'hi1).stamp).turn),.int .i64 ((x.queue[0]'hi1).key),.int .i64 ((x.queue[0]'hi1).val)] ∧ Own w' w3.heap.size w4.heap.size 5 (slFrom o2 1 5) (List.flatMap (Enc.enc (α:=Record)) (List.drop 1 x.queue)) ∧ Own w' b5 w13.heap.size 5 v1 ([] ++ List.flatMap (Enc.enc (α:=Record)) (List.drop 1 x.queue))) b2 (fun w'=>Blk w' b2 [.int .i64 x.cap,v1,.int .i64 x.credits,.int .i64 (IntKind.i64.wrap (x.back + 1)),.int .i64 x.sent,.int .i64 (IntKind.i64.wrap (x.got + 1))]) (fun w17 e8=>?_) (fun w17 hphi_w17=>?_)))
  ·replace E:=E.trans e8;replace h1:=h1.ext e8;replace h2:=h2.ext e8;replace h3:=h3.ext e8;replace h4:=h4.ext e8;replace hs1:=hs1.ext e8;replace ho2:=ho2.ext e8
   have z16:=e8.size
   refine Qa (Qy Xv Z h1.at Z) Z (Qq ⟨Z,Z,Z,Z,Z,Z,Z,Z,Z,Z,Z,Z,Z,Z,Z,Z,Z,Z,Z,Z,Z,Z,Z,Z,Z,Z,Z,Z,trivial⟩ ⟨E,(by omega),h1,h2,h3,h4,hs1,ho2⟩)
  clear E h1 h2 h3 h4 hs1 ho2
  obtain ⟨E,z17,h1,h2,h3,h4,hs1,ho2⟩:=hphi_w17
  refine ⟨fs_store (cs':=[.int .i64 x.cap,v1,.int .i64 x.credits,.int .i64 (IntKind.i64.wrap (x.back + 1)),.int .i64 x.sent,.int .i64 (IntKind.i64.wrap (x.got + 1))]) Xv Z Z Z (Qj Z (Qj ho2.one (Qj Z (Qj Z (Qj Z (Qj Z Z)))))) h2 (Nat.le_of_ble_eq_true Z) Z,?_⟩
  refine JS_st (v:=.agg (Enc.enc (x.queue[0]'hi1)).toArray) (fun wX mX=>?_) Z ?_
  ·have E:=E.step mX (fun g hg=>by cases hg;omega);replace h4:=h4.mod mX (fun g hg=>by cases hg;omega);exact Qy K0 rfl h4.at rfl
  refine JS_end (fun w18 m9 hR=>?_)
  replace h2:=hR
  clear hR
  replace E:=E.step m9 (fun g hg=>by cases hg;omega);replace h1:=h1.mod m9 (fun g hg=>by cases hg;omega);replace h3:=h3.mod m9 (fun g hg=>by cases hg;omega);replace h4:=h4.mod m9 (fun g hg=>by cases hg;omega);replace hs1:=hs1.mod m9 (fun g hg=>by cases hg;omega);replace ho2:=ho2.mod m9 (fun g hg=>by cases hg;omega)
  have z18:=m9.size
  refine Q6 (cs':=[.int .i64 ((x.queue[0]'hi1).op),.int .i64 (((x.queue[0]'hi1).stamp).epoch),.int .i64 (((x.queue[0]'hi1).stamp).turn),.int .i64 ((x.queue[0]'hi1).key),.int .i64 ((x.queue[0]'hi1).val)]) K0 Z Z Z Z h3 (Nat.le_of_ble_eq_true Z) Z (fun w19 m10 h3'=>?_)
  replace h3:=h3'
  replace E:=E.step m10 (fun g hg=>by cases hg;omega);replace h1:=h1.mod m10 (fun g hg=>by cases hg;omega);replace h2:=h2.mod m10 (fun g hg=>by cases hg;omega);replace h4:=h4.mod m10 (fun g hg=>by cases hg;omega);replace hs1:=hs1.mod m10 (fun g hg=>by cases hg;omega);replace ho2:=ho2.mod m10 (fun g hg=>by cases hg;omega)
  have z19:=m10.size
  refine Qa (Qf Z) Z (Qc (Qt (Gp (l:=[.cell 2 68,.cell 3 72,.tmp 4]) (vs:=[.agg [.int .i64 x.cap,v1,.int .i64 x.credits,.int .i64 (IntKind.i64.wrap (x.back + 1)),.int .i64 x.sent,.int .i64 (IntKind.i64.wrap (x.got + 1))].toArray,.agg (Enc.enc (x.queue[0]'hi1)).toArray,.bool true]) Z ⟨.cell Z (Yc Xv h2.at Z),.cell Z (Yc K0 h3.at Z),.tmp Z,trivial⟩ Z E ?_)))
  rw [took_yes hc1 htl]
  exact ⟨_,Z,(Link.mkO (⟨x.cap,[] ++ (List.drop 1 x.queue),x.credits,IntKind.i64.wrap (x.back + 1),x.sent,IntKind.i64.wrap (x.got + 1)⟩ : Link) ⟨trivial,trivial⟩ (Own.widen ho2 (by omega) (by omega)))⟩

set_option maxHeartbeats 4000000 in
set_option maxRecDepth 20000 in
theorem c_TakeFrom (cx : List Value) (x : Link) (w : World) (hx : Dat.R w 0 w.heap.size cx x) (hb : Y0 x ≤ 1048576) (hr : rg x.got) : Ct Tryz.prog 28 [.agg cx.toArray] w (fun v w'=>∃ c0,v = .tuple [.agg c0.toArray,.agg (Enc.enc ((Q3 x).2.1)).toArray,.bool ((Q3 x).2.2)].toArray ∧ Own1.O w' w.heap.size w'.heap.size c0 ((Q3 x).1)):=by
 unfold Y0 at hb
 refine Yi Tryz.func28 Z Tryz.ntmps28 Z ?_
 obtain ⟨o1,rfl,hd1⟩:=Link.op hx
 refine Q7 [(0,.agg [.int .i64 x.cap,o1,.int .i64 x.credits,.int .i64 x.back,.int .i64 x.sent,.int .i64 x.got].toArray)] ⟨Z,trivial⟩ ?_
 have E : Ext w w:=Ext.refl w
 refine Qe (Qg [false,false,false,true] Z Z (Yz Z Z (fun b1 w1 e1 s1 h1=>?_)))
 have g_b1 : w.heap.size ≤ b1:=by have:=E.size;omega
 have y_b1:=h1.lt
 replace E:=E.trans e1
 have z1:=e1.size
 refine Yj Xv Z (fun b2 w2 e2 s2 h2=>?_)
 have g_b2 : w.heap.size ≤ b2:=by have:=E.size;omega
 have y_b2:=h2.lt
 replace E:=E.trans e2;replace h1:=h1.ext e2
 have z2:=e2.size
 refine Yj K0 Z (fun b3 w3 e3 s3 h3=>?_)
 have g_b3 : w.heap.size ≤ b3:=by have:=E.size;omega
 have y_b3:=h3.lt
 replace E:=E.trans e3;replace h1:=h1.ext e3;replace h2:=h2.ext e3
 have z3:=e3.size
 refine Qa (Qf Z) Z (Qc (Qe (Qg [true,false,false,false] Z Z (Qa (Qy Xv Z h1.at Z) Z (Qu Tryz.call68 Z (c_copyLink [.int .i64 x.cap,o1,.int .i64 x.credits,.int .i64 x.back,.int .i64 x.sent,.int .i64 x.got] x _ (Link.mkR x (RdD.any (hd1.ext E))) hb) Z (fun _ w4 e4 ho1=>?_))))))
 obtain ⟨_,rfl,ho1⟩:=ho1
 have g_ho1 : w.heap.size ≤ w3.heap.size:=E.size
 replace E:=E.trans e4;replace h1:=h1.ext e4;replace h2:=h2.ext e4;replace h3:=h3.ext e4
 have z4:=e4.size
 obtain ⟨o2,rfl,sp1,hw1⟩:=Link.opO ho1
 refine Yj Xv Z (fun b4 w5 e5 s4 h4=>?_)
 have g_b4 : w.heap.size ≤ b4:=by have:=E.size;omega
 have y_b4:=h4.lt
 replace E:=E.trans e5;replace h1:=h1.ext e5;replace h2:=h2.ext e5;replace h3:=h3.ext e5;replace hw1:=hw1.ext e5
 have z5:=e5.size
 refine Q6 (cs':=[.int .i64 x.cap,o2,.int .i64 x.credits,.int .i64 x.back,.int .i64 x.sent,.int .i64 x.got]) Xv Z Z Z (Qj Z (Qj hw1.one (Qj Z (Qj Z (Qj Z (Qj Z Z)))))) h4 (Nat.le_of_ble_eq_true Z) Z (fun w6 m1 h4'=>?_)
 replace h4:=h4'
 replace E:=E.step m1 (fun g hg=>by cases hg;omega);replace h1:=h1.mod m1 (fun g hg=>by cases hg;omega);replace h2:=h2.mod m1 (fun g hg=>by cases hg;omega);replace h3:=h3.mod m1 (fun g hg=>by cases hg;omega);replace hw1:=hw1.mod m1 (fun g hg=>by cases hg;omega)
 have z6:=m1.size
 refine Qc (Qe (Qe (Qg [true,false,true,true,true,true,true,true,true] Z Z (Qa (Qy Xv Z h1.at Z) Z (Qu Tryz.call70 Z (c_LinkOk [.int .i64 x.cap,o1,.int .i64 x.credits,.int .i64 x.back,.int .i64 x.sent,.int .i64 x.got] x _ (Link.mkR x (RdD.any (hd1.ext E))) hr) Z (fun _ w7 e6 hv=>?_))))))
 subst hv
 replace E:=E.trans e6;replace h1:=h1.ext e6;replace h2:=h2.ext e6;replace h3:=h3.ext e6;replace hw1:=hw1.ext e6;replace h4:=h4.ext e6
 have z7:=e6.size
 refine Qa (Yt Z) Z (Qa (Qd Z) Z (Xd 5 [(0,.agg [.int .i64 x.cap,o1,.int .i64 x.credits,.int .i64 x.back,.int .i64 x.sent,.int .i64 x.got].toArray),(1,.pointer (some ⟨b1,0,none⟩)),(2,.pointer (some ⟨b2,0,none⟩)),(3,.pointer (some ⟨b3,0,none⟩)),(4,.bool false),(5,.pointer (some ⟨b4,0,none⟩)),(6,.agg [.int .i64 x.cap,o1,.int .i64 x.credits,.int .i64 x.back,.int .i64 x.sent,.int .i64 x.got].toArray),(7,.agg [.int .i64 x.cap,o2,.int .i64 x.credits,.int .i64 x.back,.int .i64 x.sent,.int .i64 x.got].toArray),(16,.bool ((!(Xb x)) || (((x.queue.length : Nat) : Int) == 0)))] (fun w'=>w7 = w') ?_ ?_))
 ·refine Y1 (gd:=11) Z Z (fun hg1=>?_) (fun hg1=>?_)
  ·refine Qh Z Z Z Z (Qh Z Z Z Z (Qh Z Z Z Z (Qh Z Z Z Z (Qa (Qx Z Z) Z (Qq ⟨Z,Z,Z,Z,Z,Z,Z,Z,congrArg (fun b=>some (Value.bool b)) (show true = ((!(Xb x)) || (((x.queue.length : Nat) : Int) == 0)) by first | (rw [hg1] <;> rfl) | (simp [hg1];done) | (simp only [Qp] <;> simp)),trivial⟩ Z)))))
  ·refine Qn Z Z (Qb X2 Z) Z (Qn Z Z (Qk Xo Z (h1.one 1 Z)) Z (Qn Z Z (Yb Tryz.underlying66 Z (hd1.ext E).len) Z (Qn Z Z (Xg Z Z) Z (Qa (Q1 Z Z) Z (Qq ⟨Z,Z,Z,Z,Z,Z,Z,Z,congrArg (fun b=>some (Value.bool b)) (show (((x.queue.length : Nat) : Int) == 0) = ((!(Xb x)) || (((x.queue.length : Nat) : Int) == 0)) by first | (rw [hg1] <;> rfl) | (simp [hg1];done) | (simp only [Qp] <;> simp)),trivial⟩ Z)))))
 rintro _ rfl
 refine Qc (Qr Z (fun hc1=>?_) (fun hc1=>?_))
 ·refine Qe (Qg [true,true,false,false,true] Z Z (Qa (Qy Xv Z h4.at Z) Z (Qa (R_build (⟨0,(⟨0,0⟩ : Stamp),0,0⟩ : Record) Z (fun _=>by kernel_rfl)) Z (Q6 (cs':=[.int .i64 x.cap,o2,.int .i64 x.credits,.int .i64 x.back,.int .i64 x.sent,.int .i64 x.got]) Xv Z Z Z (Qj Z (Qj hw1.one (Qj Z (Qj Z (Qj Z (Qj Z Z)))))) h2 (Nat.le_of_ble_eq_true Z) Z (fun w9 m2 h2'=>?_)))))
  replace h2:=h2'
  replace E:=E.step m2 (fun g hg=>by cases hg;omega);replace h1:=h1.mod m2 (fun g hg=>by cases hg;omega);replace h3:=h3.mod m2 (fun g hg=>by cases hg;omega);replace hw1:=hw1.mod m2 (fun g hg=>by cases hg;omega);replace h4:=h4.mod m2 (fun g hg=>by cases hg;omega)
  have z8:=m2.size
  refine Q6 (cs':=[.int .i64 ((⟨0,(⟨0,0⟩ : Stamp),0,0⟩ : Record).op),.int .i64 (((⟨0,(⟨0,0⟩ : Stamp),0,0⟩ : Record).stamp).epoch),.int .i64 (((⟨0,(⟨0,0⟩ : Stamp),0,0⟩ : Record).stamp).turn),.int .i64 ((⟨0,(⟨0,0⟩ : Stamp),0,0⟩ : Record).key),.int .i64 ((⟨0,(⟨0,0⟩ : Stamp),0,0⟩ : Record).val)]) K0 Z Z Z Z h3 (Nat.le_of_ble_eq_true Z) Z (fun w10 m3 h3'=>?_)
  replace h3:=h3'
  replace E:=E.step m3 (fun g hg=>by cases hg;omega);replace h1:=h1.mod m3 (fun g hg=>by cases hg;omega);replace h2:=h2.mod m3 (fun g hg=>by cases hg;omega);replace hw1:=hw1.mod m3 (fun g hg=>by cases hg;omega);replace h4:=h4.mod m3 (fun g hg=>by cases hg;omega)
  have z9:=m3.size
  refine Qa (Qf Z) Z (Qc (Qt (Gp (l:=[.cell 2 68,.cell 3 72,.tmp 4]) (vs:=[.agg [.int .i64 x.cap,o2,.int .i64 x.credits,.int .i64 x.back,.int .i64 x.sent,.int .i64 x.got].toArray,.agg (Enc.enc (⟨0,(⟨0,0⟩ : Stamp),0,0⟩ : Record)).toArray,.bool false]) Z ⟨.cell Z (Yc Xv h2.at Z),.cell Z (Yc K0 h3.at Z),.tmp Z,trivial⟩ Z E ?_)))
  rw [took_no hc1]
  exact ⟨_,Z,(Link.mkO x sp1 (Own.widen hw1 (by omega) (by omega)))⟩
 ·have htl:=took_lt hc1
  refine Qm (Qe (Qg [true,true,true,true,false] Z Z (Qa (Qb X2 Z) Z (Qa (Qk Xo Z (h4.one 1 Z)) Z ?_))))
  have hk1 : 1 ≤ x.queue.length:=by first | assumption | omega
  have hs1:=Own.slFromE (α:=Record) hw1 hk1
  replace hs1 : Own w7 w3.heap.size w4.heap.size 5 (slFrom o2 1 5) (List.flatMap (Enc.enc (α:=Record)) (List.drop 1 x.queue)):=hs1
  have hb1 : Become w7 o2 (slFrom o2 1 5):=fun g hg=>.inl (by rwa [Bh] at hg)
  replace sp1:=SepL.set hb1 0 rfl sp1 ⟨(Own.lt hw1),trivial⟩
  replace sp1 : SepL [slFrom o2 1 5]:=sp1
  refine Qa (Ay K2 Z Z (Own.roomE (α:=Record) hw1) hk1) Z (Qa (Qb X2 Z) Z (Yh (cs':=[.int .i64 x.cap,slFrom o2 1 5,.int .i64 x.credits,.int .i64 x.back,.int .i64 x.sent,.int .i64 x.got]) Xo Z Z hs1.one h4 (Nat.le_of_ble_eq_true Z) Z (fun w11 m4 h4'=>?_)))
  replace h4:=h4'
  replace E:=E.step m4 (fun g hg=>by cases hg;omega);replace h1:=h1.mod m4 (fun g hg=>by cases hg;omega);replace h2:=h2.mod m4 (fun g hg=>by cases hg;omega);replace h3:=h3.mod m4 (fun g hg=>by cases hg;omega);replace hs1:=hs1.mod m4 (fun g hg=>by cases hg;omega)
  have z10:=m4.size
  refine Qc (Qe (Qg [true,true,true,true,false] Z Z (Qa (Qb Vz Z) Z (Qa (Qk Yp Z (h4.one 5 Z)) Z (Qa (Yd Z Z Z) Z (Qa (Qb Vz Z) Z (Yh (cs':=[.int .i64 x.cap,slFrom o2 1 5,.int .i64 x.credits,.int .i64 x.back,.int .i64 x.sent,.int .i64 (IntKind.i64.wrap (x.got + 1))]) Yp Z Z Z h4 (Nat.le_of_ble_eq_true Z) Z (fun w12 m5 h4'=>?_))))))))
  replace h4:=h4'
  replace E:=E.step m5 (fun g hg=>by cases hg;omega);replace h1:=h1.mod m5 (fun g hg=>by cases hg;omega);replace h2:=h2.mod m5 (fun g hg=>by cases hg;omega);replace h3:=h3.mod m5 (fun g hg=>by cases hg;omega);replace hs1:=hs1.mod m5 (fun g hg=>by cases hg;omega)
  have z11:=m5.size
  refine Qc (Qe (Qg [true,true,true,true,false] Z Z (Qa (Qb V0 Z) Z (Qa (Qk Yp Z (h4.one 3 Z)) Z (Qa (Yd Z Z Z) Z (Qa (Qb V0 Z) Z (Yh (cs':=[.int .i64 x.cap,slFrom o2 1 5,.int .i64 x.credits,.int .i64 (IntKind.i64.wrap (x.back + 1)),.int .i64 x.sent,.int .i64 (IntKind.i64.wrap (x.got + 1))]) Yp Z Z Z h4 (Nat.le_of_ble_eq_true Z) Z (fun w13 m6 h4'=>?_))))))))
  replace h4:=h4'
  replace E:=E.step m6 (fun g hg=>by cases hg;omega);replace h1:=h1.mod m6 (fun g hg=>by cases hg;omega);replace h2:=h2.mod m6 (fun g hg=>by cases hg;omega);replace h3:=h3.mod m6 (fun g hg=>by cases hg;omega);replace hs1:=hs1.mod m6 (fun g hg=>by cases hg;omega)
  have z12:=m6.size
  refine Qc (Qe (S_regS Xp 5 [2,31] [(0,true)] [(1,true),(2,true),(3,true),(4,true)] [(6,false),(7,true)] (by decide +kernel) Z Z Z Z Z Z Z [(0,.agg [.int .i64 x.cap,o1,.int .i64 x.credits,.int .i64 x.back,.int .i64 x.sent,.int .i64 x.got].toArray),(1,.pointer (some ⟨b1,0,none⟩)),(2,.pointer (some ⟨b2,0,none⟩)),(3,.pointer (some ⟨b3,0,none⟩)),(4,.bool false),(5,.pointer (some ⟨b4,0,none⟩)),(6,.agg [.int .i64 x.cap,o1,.int .i64 x.credits,.int .i64 x.back,.int .i64 x.sent,.int .i64 x.got].toArray),(7,.agg [.int .i64 x.cap,o2,.int .i64 x.credits,.int .i64 x.back,.int .i64 x.sent,.int .i64 x.got].toArray),(16,.bool ((!(Xb x)) || (((x.queue.length : Nat) : Int) == 0))),(19,.pointer (some ⟨b4,1,none⟩)),(20,o2),(21,slFrom o2 1 5),(22,.pointer (some ⟨b4,1,none⟩)),(23,.pointer (some ⟨b4,5,none⟩)),(24,.int .i64 x.got),(25,.int .i64 (IntKind.i64.wrap (x.got + 1))),(26,.pointer (some ⟨b4,5,none⟩)),(27,.pointer (some ⟨b4,3,none⟩)),(28,.int .i64 x.back),(29,.int .i64 (IntKind.i64.wrap (x.back + 1))),(30,.pointer (some ⟨b4,3,none⟩)),(31,.agg [.int .i64 x.cap,slFrom o2 1 5,.int .i64 x.credits,.int .i64 (IntKind.i64.wrap (x.back + 1)),.int .i64 x.sent,.int .i64 (IntKind.i64.wrap (x.got + 1))].toArray)] [(2,.pointer (some ⟨b2,0,none⟩)),(31,.agg [.int .i64 x.cap,slFrom o2 1 5,.int .i64 x.credits,.int .i64 (IntKind.i64.wrap (x.back + 1)),.int .i64 x.sent,.int .i64 (IntKind.i64.wrap (x.got + 1))].toArray)] Z ⟨Z,Z,trivial⟩ (fun w'=>Ext w w' ∧ w13.heap.size ≤ w'.heap.size ∧ Blk w' b1 ([.int .i64 x.cap,o1,.int .i64 x.credits,.int .i64 x.back,.int .i64 x.sent,.int .i64 x.got]) ∧ Blk w' b2 [.int .i64 0,.slice none 0 0,.int .i64 0,.int .i64 0,.int .i64 0,.int .i64 0] ∧ Blk w' b3 [.int .i64 0,.int .i64 0,.int .i64 0,.int .i64 0,.int .i64 0] ∧ Blk w' b4 [.int .i64 x.cap,slFrom o2 1 5,.int .i64 x.credits,.int .i64 (IntKind.i64.wrap (x.back + 1)),.int .i64 x.sent,.int .i64 (IntKind.i64.wrap (x.got + 1))] ∧ Own w' w3.heap.size w4.heap.size 5 (slFrom o2 1 5) (List.flatMap (Enc.enc (α:=Record)) (List.drop 1 x.queue))) b2 (fun w'=>Blk w' b2 [.int .i64 x.cap,slFrom o2 1 5,.int .i64 x.credits,.int .i64 (IntKind.i64.wrap (x.back + 1)),.int .i64 x.sent,.int .i64 (IntKind.i64.wrap (x.got + 1))]) (fun w14 e7=>?_) (fun w14 hphi_w14=>?_)))
  ·replace E:=E.trans e7;replace h1:=h1.ext e7;replace h2:=h2.ext e7;replace h3:=h3.ext e7;replace h4:=h4.ext e7;replace hs1:=hs1.ext e7
   have z13:=e7.size
   refine Qa (Qy Xv Z h4.at Z) Z (Qq ⟨Z,Z,Z,Z,Z,Z,Z,Z,Z,Z,Z,Z,Z,Z,Z,Z,Z,Z,Z,Z,Z,Z,trivial⟩ ⟨E,(by omega),h1,h2,h3,h4,hs1⟩)
  clear E h1 h2 h3 h4 hs1
  obtain ⟨E,z14,h1,h2,h3,h4,hs1⟩:=hphi_w14
  refine ⟨fs_store (cs':=[.int .i64 x.cap,slFrom o2 1 5,.int .i64 x.credits,.int .i64 (IntKind.i64.wrap (x.back + 1)),.int .i64 x.sent,.int .i64 (IntKind.i64.wrap (x.got + 1))]) Xv Z Z Z (Qj Z (Qj hs1.one (Qj Z (Qj Z (Qj Z (Qj Z Z)))))) h2 (Nat.le_of_ble_eq_true Z) Z,?_⟩
  refine JS_st (v:=.pointer (some ⟨b1,1,none⟩)) (fun wX mX=>?_) Z ?_
  ·have E:=E.step mX (fun g hg=>by cases hg;omega);exact Qb X2 rfl
  refine JS_st (v:=o1) (fun wX mX=>?_) Z ?_
  ·have E:=E.step mX (fun g hg=>by cases hg;omega);replace h1:=h1.mod mX (fun g hg=>by cases hg;omega);exact Qk Xo rfl (h1.one 1 rfl)
  have hi1 : 0 < x.queue.length:=(by first | assumption | omega | (simp only [List.length_set];first | assumption | omega) | (simp only [List.getElem_set_self,List.length_set];first | assumption | omega))
  refine JS_st (v:=.pointer (some ⟨Y2 o1,Y9 o1 + 0 * 5,none⟩)) (fun wX mX=>?_) Z ?_
  ·have E:=E.step mX (fun g hg=>by cases hg;omega);exact Qv (i:=0) K2 rfl rfl (hd1.rd.ext E) hi1
  refine JS_st (v:=.agg (Enc.enc (x.queue[0]'hi1)).toArray) (fun wX mX=>?_) Z ?_
  ·have E:=E.step mX (fun g hg=>by cases hg;omega);exact Qy K0 rfl ((hd1.rd.ext E).get hi1) rfl
  refine JS_end (fun w15 m7 hR=>?_)
  replace h2:=hR
  clear hR
  replace E:=E.step m7 (fun g hg=>by cases hg;omega);replace h1:=h1.mod m7 (fun g hg=>by cases hg;omega);replace h3:=h3.mod m7 (fun g hg=>by cases hg;omega);replace h4:=h4.mod m7 (fun g hg=>by cases hg;omega);replace hs1:=hs1.mod m7 (fun g hg=>by cases hg;omega)
  have z15:=m7.size
  refine Q6 (cs':=[.int .i64 ((x.queue[0]'hi1).op),.int .i64 (((x.queue[0]'hi1).stamp).epoch),.int .i64 (((x.queue[0]'hi1).stamp).turn),.int .i64 ((x.queue[0]'hi1).key),.int .i64 ((x.queue[0]'hi1).val)]) K0 Z Z Z Z h3 (Nat.le_of_ble_eq_true Z) Z (fun w16 m8 h3'=>?_)
  replace h3:=h3'
  replace E:=E.step m8 (fun g hg=>by cases hg;omega);replace h1:=h1.mod m8 (fun g hg=>by cases hg;omega);replace h2:=h2.mod m8 (fun g hg=>by cases hg;omega);replace h4:=h4.mod m8 (fun g hg=>by cases hg;omega);replace hs1:=hs1.mod m8 (fun g hg=>by cases hg;omega)
  have z16:=m8.size
  refine Qa (Qf Z) Z (Qc (Qt (Gp (l:=[.cell 2 68,.cell 3 72,.tmp 4]) (vs:=[.agg [.int .i64 x.cap,slFrom o2 1 5,.int .i64 x.credits,.int .i64 (IntKind.i64.wrap (x.back + 1)),.int .i64 x.sent,.int .i64 (IntKind.i64.wrap (x.got + 1))].toArray,.agg (Enc.enc (x.queue[0]'hi1)).toArray,.bool true]) Z ⟨.cell Z (Yc Xv h2.at Z),.cell Z (Yc K0 h3.at Z),.tmp Z,trivial⟩ Z E ?_)))
  rw [took_yes hc1 htl]
  exact ⟨_,Z,(Link.mkO (⟨x.cap,List.drop 1 x.queue,x.credits,IntKind.i64.wrap (x.back + 1),x.sent,IntKind.i64.wrap (x.got + 1)⟩ : Link) sp1 (Own.widen hs1 (by omega) (by omega)))⟩

set_option maxRecDepth 20000 in
theorem c_copyGraph (cx : List Value) (x : Graph) (w : World) (hx : Dat.R w 0 w.heap.size cx x) (hb : Y7 x ≤ 1048576) : Ct Tryz.prog 66 [.agg cx.toArray] w (fun v w'=>∃ o,v = .agg [o,.int .i64 x.workers,.int .i64 x.cap].toArray ∧ OwS w' w.heap.size w'.heap.size o x.nodes):=by
 have hb2:=hb
 unfold Y7 Xr at hb2
 refine Yi Tryz.func66 Z Tryz.ntmps66 Z ?_
 obtain ⟨o1,rfl,hd1⟩:=Graph.op hx
 refine Q7 [(0,.agg [o1,.int .i64 x.workers,.int .i64 x.cap].toArray)] ⟨Z,trivial⟩ ?_
 have E : Ext w w:=Ext.refl w
 refine Qe (Qg [false,false] Z Z (Yz Z Z (fun b1 w1 e1 s1 h1=>?_)))
 have g_b1 : w.heap.size ≤ b1:=by have:=E.size;omega
 have y_b1:=h1.lt
 replace E:=E.trans e1
 have z1:=e1.size
 refine Yj Uh Z (fun b2 w2 e2 s2 h2=>?_)
 have g_b2 : w.heap.size ≤ b2:=by have:=E.size;omega
 have y_b2:=h2.lt
 replace E:=E.trans e2;replace h1:=h1.ext e2
 have z2:=e2.size
 refine Qc (Qe (Qg [true,true,true,true,true,false,false] Z Z (Qa (Qb Vn Z) Z (Qa (Qk Yp Z (h1.one 1 Z)) Z (Qa (Qb T1 Z) Z (Qa (Qk Yp Z (h1.one 2 Z)) Z ?_))))))
 have hbl1 : ∀ w,(Instr.build 34 ([(1,.int .i64 x.workers),(2,.int .i64 x.cap)]).toArray).run Tryz.prog w = .ok (.agg [.slice none 0 0,.int .i64 x.workers,.int .i64 x.cap].toArray) w:=by clear E;intro w;kernel_rfl
 refine Qa (G2 [.slice none 0 0,.int .i64 x.workers,.int .i64 x.cap] Z hbl1) Z (Yj Uh Z (fun b3 w3 e3 s3 h3=>?_))
 have g_b3 : w.heap.size ≤ b3:=by have:=E.size;omega
 have y_b3:=h3.lt
 replace E:=E.trans e3;replace h1:=h1.ext e3;replace h2:=h2.ext e3
 have z3:=e3.size
 refine Q6 (cs':=[.slice none 0 0,.int .i64 x.workers,.int .i64 x.cap]) Uh Z Z Z Z h3 (Nat.le_of_ble_eq_true Z) Z (fun w4 m1 h3'=>?_)
 replace h3:=h3'
 replace E:=E.step m1 (fun g hg=>by cases hg;omega);replace h1:=h1.mod m1 (fun g hg=>by cases hg;omega);replace h2:=h2.mod m1 (fun g hg=>by cases hg;omega)
 have z4:=m1.size
 refine Qc (Qe (Qe (Qg [true,true,true,true] Z Z (Qa (Qb Kn Z) Z (Qa (Qk Ge Z (h1.one 0 Z)) Z (Qa (Yb Tryz.underlying32 Z (hd1.ext E).len) Z (Qa (Qd Z) Z (Qc (Qw (Yk (fun (xq : Nat × Value)=>let ⟨k0,vo0⟩:=xq;[(2,.pointer (some ⟨b2,0,none⟩)),(3,.pointer (some ⟨b3,0,none⟩)),(12,o1),(13,.int .i64 ((x.nodes.length : Nat) : Int)),(14,.int .i64 ((k0 : Nat) : Int))]) (fun (xq : Nat × Value) w'=>let ⟨k0,vo0⟩:=xq;Ext w w' ∧ w4.heap.size ≤ w'.heap.size ∧ Blk w' b1 ([o1,.int .i64 x.workers,.int .i64 x.cap]) ∧ Blk w' b2 [.slice none 0 0,.int .i64 0,.int .i64 0] ∧ k0 ≤ x.nodes.length ∧ OwS w' w4.heap.size w'.heap.size vo0 (x.nodes.take k0) ∧ Blk w' b3 [vo0,.int .i64 x.workers,.int .i64 x.cap]) (fun (xq : Nat × Value)=>let ⟨k0,vo0⟩:=xq;x.nodes.length - k0) (0,.slice none 0 0) ⟨Z,Z,Z,Z,Z,trivial⟩ ⟨E,Nat.le_refl _,h1,h2,Nat.zero_le _,(OwS.nil _ _ _),h3⟩ ?_))))))))))
 clear E h1 h2 h3
 rintro ⟨k0,vo0⟩ w5 ⟨E,z5,h1,h2,hk0,hoC0,h3⟩
 refine Q7 [(2,.pointer (some ⟨b2,0,none⟩)),(3,.pointer (some ⟨b3,0,none⟩)),(12,o1),(13,.int .i64 ((x.nodes.length : Nat) : Int)),(14,.int .i64 ((k0 : Nat) : Int))] ⟨Z,Z,Z,Z,Z,trivial⟩ ?_
 refine Qe (Qg [true] Z Z (Qa (Yf Z Z) Z (Qc (Qe (Qr Z (fun hc1=>?_) (fun hc1=>?_))))))
 ·have hc1n : k0 < x.nodes.length:=by first | (have h:=of_decide_eq_true hc1;omega) | (have h:=hc1;simp at h;omega)
  refine Qm (Qe (Qw (Qe (Qg [true,true,false,false] Z Z ?_))))
  have hi1 : k0 < x.nodes.length:=(by first | assumption | omega | (simp only [List.length_set];first | assumption | omega) | (simp only [List.getElem_set_self,List.length_set];first | assumption | omega))
  obtain ⟨_,hr1,ha1⟩:=RdD.get hd1 hi1
  obtain ⟨o2,rfl,hd2⟩:=Node.op hr1
  replace ha1 : At w (Y2 o1) (Y9 o1 + k0 * 4) [.int .i64 ((x.nodes[k0]'hi1).kind),.int .i64 ((x.nodes[k0]'hi1).a),.int .i64 ((x.nodes[k0]'hi1).b),o2]:=ha1
  refine Qa (Qv (i:=k0) Gt Z Z (hd1.ext E).1 hi1) Z (Qa (Qy K7 Z (ha1.ext E) Z) Z (Yj K7 Z (fun b4 w6 e4 s4 h4=>?_)))
  have g_b4 : w.heap.size ≤ b4:=by have:=E.size;omega
  have y_b4:=h4.lt
  replace E:=E.trans e4;replace h1:=h1.ext e4;replace h2:=h2.ext e4;replace hoC0:=hoC0.ext e4;replace h3:=h3.ext e4
  have z6:=e4.size
  refine Q6 (cs':=[.int .i64 ((x.nodes[k0]'hi1).kind),.int .i64 ((x.nodes[k0]'hi1).a),.int .i64 ((x.nodes[k0]'hi1).b),o2]) K7 Z Z Z (Qj Z (Qj Z (Qj Z (Qj (RdD.one (hd2.ext E)) Z)))) h4 (Nat.le_of_ble_eq_true Z) Z (fun w7 m2 h4'=>?_)
  replace h4:=h4'
  replace E:=E.step m2 (fun g hg=>by cases hg;omega);replace h1:=h1.mod m2 (fun g hg=>by cases hg;omega);replace h2:=h2.mod m2 (fun g hg=>by cases hg;omega);replace hoC0:=hoC0.mod m2 (fun g hg=>by cases hg;omega);replace h3:=h3.mod m2 (fun g hg=>by cases hg;omega)
  have z7:=m2.size
  refine Qc (C0 Xp [5] [(0,true),(1,true),(2,true),(3,false),(4,false)] [(5,false),(6,true),(7,false)] (by decide +kernel) Z Z (fun w8 e5=>?_))
  replace E:=E.trans e5;replace h1:=h1.ext e5;replace h2:=h2.ext e5;replace hoC0:=hoC0.ext e5;replace h3:=h3.ext e5;replace h4:=h4.ext e5
  have z8:=e5.size
  refine Qa (Qb Kn Z) Z (Qa (Qk Ge Z (h3.one 0 Z)) Z (Qa (Qy K7 Z h4.at Z) Z (Qu Tryz.call113 Z (c_copyNode [.int .i64 ((x.nodes[k0]'hi1).kind),.int .i64 ((x.nodes[k0]'hi1).a),.int .i64 ((x.nodes[k0]'hi1).b),o2] (x.nodes[k0]'hi1) _ (Node.mkR (x.nodes[k0]'hi1) (RdD.any (hd2.ext E))) (outs_le hb (List.getElem_mem _))) Z (fun _ w9 e6 ho1=>?_))))
  obtain ⟨_,rfl,ho1⟩:=ho1
  have g_ho1 : w.heap.size ≤ w8.heap.size:=E.size
  replace E:=E.trans e6;replace h1:=h1.ext e6;replace h2:=h2.ext e6;replace hoC0:=hoC0.ext e6;replace h3:=h3.ext e6;replace h4:=h4.ext e6
  have z9:=e6.size
  obtain ⟨o3,rfl,sp1,hw1⟩:=Node.opO ho1
  refine Y8 (vs:=[.agg [.int .i64 ((x.nodes[k0]'hi1).kind),.int .i64 ((x.nodes[k0]'hi1).a),.int .i64 ((x.nodes[k0]'hi1).b),o3].toArray]) (css:=[[.int .i64 ((x.nodes[k0]'hi1).kind),.int .i64 ((x.nodes[k0]'hi1).a),.int .i64 ((x.nodes[k0]'hi1).b),o3]]) Gt Z Z ⟨⟨Z,Z⟩,trivial⟩ Z Z (fun b5 w10 e7 s5 h5=>?_)
  replace h5 : Blk w10 b5 [.int .i64 ((x.nodes[k0]'hi1).kind),.int .i64 ((x.nodes[k0]'hi1).a),.int .i64 ((x.nodes[k0]'hi1).b),o3]:=h5
  have g_b5 : w.heap.size ≤ b5:=by have:=E.size;omega
  have y_b5:=h5.lt
  replace E:=E.trans e7;replace h1:=h1.ext e7;replace h2:=h2.ext e7;replace hoC0:=hoC0.ext e7;replace h3:=h3.ext e7;replace h4:=h4.ext e7;replace hw1:=hw1.ext e7
  have z10:=e7.size
  refine Tl ?_
  refine J2_X Z ?_
  refine Vi (lo:=w4.heap.size) (hi:=w5.heap.size) (lo2:=w8.heap.size) (hi2:=w10.heap.size) Gt Z Z hoC0 (Src.ofBlk h5 Z) (Node.mkO (x.nodes[k0]'hi1) sp1 (Own.widen hw1 (by omega) (by omega))) (by omega) (by simp only [List.length_take,show Dat.sz Node = 4 from Z];omega) (by decide) (by omega) (by omega) (by omega) (by omega) (by omega) Z Z (fun v1 w11 m3 ho2=>?_)
  have hqb:=OwS.inn hoC0
  replace E:=E.step m3 (fun g hg=>by have:=hqb g hg;omega);replace h1:=h1.mod m3 (fun g hg=>by have:=hqb g hg;omega);replace h2:=h2.mod m3 (fun g hg=>by have:=hqb g hg;omega);replace h3:=h3.mod m3 (fun g hg=>by have:=hqb g hg;omega);replace h4:=h4.mod m3 (fun g hg=>by have:=hqb g hg;omega)
  have z11:=m3.size
  clear hqb
  refine B1 ?_
  refine Qa (Qb Kn Z) Z (Yh (cs':=[v1,.int .i64 x.workers,.int .i64 x.cap]) Ge Z Z (RdD.one (OwS.rd ho2)) h3 (Nat.le_of_ble_eq_true Z) Z (fun w12 m4 h3'=>?_))
  replace h3:=h3'
  replace E:=E.step m4 (fun g hg=>by cases hg;omega);replace h1:=h1.mod m4 (fun g hg=>by cases hg;omega);replace h2:=h2.mod m4 (fun g hg=>by cases hg;omega);replace h4:=h4.mod m4 (fun g hg=>by cases hg;omega);replace ho2:=ho2.mod m4 (fun g hg=>by cases hg;omega)
  have z12:=m4.size
  refine Qc (Q5 (Yv (Qg [true,true] Z Z (Qa (Yd Z Z (Yy hc1n (hd1.ext E).1.1)) Z (Qa (Qd Z) Z (Qc (Q5 (Yg (k0 + 1,v1) (by simp;omega) ⟨Z,Z,Z,Z,Z,trivial⟩ ⟨E,(by omega),h1,h2,(by omega),(by rw [List.take_succ_eq_append_getElem (by assumption)];exact OwS.widen ho2 (by omega) (by omega)),h3⟩))))))))
 ·have hc1n : ¬ k0 < x.nodes.length:=by first | (have h:=of_decide_eq_false hc1;omega) | (have h:=hc1;simp at h;omega)
  refine Ym (Q4 (Q2 ?_))
  refine Qe (Qg [true,false] Z Z (Qa (Qy Uh Z h3.at Z) Z (Q6 (cs':=[vo0,.int .i64 x.workers,.int .i64 x.cap]) Uh Z Z Z (Qj (RdD.one (OwS.rd hoC0)) (Qj Z (Qj Z Z))) h2 (Nat.le_of_ble_eq_true Z) Z (fun w13 m5 h2'=>?_))))
  replace h2:=h2'
  replace E:=E.step m5 (fun g hg=>by cases hg;omega);replace h1:=h1.mod m5 (fun g hg=>by cases hg;omega);replace hoC0:=hoC0.mod m5 (fun g hg=>by cases hg;omega);replace h3:=h3.mod m5 (fun g hg=>by cases hg;omega)
  have z13:=m5.size
  refine Qc (Qt (Xu Z Z (Yc Uh h2.at Z) E ?_))
  rw [List.take_of_length_le (by omega)] at hoC0
  exact ⟨_,Z,OwS.widen hoC0 (by have:=E.size;omega) (by omega)⟩

set_option maxHeartbeats 4000000 in
set_option maxRecDepth 20000 in
theorem s_l08Copy (cx : List Value) (x : Graph) (w : World) (hx : Dat.R w 0 w.heap.size cx x) (hb : Y7 x ≤ 1048576) : Ct Tryz.prog 99 [.agg cx.toArray] w (fun v w'=>∃ o,v = .agg [o,.int .i64 x.workers,.int .i64 x.cap].toArray ∧ OwS w' w.heap.size w'.heap.size o x.nodes):=by
 have hb2:=hb
 unfold Y7 Xr at hb2
 refine Yi Tryz.func99 Z Tryz.ntmps99 Z ?_
 obtain ⟨o1,rfl,hd1⟩:=Graph.op hx
 refine Q7 [(0,.agg [o1,.int .i64 x.workers,.int .i64 x.cap].toArray)] ⟨Z,trivial⟩ ?_
 have E : Ext w w:=Ext.refl w
 refine Qe (Qg [false,false] Z Z (Yz Z Z (fun b1 w1 e1 s1 h1=>?_)))
 have g_b1 : w.heap.size ≤ b1:=by have:=E.size;omega
 have y_b1:=h1.lt
 replace E:=E.trans e1
 have z1:=e1.size
 refine Yj Uh Z (fun b2 w2 e2 s2 h2=>?_)
 have g_b2 : w.heap.size ≤ b2:=by have:=E.size;omega
 have y_b2:=h2.lt
 replace E:=E.trans e2;replace h1:=h1.ext e2
 have z2:=e2.size
 refine Qc (Qe (Qg [true,false,false] Z Z (Qa (Qy Uh Z h1.at Z) Z (Yj Uh Z (fun b3 w3 e3 s3 h3=>?_)))))
 have g_b3 : w.heap.size ≤ b3:=by have:=E.size;omega
 have y_b3:=h3.lt
 replace E:=E.trans e3;replace h1:=h1.ext e3;replace h2:=h2.ext e3
 have z3:=e3.size
 refine Q6 (cs':=[o1,.int .i64 x.workers,.int .i64 x.cap]) Uh Z Z Z (Qj (RdD.one (hd1.ext E)) (Qj Z (Qj Z Z))) h3 (Nat.le_of_ble_eq_true Z) Z (fun w4 m1 h3'=>?_)
 replace h3:=h3'
 replace E:=E.step m1 (fun g hg=>by cases hg;omega);replace h1:=h1.mod m1 (fun g hg=>by cases hg;omega);replace h2:=h2.mod m1 (fun g hg=>by cases hg;omega)
 have z4:=m1.size
 refine Qc (Qe (Qg [false,true,false] Z Z (Y8 (vs:=[]) (css:=[]) Gt Z Z trivial Z Z (fun b4 w5 e4 s4 h4=>?_))))
 replace h4 : Blk w5 b4 []:=h4
 have g_b4 : w.heap.size ≤ b4:=by have:=E.size;omega
 have y_b4:=h4.lt
 replace E:=E.trans e4;replace h1:=h1.ext e4;replace h2:=h2.ext e4;replace h3:=h3.ext e4
 have z5:=e4.size
 refine Qa (Qb Kn Z) Z (Yh (cs':=[.slice (some ⟨b4,0,none⟩) 0 0,.int .i64 x.workers,.int .i64 x.cap]) Ge Z Z Z h3 (Nat.le_of_ble_eq_true Z) Z (fun w6 m2 h3'=>?_))
 replace h3:=h3'
 replace E:=E.step m2 (fun g hg=>by cases hg;omega);replace h1:=h1.mod m2 (fun g hg=>by cases hg;omega);replace h2:=h2.mod m2 (fun g hg=>by cases hg;omega);replace h4:=h4.mod m2 (fun g hg=>by cases hg;omega)
 have z6:=m2.size
 refine Qc (Qe (Qe (Qg [true] Z Z (Qa (Qf Z) Z (Qc (Qw (Yk (fun (xq : Nat × Value)=>let ⟨k0,vo0⟩:=xq;[(1,.pointer (some ⟨b1,0,none⟩)),(2,.pointer (some ⟨b2,0,none⟩)),(3,.pointer (some ⟨b3,0,none⟩)),(4,.int .i64 ((k0 : Nat) : Int)),(8,.pointer (some ⟨b3,0,none⟩))]) (fun (xq : Nat × Value) w'=>let ⟨k0,vo0⟩:=xq;Ext w w' ∧ w6.heap.size ≤ w'.heap.size ∧ Blk w' b1 ([o1,.int .i64 x.workers,.int .i64 x.cap]) ∧ Blk w' b2 [.slice none 0 0,.int .i64 0,.int .i64 0] ∧ k0 ≤ x.nodes.length ∧ OwS w' b4 w'.heap.size vo0 (x.nodes.take k0) ∧ Blk w' b3 [vo0,.int .i64 x.workers,.int .i64 x.cap]) (fun (xq : Nat × Value)=>let ⟨k0,vo0⟩:=xq;x.nodes.length - k0) (0,.slice (some ⟨b4,0,none⟩) 0 0) ⟨Z,Z,Z,Z,Z,trivial⟩ ⟨E,Nat.le_refl _,h1,h2,Nat.zero_le _,(OwS.lit h4 (by omega)),h3⟩ ?_)))))))
 clear E h1 h2 h3 h4
 rintro ⟨k0,vo0⟩ w7 ⟨E,z7,h1,h2,hk0,hoC0,h3⟩
 refine Q7 [(1,.pointer (some ⟨b1,0,none⟩)),(2,.pointer (some ⟨b2,0,none⟩)),(3,.pointer (some ⟨b3,0,none⟩)),(4,.int .i64 ((k0 : Nat) : Int)),(8,.pointer (some ⟨b3,0,none⟩))] ⟨Z,Z,Z,Z,Z,trivial⟩ ?_
 refine Qe (Qe (Qg [true,true,true,true,true] Z Z (Qa (Qd Z) Z (Qa (Qb Kn Z) Z (Qa (Qk Ge Z (h1.one 0 Z)) Z (Qa (Yb Tryz.underlying32 Z (hd1.ext E).len) Z (Qa (Yf Z Z) Z (Qc (Qr Z (fun hc1=>?_) (fun hc1=>?_))))))))))
 ·have hc1n : k0 < x.nodes.length:=by first | (have h:=of_decide_eq_true hc1;omega) | (have h:=hc1;simp at h;omega)
  refine Qm (Qe (Qw (Qe (Qg [true,true,true,true,true,false,false] Z Z (Qa (Qb Kn Z) Z (Qa (Qk Ge Z (h1.one 0 Z)) Z (Qa (Qd Z) Z ?_)))))))
  have hi1 : k0 < x.nodes.length:=(by first | assumption | omega | (simp only [List.length_set];first | assumption | omega) | (simp only [List.getElem_set_self,List.length_set];first | assumption | omega))
  obtain ⟨_,hr1,ha1⟩:=RdD.get hd1 hi1
  obtain ⟨o2,rfl,hd2⟩:=Node.op hr1
  replace ha1 : At w (Y2 o1) (Y9 o1 + k0 * 4) [.int .i64 ((x.nodes[k0]'hi1).kind),.int .i64 ((x.nodes[k0]'hi1).a),.int .i64 ((x.nodes[k0]'hi1).b),o2]:=ha1
  refine Qa (Qv (i:=k0) Gt Z Z (hd1.ext E).1 hi1) Z (Qa (Qy K7 Z (ha1.ext E) Z) Z (Yj K7 Z (fun b5 w8 e5 s5 h5=>?_)))
  have g_b5 : w.heap.size ≤ b5:=by have:=E.size;omega
  have y_b5:=h5.lt
  replace E:=E.trans e5;replace h1:=h1.ext e5;replace h2:=h2.ext e5;replace hoC0:=hoC0.ext e5;replace h3:=h3.ext e5
  have z8:=e5.size
  refine Q6 (cs':=[.int .i64 ((x.nodes[k0]'hi1).kind),.int .i64 ((x.nodes[k0]'hi1).a),.int .i64 ((x.nodes[k0]'hi1).b),o2]) K7 Z Z Z (Qj Z (Qj Z (Qj Z (Qj (RdD.one (hd2.ext E)) Z)))) h5 (Nat.le_of_ble_eq_true Z) Z (fun w9 m3 h5'=>?_)
  replace h5:=h5'
  replace E:=E.step m3 (fun g hg=>by cases hg;omega);replace h1:=h1.mod m3 (fun g hg=>by cases hg;omega);replace h2:=h2.mod m3 (fun g hg=>by cases hg;omega);replace hoC0:=hoC0.mod m3 (fun g hg=>by cases hg;omega);replace h3:=h3.mod m3 (fun g hg=>by cases hg;omega)
  have z9:=m3.size
  refine Qc (Qe (Qg [false,true,true,false,true,false] Z Z (Y8 (vs:=[]) (css:=[]) Uq Z Z trivial Z Z (fun b6 w10 e6 s6 h6=>?_))))
  replace h6 : Blk w10 b6 []:=h6
  have g_b6 : w.heap.size ≤ b6:=by have:=E.size;omega
  have y_b6:=h6.lt
  replace E:=E.trans e6;replace h1:=h1.ext e6;replace h2:=h2.ext e6;replace hoC0:=hoC0.ext e6;replace h3:=h3.ext e6;replace h5:=h5.ext e6
  have z10:=e6.size
  refine Qa (Qb Xk Z) Z (Qa (Qk Ks Z (h5.one 3 Z)) Z (Hr Uq Z Z (Own.ofBlk (lo:=b6) (hi:=b6 + 1) (sz:=1) h6 (Nat.le_refl _) (Nat.lt_succ_self _) (by simp) (by simp [maxLen])) (RdS.src (hd2.rd.ext E)) (Xi _) (by have h9:=outs_le hb (List.getElem_mem (by assumption));simp only [Yx,List.length_nil];simp only [Enc.sz];omega) (by decide) (by omega) (by omega) Z Z (fun v1 w11 m4 ho1=>?_)))
  replace E:=E.step m4 (fun g hg=>by have:=Own.blk (Own.ofBlk (lo:=b6) (hi:=b6 + 1) (sz:=1) h6 (Nat.le_refl _) (Nat.lt_succ_self _) (by simp) (by simp [maxLen])) g hg;omega);replace h1:=h1.mod m4 (fun g hg=>by have:=Own.blk (Own.ofBlk (lo:=b6) (hi:=b6 + 1) (sz:=1) h6 (Nat.le_refl _) (Nat.lt_succ_self _) (by simp) (by simp [maxLen])) g hg;omega);replace h2:=h2.mod m4 (fun g hg=>by have:=Own.blk (Own.ofBlk (lo:=b6) (hi:=b6 + 1) (sz:=1) h6 (Nat.le_refl _) (Nat.lt_succ_self _) (by simp) (by simp [maxLen])) g hg;omega);replace hoC0:=hoC0.mod m4 (fun g hg=>by have:=Own.blk (Own.ofBlk (lo:=b6) (hi:=b6 + 1) (sz:=1) h6 (Nat.le_refl _) (Nat.lt_succ_self _) (by simp) (by simp [maxLen])) g hg;omega);replace h3:=h3.mod m4 (fun g hg=>by have:=Own.blk (Own.ofBlk (lo:=b6) (hi:=b6 + 1) (sz:=1) h6 (Nat.le_refl _) (Nat.lt_succ_self _) (by simp) (by simp [maxLen])) g hg;omega);replace h5:=h5.mod m4 (fun g hg=>by have:=Own.blk (Own.ofBlk (lo:=b6) (hi:=b6 + 1) (sz:=1) h6 (Nat.le_refl _) (Nat.lt_succ_self _) (by simp) (by simp [maxLen])) g hg;omega)
  have z11:=m4.size
  refine Qa (Qb Xk Z) Z (Yh (cs':=[.int .i64 ((x.nodes[k0]'hi1).kind),.int .i64 ((x.nodes[k0]'hi1).a),.int .i64 ((x.nodes[k0]'hi1).b),v1]) Ks Z Z ho1.one h5 (Nat.le_of_ble_eq_true Z) Z (fun w12 m5 h5'=>?_))
  replace h5:=h5'
  replace E:=E.step m5 (fun g hg=>by cases hg;omega);replace h1:=h1.mod m5 (fun g hg=>by cases hg;omega);replace h2:=h2.mod m5 (fun g hg=>by cases hg;omega);replace hoC0:=hoC0.mod m5 (fun g hg=>by cases hg;omega);replace h3:=h3.mod m5 (fun g hg=>by cases hg;omega);replace ho1:=ho1.mod m5 (fun g hg=>by cases hg;omega)
  have z12:=m5.size
  refine Qc (Qg [true,true,true,false,false,true,false] Z Z (Qa (Qb Kn Z) Z (Qa (Qk Ge Z (h3.one 0 Z)) Z (Qa (Qy K7 Z h5.at Z) Z (Y8 (vs:=[.agg [.int .i64 ((x.nodes[k0]'hi1).kind),.int .i64 ((x.nodes[k0]'hi1).a),.int .i64 ((x.nodes[k0]'hi1).b),v1].toArray]) (css:=[[.int .i64 ((x.nodes[k0]'hi1).kind),.int .i64 ((x.nodes[k0]'hi1).a),.int .i64 ((x.nodes[k0]'hi1).b),v1]]) Gt Z Z ⟨⟨Z,Z⟩,trivial⟩ Z Z (fun b7 w13 e7 s7 h7=>?_))))))
  replace h7 : Blk w13 b7 [.int .i64 ((x.nodes[k0]'hi1).kind),.int .i64 ((x.nodes[k0]'hi1).a),.int .i64 ((x.nodes[k0]'hi1).b),v1]:=h7
  have g_b7 : w.heap.size ≤ b7:=by have:=E.size;omega
  have y_b7:=h7.lt
  replace E:=E.trans e7;replace h1:=h1.ext e7;replace h2:=h2.ext e7;replace hoC0:=hoC0.ext e7;replace h3:=h3.ext e7;replace h5:=h5.ext e7;replace ho1:=ho1.ext e7
  have z13:=e7.size
  refine Vi (lo:=b4) (hi:=w7.heap.size) (lo2:=b6) (hi2:=w13.heap.size) Gt Z Z hoC0 (Src.ofBlk h7 Z) (Node.mkO (⟨(x.nodes[k0]'hi1).kind,(x.nodes[k0]'hi1).a,(x.nodes[k0]'hi1).b,[] ++ ((x.nodes[k0]'hi1).outs)⟩ : Node) ⟨trivial,trivial⟩ (Own.widen ho1 (by omega) (by omega))) (by omega) (by simp only [List.length_take,show Dat.sz Node = 4 from Z];omega) (by decide) (by omega) (by omega) (by omega) (by omega) (by omega) Z Z (fun v2 w14 m6 ho2=>?_)
  have hqb:=OwS.inn hoC0
  replace E:=E.step m6 (fun g hg=>by have:=hqb g hg;omega);replace h1:=h1.mod m6 (fun g hg=>by have:=hqb g hg;omega);replace h2:=h2.mod m6 (fun g hg=>by have:=hqb g hg;omega);replace h3:=h3.mod m6 (fun g hg=>by have:=hqb g hg;omega);replace h5:=h5.mod m6 (fun g hg=>by have:=hqb g hg;omega)
  have z14:=m6.size
  clear hqb
  refine Qa (Qb Kn Z) Z (Yh (cs':=[v2,.int .i64 x.workers,.int .i64 x.cap]) Ge Z Z (RdD.one (OwS.rd ho2)) h3 (Nat.le_of_ble_eq_true Z) Z (fun w15 m7 h3'=>?_))
  replace h3:=h3'
  replace E:=E.step m7 (fun g hg=>by cases hg;omega);replace h1:=h1.mod m7 (fun g hg=>by cases hg;omega);replace h2:=h2.mod m7 (fun g hg=>by cases hg;omega);replace h5:=h5.mod m7 (fun g hg=>by cases hg;omega);replace ho2:=ho2.mod m7 (fun g hg=>by cases hg;omega)
  have z15:=m7.size
  refine Qc (Q5 (Yv (Qg [true,true,true] Z Z (Qa (Qd Z) Z (Qa (Yd Z Z (Yy hc1n (hd1.ext E).1.1)) Z (Qa (Qf Z) Z (Qc (Q5 (Yg (k0 + 1,v2) (by simp;omega) ⟨Z,Z,Z,Z,Z,trivial⟩ ⟨E,(by omega),h1,h2,(by omega),(by rw [List.take_succ_eq_append_getElem (by assumption)];exact OwS.widen ho2 (by omega) (by omega)),h3⟩)))))))))
 ·have hc1n : ¬ k0 < x.nodes.length:=by first | (have h:=of_decide_eq_false hc1;omega) | (have h:=hc1;simp at h;omega)
  refine Ym (Q4 (Q2 ?_))
  refine Qe (Qg [true,false] Z Z (Qa (Qy Uh Z h3.at Z) Z (Q6 (cs':=[vo0,.int .i64 x.workers,.int .i64 x.cap]) Uh Z Z Z (Qj (RdD.one (OwS.rd hoC0)) (Qj Z (Qj Z Z))) h2 (Nat.le_of_ble_eq_true Z) Z (fun w16 m8 h2'=>?_))))
  replace h2:=h2'
  replace E:=E.step m8 (fun g hg=>by cases hg;omega);replace h1:=h1.mod m8 (fun g hg=>by cases hg;omega);replace hoC0:=hoC0.mod m8 (fun g hg=>by cases hg;omega);replace h3:=h3.mod m8 (fun g hg=>by cases hg;omega)
  have z16:=m8.size
  refine Qc (Qt (Xu Z Z (Yc Uh h2.at Z) E ?_))
  rw [List.take_of_length_le (by omega)] at hoC0
  exact ⟨_,Z,OwS.widen hoC0 (by have:=E.size;omega) (by omega)⟩

set_option maxHeartbeats 4000000 in
set_option maxRecDepth 20000 in
theorem c_copyCluster (cx : List Value) (x : Cluster) (w : World) (hx : Dat.R w 0 w.heap.size cx x) (hb : Ya x ≤ 1048576) : Ct Tryz.prog 26 [.agg cx.toArray] w (fun v w'=>∃ o1 o2 o3 o4 o5,v = .agg [o1,.int .i64 x.graph.workers,.int .i64 x.graph.cap,o2,o3,o4,o5].toArray ∧ OwC w' w.heap.size w'.heap.size o1 o2 o3 o4 o5 x):=by
 have hb2:=hb
 unfold Ya at hb2
 refine Yi Tryz.func26 Z Tryz.ntmps26 Z ?_
 obtain ⟨o1,o2,o3,o4,o5,rfl,hd1,hd2,hd3,hd4,hd5⟩:=Cluster.op hx
 refine Q7 [(0,.agg [o1,.int .i64 x.graph.workers,.int .i64 x.graph.cap,o2,o3,o4,o5].toArray)] ⟨Z,trivial⟩ ?_
 have E : Ext w w:=Ext.refl w
 refine Qe (Qg [false,false] Z Z (Yz Z Z (fun b1 w1 e1 s1 h1=>?_)))
 have g_b1 : w.heap.size ≤ b1:=by have:=E.size;omega
 have y_b1:=h1.lt
 replace E:=E.trans e1
 have z1:=e1.size
 refine Yj Xt Z (fun b2 w2 e2 s2 h2=>?_)
 have g_b2 : w.heap.size ≤ b2:=by have:=E.size;omega
 have y_b2:=h2.lt
 replace E:=E.trans e2;replace h1:=h1.ext e2
 have z2:=e2.size
 refine Qc (Qe (S_regF Xp [] 10 3 [] [(0,true),(1,true),(3,true),(4,true),(6,true),(7,true)] [(2,false),(5,false),(8,false),(9,true)] [(11,false)] (fun b=>.pointer (some ⟨b,0,none⟩)) (z:=[.slice none 0 0,.int .i64 0,.int .i64 0,.slice none 0 0,.slice none 0 0,.slice none 0 0,.slice none 0 0]) (by decide +kernel) Z Z Z Z Z Z Z [(0,.agg [o1,.int .i64 x.graph.workers,.int .i64 x.graph.cap,o2,o3,o4,o5].toArray),(1,.pointer (some ⟨b1,0,none⟩)),(2,.pointer (some ⟨b2,0,none⟩)),(8,.pointer (some ⟨b1,0,none⟩)),(9,.agg [o1,.int .i64 x.graph.workers,.int .i64 x.graph.cap].toArray),(11,.pointer (some ⟨b1,5,none⟩)),(12,o4),(14,.pointer (some ⟨b1,6,none⟩)),(15,o5)] [] Z trivial (fun w'=>Ext w w' ∧ w2.heap.size ≤ w'.heap.size ∧ Blk w' b1 ([o1,.int .i64 x.graph.workers,.int .i64 x.graph.cap,o2,o3,o4,o5]) ∧ Blk w' b2 [.slice none 0 0,.int .i64 0,.int .i64 0,.slice none 0 0,.slice none 0 0,.slice none 0 0,.slice none 0 0]) (float_alloc Xt) (fun w3 e3=>?_) (fun w3 hphi_w3=>?_)))
 ·replace E:=E.trans e3;replace h1:=h1.ext e3;replace h2:=h2.ext e3
  have z3:=e3.size
  refine Qa (Qb Ul Z) Z (Qa (Qy Uh Z (h1.part 0 [o1,.int .i64 x.graph.workers,.int .i64 x.graph.cap] Z) Z) Z (Qa (Qb U5 Z) Z (Qa (Qk Cg Z (h1.one 5 Z)) Z (Qa (Qb Gz Z) Z (Qa (Qk Bi Z (h1.one 6 Z)) Z (Qq ⟨Z,Z,Z,Z,Z,Z,Z,Z,Z,trivial⟩ ⟨E,(by omega),h1,h2⟩))))))
 clear E h1 h2
 obtain ⟨E,z4,h1,h2⟩:=hphi_w3
 refine JI_un Z (fun w4 e4=>?_) Z
 replace E:=E.trans e4;replace h1:=h1.ext e4;replace h2:=h2.ext e4
 have z5:=e4.size
 refine Qu Tryz.call66 Z (c_copyGraph [o1,.int .i64 x.graph.workers,.int .i64 x.graph.cap] x.graph _ (Graph.mkR x.graph (RdD.any (hd1.ext E))) (by omega)) Z (fun _ w5 e5 ho1=>?_)
 obtain ⟨o6,rfl,ho1⟩:=ho1
 have g_ho1 : w.heap.size ≤ w4.heap.size:=E.size
 replace E:=E.trans e5;replace h1:=h1.ext e5;replace h2:=h2.ext e5
 have z6:=e5.size
 refine JI_go2 ?_
 refine JI_un Z (fun w6 e6=>?_) Z
 replace E:=E.trans e6;replace h1:=h1.ext e6;replace h2:=h2.ext e6;replace ho1:=ho1.ext e6
 have z7:=e6.size
 refine Gr Gs Z Z (Own.nil w6 w6.heap.size w6.heap.size 5) ⟨_,_,Z⟩ (RdS.src (hd4.rd.ext E)) (Xi _) (by simp only [Yx,List.length_nil];simp only [Enc.sz];omega) (by decide) (by omega) (by omega) Z (fun v1 w7 e7 ho2 hb_ho2=>?_)
 replace E:=E.trans e7;replace h1:=h1.ext e7;replace h2:=h2.ext e7;replace ho1:=ho1.ext e7
 have z8:=e7.size
 have g_ho2 : w.heap.size ≤ w6.heap.size:=by have:=E.size;omega
 replace ho2 : Own w7 w6.heap.size w7.heap.size 5 v1 (List.flatMap (Enc.enc (α:=Token)) x.tokens):=ho2
 refine JI_go2 ?_
 refine JI_un Z (fun w8 e8=>?_) Z
 replace E:=E.trans e8;replace h1:=h1.ext e8;replace h2:=h2.ext e8;replace ho1:=ho1.ext e8;replace ho2:=ho2.ext e8
 have z9:=e8.size
 refine Gr Cf Z Z (Own.nil w8 w8.heap.size w8.heap.size 3) ⟨_,_,Z⟩ (RdS.src (hd5.rd.ext E)) (Xi _) (by simp only [Yx,List.length_nil];simp only [Enc.sz];omega) (by decide) (by omega) (by omega) Z (fun v2 w9 e9 ho3 hb_ho3=>?_)
 replace E:=E.trans e9;replace h1:=h1.ext e9;replace h2:=h2.ext e9;replace ho1:=ho1.ext e9;replace ho2:=ho2.ext e9
 have z10:=e9.size
 have g_ho3 : w.heap.size ≤ w8.heap.size:=by have:=E.size;omega
 replace ho3 : Own w9 w8.heap.size w9.heap.size 3 v2 (List.flatMap (Enc.enc (α:=News)) x.news):=ho3
 refine JI_go2 ?_
 refine JI_seg 1 Z ?_
 have hbl1 : ∀ w,(Instr.build 40 ([(0,.agg [o6,.int .i64 x.graph.workers,.int .i64 x.graph.cap].toArray),(3,v1),(4,v2)]).toArray).run Tryz.prog w = .ok (.agg [o6,.int .i64 x.graph.workers,.int .i64 x.graph.cap,.slice none 0 0,.slice none 0 0,v1,v2].toArray) w:=by clear E;obtain ⟨_,_,_,rfl⟩:=SlLen.shape ho1.rd.len;obtain ⟨_,_,_,rfl⟩:=Own.shape ho2;obtain ⟨_,_,_,rfl⟩:=Own.shape ho3;intro w;kernel_rfl
 refine Qa (G2 [o6,.int .i64 x.graph.workers,.int .i64 x.graph.cap,.slice none 0 0,.slice none 0 0,v1,v2] Z hbl1) Z (JI_go (JI_end Z (fun b3 w10 e10 g1 y1 h3 hI1=>?_)))
 have hI1_0 : b3 < w4.heap.size ∨ w5.heap.size ≤ b3:=hI1 (_,_) (by simp)
 have hI1_1 : b3 < w6.heap.size ∨ w7.heap.size ≤ b3:=hI1 (_,_) (by simp)
 have hI1_2 : b3 < w8.heap.size ∨ w9.heap.size ≤ b3:=hI1 (_,_) (by simp)
 replace E:=E.trans e10;replace h1:=h1.ext e10;replace h2:=h2.ext e10;replace ho1:=ho1.ext e10;replace ho2:=ho2.ext e10;replace ho3:=ho3.ext e10
 have z11:=e10.size
 have g_b3 : w.heap.size ≤ b3:=by have:=E.size;omega
 have y_b3:=h3.lt
 refine J2_sub [(0,.agg [o1,.int .i64 x.graph.workers,.int .i64 x.graph.cap,o2,o3,o4,o5].toArray),(1,.pointer (some ⟨b1,0,none⟩)),(2,.pointer (some ⟨b2,0,none⟩)),(3,.pointer (some ⟨b3,0,none⟩)),(8,.pointer (some ⟨b1,0,none⟩)),(9,.agg [o1,.int .i64 x.graph.workers,.int .i64 x.graph.cap].toArray),(10,.agg [o6,.int .i64 x.graph.workers,.int .i64 x.graph.cap].toArray),(11,.pointer (some ⟨b1,5,none⟩)),(12,o4),(13,v1),(14,.pointer (some ⟨b1,6,none⟩)),(15,o5),(16,v2),(17,.agg [o6,.int .i64 x.graph.workers,.int .i64 x.graph.cap,.slice none 0 0,.slice none 0 0,v1,v2].toArray)] ⟨Z,Z,Z,Z,Z,Z,Z,Z,Z,Z,Z,Z,Z,Z,trivial⟩ ?_
 refine J2_of Z ?_
 refine Q6 (cs':=[o6,.int .i64 x.graph.workers,.int .i64 x.graph.cap,.slice none 0 0,.slice none 0 0,v1,v2]) Xt Z Z Z (Qj (RdD.one (OwS.rd ho1)) (Qj Z (Qj Z (Qj Z (Qj Z (Qj ho2.one (Qj ho3.one Z))))))) h3 (Nat.le_of_ble_eq_true Z) Z (fun w11 m1 h3'=>?_)
 replace h3:=h3'
 replace E:=E.step m1 (fun g hg=>by cases hg;omega);replace h1:=h1.mod m1 (fun g hg=>by cases hg;omega);replace h2:=h2.mod m1 (fun g hg=>by cases hg;omega);replace ho1:=ho1.mod m1 (fun g hg=>by cases hg;omega);replace ho2:=ho2.mod m1 (fun g hg=>by cases hg;omega);replace ho3:=ho3.mod m1 (fun g hg=>by cases hg;omega)
 have z12:=m1.size
 refine Qc (Qe (Qe (Qg [true,true,true,true] Z Z (Qa (Qb X3 Z) Z (Qa (Qk Vr Z (h1.one 3 Z)) Z (Qa (Yb Tryz.underlying35 Z (hd2.ext E).len) Z (Qa (Qd Z) Z (Qc (Qw (Yk (fun (xq : Nat × Value)=>let ⟨k3,vo3⟩:=xq;[(1,.pointer (some ⟨b1,0,none⟩)),(2,.pointer (some ⟨b2,0,none⟩)),(3,.pointer (some ⟨b3,0,none⟩)),(19,o2),(20,.int .i64 ((x.workers.length : Nat) : Int)),(21,.int .i64 ((k3 : Nat) : Int))]) (fun (xq : Nat × Value) w'=>let ⟨k3,vo3⟩:=xq;Ext w w' ∧ w11.heap.size ≤ w'.heap.size ∧ Blk w' b1 ([o1,.int .i64 x.graph.workers,.int .i64 x.graph.cap,o2,o3,o4,o5]) ∧ Blk w' b2 [.slice none 0 0,.int .i64 0,.int .i64 0,.slice none 0 0,.slice none 0 0,.slice none 0 0,.slice none 0 0] ∧ OwS w' w4.heap.size w5.heap.size o6 x.graph.nodes ∧ Own w' w6.heap.size w7.heap.size 5 v1 (List.flatMap (Enc.enc (α:=Token)) x.tokens) ∧ Own w' w8.heap.size w9.heap.size 3 v2 (List.flatMap (Enc.enc (α:=News)) x.news) ∧ k3 ≤ x.workers.length ∧ OwS w' w11.heap.size w'.heap.size vo3 (x.workers.take k3) ∧ Blk w' b3 [o6,.int .i64 x.graph.workers,.int .i64 x.graph.cap,vo3,.slice none 0 0,v1,v2]) (fun (xq : Nat × Value)=>let ⟨k3,vo3⟩:=xq;x.workers.length - k3) (0,.slice none 0 0) ⟨Z,Z,Z,Z,Z,Z,trivial⟩ ⟨E,Nat.le_refl _,h1,h2,ho1,ho2,ho3,Nat.zero_le _,(OwS.nil _ _ _),h3⟩ ?_))))))))))
 clear E h1 h2 ho1 ho2 ho3 h3
 rintro ⟨k3,vo3⟩ w12 ⟨E,z13,h1,h2,ho1,ho2,ho3,hk3,hoC3,h3⟩
 refine Q7 [(1,.pointer (some ⟨b1,0,none⟩)),(2,.pointer (some ⟨b2,0,none⟩)),(3,.pointer (some ⟨b3,0,none⟩)),(19,o2),(20,.int .i64 ((x.workers.length : Nat) : Int)),(21,.int .i64 ((k3 : Nat) : Int))] ⟨Z,Z,Z,Z,Z,Z,trivial⟩ ?_
 refine Qe (Qg [true] Z Z (Qa (Yf Z Z) Z (Qc (Qe (Qr Z (fun hc1=>?_) (fun hc1=>?_))))))
 ·have hc1n : k3 < x.workers.length:=by first | (have h:=of_decide_eq_true hc1;omega) | (have h:=hc1;simp at h;omega)
  refine Qm (Qe (Qw (Qe (Qg [true,true,false,false] Z Z ?_))))
  have hi1 : k3 < x.workers.length:=(by first | assumption | omega | (simp only [List.length_set];first | assumption | omega) | (simp only [List.getElem_set_self,List.length_set];first | assumption | omega))
  obtain ⟨_,hr1,ha1⟩:=RdD.get hd2 hi1
  obtain ⟨o7,o8,o9,o10,o11,o12,o13,o14,rfl,hd6,hd7,hd8,hd9,hd10,hd11,hd12,hd13⟩:=Worker.op hr1
  replace ha1 : At w (Y2 o2) (Y9 o2 + k3 * 8) [o7,o8,o9,o10,o11,o12,o13,o14]:=ha1
  refine Qa (Qv (i:=k3) Uk Z Z (hd2.ext E).1 hi1) Z (Qa (Qy Kz Z (ha1.ext E) Z) Z (Yj Kz Z (fun b4 w13 e11 s3 h4=>?_)))
  have g_b4 : w.heap.size ≤ b4:=by have:=E.size;omega
  have y_b4:=h4.lt
  replace E:=E.trans e11;replace h1:=h1.ext e11;replace h2:=h2.ext e11;replace ho1:=ho1.ext e11;replace ho2:=ho2.ext e11;replace ho3:=ho3.ext e11;replace hoC3:=hoC3.ext e11;replace h3:=h3.ext e11
  have z14:=e11.size
  refine Q6 (cs':=[o7,o8,o9,o10,o11,o12,o13,o14]) Kz Z Z Z (Qj (RdD.one (hd6.ext E)) (Qj (RdD.one (hd7.ext E)) (Qj (RdD.one (hd8.ext E)) (Qj (RdD.one (hd9.ext E)) (Qj (RdD.one (hd10.ext E)) (Qj (RdD.one (hd11.ext E)) (Qj (RdD.one (hd12.ext E)) (Qj (RdD.one (hd13.ext E)) Z)))))))) h4 (Nat.le_of_ble_eq_true Z) Z (fun w14 m2 h4'=>?_)
  replace h4:=h4'
  replace E:=E.step m2 (fun g hg=>by cases hg;omega);replace h1:=h1.mod m2 (fun g hg=>by cases hg;omega);replace h2:=h2.mod m2 (fun g hg=>by cases hg;omega);replace ho1:=ho1.mod m2 (fun g hg=>by cases hg;omega);replace ho2:=ho2.mod m2 (fun g hg=>by cases hg;omega);replace ho3:=ho3.mod m2 (fun g hg=>by cases hg;omega);replace hoC3:=hoC3.mod m2 (fun g hg=>by cases hg;omega);replace h3:=h3.mod m2 (fun g hg=>by cases hg;omega)
  have z15:=m2.size
  refine Qc (C0 Xp [5] [(0,true),(1,true),(2,true),(3,false),(4,false)] [(5,false),(6,true),(7,false)] (by decide +kernel) Z Z (fun w15 e12=>?_))
  replace E:=E.trans e12;replace h1:=h1.ext e12;replace h2:=h2.ext e12;replace ho1:=ho1.ext e12;replace ho2:=ho2.ext e12;replace ho3:=ho3.ext e12;replace hoC3:=hoC3.ext e12;replace h3:=h3.ext e12;replace h4:=h4.ext e12
  have z16:=e12.size
  refine Qa (Qb X3 Z) Z (Qa (Qk Vr Z (h3.one 3 Z)) Z (Qa (Qy Kz Z h4.at Z) Z (Qu Tryz.call67 Z (c_copyWorker [o7,o8,o9,o10,o11,o12,o13,o14] (x.workers[k3]'hi1) _ (Worker.mkR (x.workers[k3]'hi1) (RdD.any (hd6.ext E)) (RdD.any (hd7.ext E)) (RdD.any (hd8.ext E)) (RdD.any (hd9.ext E)) (RdD.any (hd10.ext E)) (RdD.any (hd11.ext E)) (RdD.any (hd12.ext E)) (RdD.any (hd13.ext E))) (by have:=Vu (f:=Q8) (show k3 < x.workers.length by omega);unfold Xr at hb2;omega)) Z (fun _ w16 e13 ho4=>?_))))
  obtain ⟨_,rfl,ho4⟩:=ho4
  have g_ho4 : w.heap.size ≤ w15.heap.size:=E.size
  replace E:=E.trans e13;replace h1:=h1.ext e13;replace h2:=h2.ext e13;replace ho1:=ho1.ext e13;replace ho2:=ho2.ext e13;replace ho3:=ho3.ext e13;replace hoC3:=hoC3.ext e13;replace h3:=h3.ext e13;replace h4:=h4.ext e13
  have z17:=e13.size
  obtain ⟨o15,o16,o17,o18,o19,o20,o21,o22,rfl,sp1,hw1,hw2,hw3,hw4,hw5,hw6,hw7,hw8⟩:=Worker.opO ho4
  refine Y8 (vs:=[.agg [o15,o16,o17,o18,o19,o20,o21,o22].toArray]) (css:=[[o15,o16,o17,o18,o19,o20,o21,o22]]) Uk Z Z ⟨⟨Z,Z⟩,trivial⟩ Z Z (fun b5 w17 e14 s4 h5=>?_)
  replace h5 : Blk w17 b5 [o15,o16,o17,o18,o19,o20,o21,o22]:=h5
  have g_b5 : w.heap.size ≤ b5:=by have:=E.size;omega
  have y_b5:=h5.lt
  replace E:=E.trans e14;replace h1:=h1.ext e14;replace h2:=h2.ext e14;replace ho1:=ho1.ext e14;replace ho2:=ho2.ext e14;replace ho3:=ho3.ext e14;replace hoC3:=hoC3.ext e14;replace h3:=h3.ext e14;replace h4:=h4.ext e14;replace hw1:=hw1.ext e14;replace hw2:=hw2.ext e14;replace hw3:=hw3.ext e14;replace hw4:=hw4.ext e14;replace hw5:=hw5.ext e14;replace hw6:=hw6.ext e14;replace hw7:=hw7.ext e14;replace hw8:=hw8.ext e14
  have z18:=e14.size
  refine Tl ?_
  refine J2_X Z ?_
  refine Vi (lo:=w11.heap.size) (hi:=w12.heap.size) (lo2:=w15.heap.size) (hi2:=w17.heap.size) Uk Z Z hoC3 (Src.ofBlk h5 Z) (Worker.mkO (x.workers[k3]'hi1) sp1 (Own.widen hw1 (by omega) (by omega)) (Own.widen hw2 (by omega) (by omega)) (Own.widen hw3 (by omega) (by omega)) (Own.widen hw4 (by omega) (by omega)) (Own.widen hw5 (by omega) (by omega)) (Own.widen hw6 (by omega) (by omega)) (Own.widen hw7 (by omega) (by omega)) (Own.widen hw8 (by omega) (by omega))) (by omega) (by simp only [List.length_take,show Dat.sz Worker = 8 from Z,show Dat.sz Link = 6 from Z];unfold Xr at hb2;omega) (by decide) (by omega) (by omega) (by omega) (by omega) (by omega) Z Z (fun v3 w18 m3 ho5=>?_)
  have hqb:=OwS.inn hoC3
  replace E:=E.step m3 (fun g hg=>by have:=hqb g hg;omega);replace h1:=h1.mod m3 (fun g hg=>by have:=hqb g hg;omega);replace h2:=h2.mod m3 (fun g hg=>by have:=hqb g hg;omega);replace ho1:=ho1.mod m3 (fun g hg=>by have:=hqb g hg;omega);replace ho2:=ho2.mod m3 (fun g hg=>by have:=hqb g hg;omega);replace ho3:=ho3.mod m3 (fun g hg=>by have:=hqb g hg;omega);replace h3:=h3.mod m3 (fun g hg=>by have:=hqb g hg;omega);replace h4:=h4.mod m3 (fun g hg=>by have:=hqb g hg;omega)
  have z19:=m3.size
  clear hqb
  refine B1 ?_
  refine Qa (Qb X3 Z) Z (Yh (cs':=[o6,.int .i64 x.graph.workers,.int .i64 x.graph.cap,v3,.slice none 0 0,v1,v2]) Vr Z Z (RdD.one (OwS.rd ho5)) h3 (Nat.le_of_ble_eq_true Z) Z (fun w19 m4 h3'=>?_))
  replace h3:=h3'
  replace E:=E.step m4 (fun g hg=>by cases hg;omega);replace h1:=h1.mod m4 (fun g hg=>by cases hg;omega);replace h2:=h2.mod m4 (fun g hg=>by cases hg;omega);replace ho1:=ho1.mod m4 (fun g hg=>by cases hg;omega);replace ho2:=ho2.mod m4 (fun g hg=>by cases hg;omega);replace ho3:=ho3.mod m4 (fun g hg=>by cases hg;omega);replace h4:=h4.mod m4 (fun g hg=>by cases hg;omega);replace ho5:=ho5.mod m4 (fun g hg=>by cases hg;omega)
  have z20:=m4.size
  refine Qc (Q5 (Yv (Qg [true,true] Z Z (Qa (Yd Z Z (Yy hc1n (hd2.ext E).1.1)) Z (Qa (Qd Z) Z (Qc (Q5 (Yg (k3 + 1,v3) (by simp;omega) ⟨Z,Z,Z,Z,Z,Z,trivial⟩ ⟨E,(by omega),h1,h2,ho1,ho2,ho3,(by omega),(by rw [List.take_succ_eq_append_getElem (by assumption)];exact OwS.widen ho5 (by omega) (by omega)),h3⟩))))))))
 ·have hc1n : ¬ k3 < x.workers.length:=by first | (have h:=of_decide_eq_false hc1;omega) | (have h:=hc1;simp at h;omega)
  refine Ym (Q4 (Q2 ?_))
  refine Qe (Qe (Qg [true,true,true,true] Z Z (Qa (Qb Ki Z) Z (Qa (Qk V7 Z (h1.one 4 Z)) Z (Qa (Yb Tryz.underlying36 Z (hd3.ext E).len) Z (Qa (Qd Z) Z (Qc (Qw (Yk (fun (xq : Nat × Value)=>let ⟨k4,vo4⟩:=xq;[(2,.pointer (some ⟨b2,0,none⟩)),(3,.pointer (some ⟨b3,0,none⟩)),(34,o3),(35,.int .i64 ((x.links.length : Nat) : Int)),(36,.int .i64 ((k4 : Nat) : Int))]) (fun (xq : Nat × Value) w'=>let ⟨k4,vo4⟩:=xq;Ext w w' ∧ w12.heap.size ≤ w'.heap.size ∧ Blk w' b1 ([o1,.int .i64 x.graph.workers,.int .i64 x.graph.cap,o2,o3,o4,o5]) ∧ Blk w' b2 [.slice none 0 0,.int .i64 0,.int .i64 0,.slice none 0 0,.slice none 0 0,.slice none 0 0,.slice none 0 0] ∧ OwS w' w4.heap.size w5.heap.size o6 x.graph.nodes ∧ Own w' w6.heap.size w7.heap.size 5 v1 (List.flatMap (Enc.enc (α:=Token)) x.tokens) ∧ Own w' w8.heap.size w9.heap.size 3 v2 (List.flatMap (Enc.enc (α:=News)) x.news) ∧ OwS w' w11.heap.size w12.heap.size vo3 (x.workers.take k3) ∧ k4 ≤ x.links.length ∧ OwS w' w12.heap.size w'.heap.size vo4 (x.links.take k4) ∧ Blk w' b3 [o6,.int .i64 x.graph.workers,.int .i64 x.graph.cap,vo3,vo4,v1,v2]) (fun (xq : Nat × Value)=>let ⟨k4,vo4⟩:=xq;x.links.length - k4) (0,.slice none 0 0) ⟨Z,Z,Z,Z,Z,trivial⟩ ⟨E,Nat.le_refl _,h1,h2,ho1,ho2,ho3,hoC3,Nat.zero_le _,(OwS.nil _ _ _),h3⟩ ?_)))))))))
  clear E h1 h2 ho1 ho2 ho3 hoC3 h3
  rintro ⟨k4,vo4⟩ w20 ⟨E,z21,h1,h2,ho1,ho2,ho3,hoC3,hk4,hoC4,h3⟩
  refine Q7 [(2,.pointer (some ⟨b2,0,none⟩)),(3,.pointer (some ⟨b3,0,none⟩)),(34,o3),(35,.int .i64 ((x.links.length : Nat) : Int)),(36,.int .i64 ((k4 : Nat) : Int))] ⟨Z,Z,Z,Z,Z,trivial⟩ ?_
  refine Qe (Qg [true] Z Z (Qa (Yf Z Z) Z (Qc (Qe (Qr Z (fun hc2=>?_) (fun hc2=>?_))))))
  ·have hc2n : k4 < x.links.length:=by first | (have h:=of_decide_eq_true hc2;omega) | (have h:=hc2;simp at h;omega)
   refine Qm (Qe (Qw (Qe (Qg [true,true,false,false] Z Z ?_))))
   have hi2 : k4 < x.links.length:=(by first | assumption | omega | (simp only [List.length_set];first | assumption | omega) | (simp only [List.getElem_set_self,List.length_set];first | assumption | omega))
   obtain ⟨_,hr2,ha2⟩:=RdD.get hd3 hi2
   obtain ⟨o23,rfl,hd14⟩:=Link.op hr2
   replace ha2 : At w (Y2 o3) (Y9 o3 + k4 * 6) [.int .i64 ((x.links[k4]'hi2).cap),o23,.int .i64 ((x.links[k4]'hi2).credits),.int .i64 ((x.links[k4]'hi2).back),.int .i64 ((x.links[k4]'hi2).sent),.int .i64 ((x.links[k4]'hi2).got)]:=ha2
   refine Qa (Qv (i:=k4) Vb Z Z (hd3.ext E).1 hi2) Z (Qa (Qy Xv Z (ha2.ext E) Z) Z (Yj Xv Z (fun b6 w21 e15 s5 h6=>?_)))
   have g_b6 : w.heap.size ≤ b6:=by have:=E.size;omega
   have y_b6:=h6.lt
   replace E:=E.trans e15;replace h1:=h1.ext e15;replace h2:=h2.ext e15;replace ho1:=ho1.ext e15;replace ho2:=ho2.ext e15;replace ho3:=ho3.ext e15;replace hoC3:=hoC3.ext e15;replace hoC4:=hoC4.ext e15;replace h3:=h3.ext e15
   have z22:=e15.size
   refine Q6 (cs':=[.int .i64 ((x.links[k4]'hi2).cap),o23,.int .i64 ((x.links[k4]'hi2).credits),.int .i64 ((x.links[k4]'hi2).back),.int .i64 ((x.links[k4]'hi2).sent),.int .i64 ((x.links[k4]'hi2).got)]) Xv Z Z Z (Qj Z (Qj (RdD.one (hd14.ext E)) (Qj Z (Qj Z (Qj Z (Qj Z Z)))))) h6 (Nat.le_of_ble_eq_true Z) Z (fun w22 m5 h6'=>?_)
   replace h6:=h6'
   replace E:=E.step m5 (fun g hg=>by cases hg;omega);replace h1:=h1.mod m5 (fun g hg=>by cases hg;omega);replace h2:=h2.mod m5 (fun g hg=>by cases hg;omega);replace ho1:=ho1.mod m5 (fun g hg=>by cases hg;omega);replace ho2:=ho2.mod m5 (fun g hg=>by cases hg;omega);replace ho3:=ho3.mod m5 (fun g hg=>by cases hg;omega);replace hoC3:=hoC3.mod m5 (fun g hg=>by cases hg;omega);replace hoC4:=hoC4.mod m5 (fun g hg=>by cases hg;omega);replace h3:=h3.mod m5 (fun g hg=>by cases hg;omega)
   have z23:=m5.size
   refine Qc (C0 Xp [5] [(0,true),(1,true),(2,true),(3,false),(4,false)] [(5,false),(6,true),(7,false)] (by decide +kernel) Z Z (fun w23 e16=>?_))
   replace E:=E.trans e16;replace h1:=h1.ext e16;replace h2:=h2.ext e16;replace ho1:=ho1.ext e16;replace ho2:=ho2.ext e16;replace ho3:=ho3.ext e16;replace hoC3:=hoC3.ext e16;replace hoC4:=hoC4.ext e16;replace h3:=h3.ext e16;replace h6:=h6.ext e16
   have z24:=e16.size
   refine Qa (Qb Ki Z) Z (Qa (Qk V7 Z (h3.one 4 Z)) Z (Qa (Qy Xv Z h6.at Z) Z (Qu Tryz.call68 Z (c_copyLink [.int .i64 ((x.links[k4]'hi2).cap),o23,.int .i64 ((x.links[k4]'hi2).credits),.int .i64 ((x.links[k4]'hi2).back),.int .i64 ((x.links[k4]'hi2).sent),.int .i64 ((x.links[k4]'hi2).got)] (x.links[k4]'hi2) _ (Link.mkR (x.links[k4]'hi2) (RdD.any (hd14.ext E))) (by have:=Vu (f:=Y0) (show k4 < x.links.length by omega);unfold Xr at hb2;omega)) Z (fun _ w24 e17 ho6=>?_))))
   obtain ⟨_,rfl,ho6⟩:=ho6
   have g_ho6 : w.heap.size ≤ w23.heap.size:=E.size
   replace E:=E.trans e17;replace h1:=h1.ext e17;replace h2:=h2.ext e17;replace ho1:=ho1.ext e17;replace ho2:=ho2.ext e17;replace ho3:=ho3.ext e17;replace hoC3:=hoC3.ext e17;replace hoC4:=hoC4.ext e17;replace h3:=h3.ext e17;replace h6:=h6.ext e17
   have z25:=e17.size
   obtain ⟨o24,rfl,sp2,hw9⟩:=Link.opO ho6
   refine Y8 (vs:=[.agg [.int .i64 ((x.links[k4]'hi2).cap),o24,.int .i64 ((x.links[k4]'hi2).credits),.int .i64 ((x.links[k4]'hi2).back),.int .i64 ((x.links[k4]'hi2).sent),.int .i64 ((x.links[k4]'hi2).got)].toArray]) (css:=[[.int .i64 ((x.links[k4]'hi2).cap),o24,.int .i64 ((x.links[k4]'hi2).credits),.int .i64 ((x.links[k4]'hi2).back),.int .i64 ((x.links[k4]'hi2).sent),.int .i64 ((x.links[k4]'hi2).got)]]) Vb Z Z ⟨⟨Z,Z⟩,trivial⟩ Z Z (fun b7 w25 e18 s6 h7=>?_)
   replace h7 : Blk w25 b7 [.int .i64 ((x.links[k4]'hi2).cap),o24,.int .i64 ((x.links[k4]'hi2).credits),.int .i64 ((x.links[k4]'hi2).back),.int .i64 ((x.links[k4]'hi2).sent),.int .i64 ((x.links[k4]'hi2).got)]:=h7
   have g_b7 : w.heap.size ≤ b7:=by have:=E.size;omega
   have y_b7:=h7.lt
   replace E:=E.trans e18;replace h1:=h1.ext e18;replace h2:=h2.ext e18;replace ho1:=ho1.ext e18;replace ho2:=ho2.ext e18;replace ho3:=ho3.ext e18;replace hoC3:=hoC3.ext e18;replace hoC4:=hoC4.ext e18;replace h3:=h3.ext e18;replace h6:=h6.ext e18;replace hw9:=hw9.ext e18
   have z26:=e18.size
   refine Tl ?_
   refine J2_X Z ?_
   refine Vi (lo:=w12.heap.size) (hi:=w20.heap.size) (lo2:=w23.heap.size) (hi2:=w25.heap.size) Vb Z Z hoC4 (Src.ofBlk h7 Z) (Link.mkO (x.links[k4]'hi2) sp2 (Own.widen hw9 (by omega) (by omega))) (by omega) (by simp only [List.length_take,show Dat.sz Worker = 8 from Z,show Dat.sz Link = 6 from Z];unfold Xr at hb2;omega) (by decide) (by omega) (by omega) (by omega) (by omega) (by omega) Z Z (fun v4 w26 m6 ho7=>?_)
   have hqb:=OwS.inn hoC4
   replace E:=E.step m6 (fun g hg=>by have:=hqb g hg;omega);replace h1:=h1.mod m6 (fun g hg=>by have:=hqb g hg;omega);replace h2:=h2.mod m6 (fun g hg=>by have:=hqb g hg;omega);replace ho1:=ho1.mod m6 (fun g hg=>by have:=hqb g hg;omega);replace ho2:=ho2.mod m6 (fun g hg=>by have:=hqb g hg;omega);replace ho3:=ho3.mod m6 (fun g hg=>by have:=hqb g hg;omega);replace hoC3:=hoC3.mod m6 (fun g hg=>by have:=hqb g hg;omega);replace h3:=h3.mod m6 (fun g hg=>by have:=hqb g hg;omega);replace h6:=h6.mod m6 (fun g hg=>by have:=hqb g hg;omega)
   have z27:=m6.size
   clear hqb
   refine B1 ?_
   refine Qa (Qb Ki Z) Z (Yh (cs':=[o6,.int .i64 x.graph.workers,.int .i64 x.graph.cap,vo3,v4,v1,v2]) V7 Z Z (RdD.one (OwS.rd ho7)) h3 (Nat.le_of_ble_eq_true Z) Z (fun w27 m7 h3'=>?_))
   replace h3:=h3'
   replace E:=E.step m7 (fun g hg=>by cases hg;omega);replace h1:=h1.mod m7 (fun g hg=>by cases hg;omega);replace h2:=h2.mod m7 (fun g hg=>by cases hg;omega);replace ho1:=ho1.mod m7 (fun g hg=>by cases hg;omega);replace ho2:=ho2.mod m7 (fun g hg=>by cases hg;omega);replace ho3:=ho3.mod m7 (fun g hg=>by cases hg;omega);replace hoC3:=hoC3.mod m7 (fun g hg=>by cases hg;omega);replace h6:=h6.mod m7 (fun g hg=>by cases hg;omega);replace ho7:=ho7.mod m7 (fun g hg=>by cases hg;omega)
   have z28:=m7.size
   refine Qc (Q5 (Yv (Qg [true,true] Z Z (Qa (Yd Z Z (Yy hc2n (hd3.ext E).1.1)) Z (Qa (Qd Z) Z (Qc (Q5 (Yg (k4 + 1,v4) (by simp;omega) ⟨Z,Z,Z,Z,Z,trivial⟩ ⟨E,(by omega),h1,h2,ho1,ho2,ho3,hoC3,(by omega),(by rw [List.take_succ_eq_append_getElem (by assumption)];exact OwS.widen ho7 (by omega) (by omega)),h3⟩))))))))
  ·have hc2n : ¬ k4 < x.links.length:=by first | (have h:=of_decide_eq_false hc2;omega) | (have h:=hc2;simp at h;omega)
   refine Ym (Q4 (Q2 ?_))
   refine Qe (Qg [true,false] Z Z (Qa (Qy Xt Z h3.at Z) Z (Q6 (cs':=[o6,.int .i64 x.graph.workers,.int .i64 x.graph.cap,vo3,vo4,v1,v2]) Xt Z Z Z (Qj (RdD.one (OwS.rd ho1)) (Qj Z (Qj Z (Qj (RdD.one (OwS.rd hoC3)) (Qj (RdD.one (OwS.rd hoC4)) (Qj ho2.one (Qj ho3.one Z))))))) h2 (Nat.le_of_ble_eq_true Z) Z (fun w28 m8 h2'=>?_))))
   replace h2:=h2'
   replace E:=E.step m8 (fun g hg=>by cases hg;omega);replace h1:=h1.mod m8 (fun g hg=>by cases hg;omega);replace ho1:=ho1.mod m8 (fun g hg=>by cases hg;omega);replace ho2:=ho2.mod m8 (fun g hg=>by cases hg;omega);replace ho3:=ho3.mod m8 (fun g hg=>by cases hg;omega);replace hoC3:=hoC3.mod m8 (fun g hg=>by cases hg;omega);replace hoC4:=hoC4.mod m8 (fun g hg=>by cases hg;omega);replace h3:=h3.mod m8 (fun g hg=>by cases hg;omega)
   have z29:=m8.size
   refine Qc (Qt (Xu Z Z (Yc Xt h2.at Z) E ?_))
   rw [List.take_of_length_le (by omega)] at hoC3 hoC4
   exact ⟨_,_,_,_,_,Z,OwC.of x ho1 hoC3 hoC4 ho2 ho3 (by have:=E.size;omega) (by omega)⟩

end Go.Proofs.YtjpoipdddpmeiaaGreat
