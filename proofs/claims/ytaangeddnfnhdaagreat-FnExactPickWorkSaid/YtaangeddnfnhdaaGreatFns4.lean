/- What the functions that the laws call come to: a contract each; no condition. -/
import Derived.Test.YtaangeddnfnhdaaGreatFns3
namespace Go.Proofs.YtaangeddnfnhdaaGreat
open Go Go.Proofs.YtaangeddnfnhdaaGreat.X Go.Proofs
set_option maxHeartbeats 4000000 in
set_option maxRecDepth 20000 in
theorem s_ClusterOk (cx : List Value) (x : Cluster) (w : World) (hx : Dat.R w 0 w.heap.size cx x) : Ct Tryz.prog 45 [.agg cx.toArray] w (fun v _=>v = .bool (Ug x)):=by
 refine Yh Tryz.func45 Z Tryz.ntmps45 Z ?_
 obtain ⟨o1,o2,o3,o4,o5,rfl,hd1,hd2,hd3,hd4,hd5⟩:=Cluster.op hx
 refine Q7 [(0,.agg [o1,.int .i64 x.graph.workers,.int .i64 x.graph.cap,o2,o3,o4,o5].toArray)] ⟨Z,trivial⟩ ?_
 have E : Ext w w:=Ext.refl w
 refine Qf (Qh [false,true] Z Z (Y1 Z Z (fun b1 w1 e1 s1 h1=>?_)))
 have g_b1 : w.heap.size ≤ b1:=by have:=E.size;omega
 have y_b1:=h1.lt
 replace E:=E.trans e1
 have z1:=e1.size
 refine Qa (Qe Z) Z (Qd (Qf (Qh [true,true,true,true] Z Z (Qa (Qb Ur Z) Z (Qa (Qb Cg Z) Z (Qa (Qj Yo Z (h1.one 1 Z)) Z (Qa (Qe Z) Z (Qd (Qf (Qf (Qh [true,true,false,true,true,true,true,true,true,true,true,true,true,true,true,true,true,true,true,true,true,true,true,true,true,true] Z Z (Qa (Qb Ur Z) Z (Qa (Qt Km Z (h1.part 0 [o1,.int .i64 x.graph.workers,.int .i64 x.graph.cap] Z) Z) Z (Qv Tryz.call89 Z (s_GraphOk [o1,.int .i64 x.graph.workers,.int .i64 x.graph.cap] x.graph _ (Graph.mkR x.graph (RdD.any (hd1.ext E)))) Z (fun _ w2 e2 hv=>?_)))))))))))))))
 subst hv
 replace E:=E.trans e2;replace h1:=h1.ext e2
 have z2:=e2.size
 refine Qa (Yq Z) Z (Qa (Qc Z) Z (Y7 21 [(0,.agg [o1,.int .i64 x.graph.workers,.int .i64 x.graph.cap,o2,o3,o4,o5].toArray),(1,.pointer (some ⟨b1,0,none⟩)),(2,.bool false),(3,.int .i64 x.graph.workers),(9,.pointer (some ⟨b1,0,none⟩)),(10,.pointer (some ⟨b1,1,none⟩)),(11,.int .i64 x.graph.workers),(37,.bool ((((!(Ys x.graph)) || (((x.workers.length : Nat) : Int) != x.graph.workers)) || (((x.links.length : Nat) : Int) != (IntKind.i64.wrap (x.graph.workers * x.graph.workers)))) || (((x.tokens.length : Nat) : Int) != 4)))] (fun w'=>w2 = w') ?_ ?_))
 ·refine Y3 (gd:=16) Z Z (fun hg1=>?_) (fun hg1=>?_)
  ·refine Qg Z Z Z Z (Qg Z Z Z Z (Qg Z Z Z Z (Qg Z Z Z Z (Qg Z Z Z Z (Qa (Qx Z Z) Z (Qa (Qc Z) Z (Qg Z Z Z Z (Qg Z Z Z Z (Qg Z Z Z Z (Qg Z Z Z Z (Qg Z Z Z Z (Qg Z Z Z Z (Qg Z Z Z Z (Qa (Qx Z Z) Z (Qa (Qc Z) Z (Qg Z Z Z Z (Qg Z Z Z Z (Qg Z Z Z Z (Qg Z Z Z Z (Qa (Qx Z Z) Z (Qp ⟨Z,Z,Z,Z,Z,Z,Z,congrArg (fun b=>some (Value.bool b)) (show true = ((((!(Ys x.graph)) || (((x.workers.length : Nat) : Int) != x.graph.workers)) || (((x.links.length : Nat) : Int) != (IntKind.i64.wrap (x.graph.workers * x.graph.workers)))) || (((x.tokens.length : Nat) : Int) != 4)) by first | (rw [hg1] <;> rfl) | (simp [hg1];done) | (simp only [Qo] <;> simp)),trivial⟩ Z)))))))))))))))))))))
  ·refine Qm Z Z (Qb Kh Z) Z (Qm Z Z (Qj Gh Z (h1.one 3 Z)) Z (Qm Z Z (Ya Tryz.underlying35 Z (hd2.ext E).len) Z (Qm Z Z (Qc Z) Z (Qm Z Z (Yu Z Z) Z (Qa (Qy Z Z) Z (Qa (Qc Z) Z ?_))))))
   refine Y3 (gd:=23) Z Z (fun hg2=>?_) (fun hg2=>?_)
   ·refine Qg Z Z Z Z (Qg Z Z Z Z (Qg Z Z Z Z (Qg Z Z Z Z (Qg Z Z Z Z (Qg Z Z Z Z (Qg Z Z Z Z (Qa (Qx Z Z) Z (Qa (Qc Z) Z (Qg Z Z Z Z (Qg Z Z Z Z (Qg Z Z Z Z (Qg Z Z Z Z (Qa (Qx Z Z) Z (Qp ⟨Z,Z,Z,Z,Z,Z,Z,congrArg (fun b=>some (Value.bool b)) (show true = ((((!(Ys x.graph)) || (((x.workers.length : Nat) : Int) != x.graph.workers)) || (((x.links.length : Nat) : Int) != (IntKind.i64.wrap (x.graph.workers * x.graph.workers)))) || (((x.tokens.length : Nat) : Int) != 4)) by first | (rw [hg1,hg2] <;> rfl) | (simp [hg1,hg2];done) | (simp only [Qo] <;> simp)),trivial⟩ Z))))))))))))))
   ·refine Qm Z Z (Qb Uk Z) Z (Qm Z Z (Qj H2 Z (h1.one 4 Z)) Z (Qm Z Z (Ya Tryz.underlying36 Z (hd3.ext E).len) Z (Qm Z Z (Qc Z) Z (Qm Z Z (Qc Z) Z (Qm Z Z (R_mul Z Z Z) Z (Qm Z Z (Yu Z Z) Z (Qa (Qy Z Z) Z (Qa (Qc Z) Z ?_))))))))
    refine Y3 (gd:=32) Z Z (fun hg3=>?_) (fun hg3=>?_)
    ·refine Qg Z Z Z Z (Qg Z Z Z Z (Qg Z Z Z Z (Qg Z Z Z Z (Qa (Qx Z Z) Z (Qp ⟨Z,Z,Z,Z,Z,Z,Z,congrArg (fun b=>some (Value.bool b)) (show true = ((((!(Ys x.graph)) || (((x.workers.length : Nat) : Int) != x.graph.workers)) || (((x.links.length : Nat) : Int) != (IntKind.i64.wrap (x.graph.workers * x.graph.workers)))) || (((x.tokens.length : Nat) : Int) != 4)) by first | (rw [hg1,hg2,hg3] <;> rfl) | (simp [hg1,hg2,hg3];done) | (simp only [Qo] <;> simp)),trivial⟩ Z)))))
    ·refine Qm Z Z (Qb Vk Z) Z (Qm Z Z (Qj Cu Z (h1.one 5 Z)) Z (Qm Z Z (Ya Tryz.underlying37 Z (hd4.ext E).len) Z (Qm Z Z (Yu Z Z) Z (Qa (Qy Z Z) Z (Qp ⟨Z,Z,Z,Z,Z,Z,Z,congrArg (fun b=>some (Value.bool b)) (show (((x.tokens.length : Nat) : Int) != 4) = ((((!(Ys x.graph)) || (((x.workers.length : Nat) : Int) != x.graph.workers)) || (((x.links.length : Nat) : Int) != (IntKind.i64.wrap (x.graph.workers * x.graph.workers)))) || (((x.tokens.length : Nat) : Int) != 4)) by first | (rw [hg1,hg2,hg3] <;> rfl) | (simp [hg1,hg2,hg3];done) | (simp only [Qo] <;> simp)),trivial⟩ Z)))))
 rintro _ rfl
 refine Qd (Qs Z (fun hc1=>?_) (fun hc1=>?_))
 ·refine Qf (Qh [true] Z Z (Qa (Qe Z) Z (Qd (Qw (Ql Z Z E ?_)))))
  exact cl_0 hc1
 ·have hgw:=cl_g hc1
  have hlw:=cl_w hc1
  refine Qn (Qf (Qf (Qh [true] Z Z (Qa (Qe Z) Z (Qd (Q0 (Ym (fun (k : Nat)=>[(1,.pointer (some ⟨b1,0,none⟩)),(2,.bool false),(3,.int .i64 x.graph.workers),(4,.int .i64 ((k : Nat) : Int))]) (fun (k : Nat) w'=>Ext w w' ∧ w2.heap.size ≤ w'.heap.size ∧ Blk w' b1 ([o1,.int .i64 x.graph.workers,.int .i64 x.graph.cap,o2,o3,o4,o5]) ∧ k ≤ x.workers.length ∧ (x.workers.take k).all (Xc x.graph) = true) (fun (k : Nat)=>x.workers.length - k) 0 ⟨Z,Z,Z,Z,trivial⟩ ⟨E,Nat.le_refl _,h1,Nat.zero_le _,Z⟩ ?_)))))))
  clear E h1
  rintro k w4 ⟨E,z3,h1,hk,hI1⟩
  have hmw:=hd2.1.1
  unfold maxLen at hmw
  refine Qf (Qf (Qh [true,true,true] Z Z (Qa (Qc Z) Z (Qa (Qc Z) Z (Qa (Yf Z Z) Z (Qd (Qs Z (fun hc2=>?_) (fun hc2=>?_))))))))
  ·have hlt:=of_decide_eq_true hc2
   refine Qn (Qf (Q0 (Qf (Xj Xi [(0,true),(1,true),(2,true),(3,true),(4,true),(5,true),(6,true),(7,false),(8,true)] (by decide +kernel) Z (fun w5 e3=>?_)))))
   replace E:=E.trans e3;replace h1:=h1.ext e3
   have z4:=e3.size
   refine Qa (Qb Ur Z) Z (Qa (Qt Km Z (h1.part 0 [o1,.int .i64 x.graph.workers,.int .i64 x.graph.cap] Z) Z) Z (Qa (Qb Kh Z) Z (Qa (Qj Gh Z (h1.one 3 Z)) Z (Qa (Qc Z) Z ?_))))
   have hi1 : k < x.workers.length:=(by first | assumption | omega | (simp only [List.length_set];first | assumption | omega))
   obtain ⟨_,hr1,ha1⟩:=RdD.get hd2 hi1
   obtain ⟨o6,o7,o8,o9,o10,o11,o12,o13,rfl,hd6,hd7,hd8,hd9,hd10,hd11,hd12,hd13⟩:=Worker.op hr1
   replace ha1 : At w (Xf o2) (Xm o2 + k * 8) [o6,o7,o8,o9,o10,o11,o12,o13]:=ha1
   refine Qa (Q1 (i:=k) U8 Z Z (hd2.ext E).1 hi1) Z (Qa (Qt Kw Z (ha1.ext E) Z) Z (Qv Tryz.call90 Z (s_WorkerOk [o1,.int .i64 x.graph.workers,.int .i64 x.graph.cap] x.graph [o6,o7,o8,o9,o10,o11,o12,o13] (x.workers[k]'hi1) _ (Graph.mkR x.graph (RdD.any (hd1.ext E))) (Worker.mkR (x.workers[k]'hi1) (RdD.any (hd6.ext E)) (RdD.any (hd7.ext E)) (RdD.any (hd8.ext E)) (RdD.any (hd9.ext E)) (RdD.any (hd10.ext E)) (RdD.any (hd11.ext E)) (RdD.any (hd12.ext E)) (RdD.any (hd13.ext E)))) Z (fun _ w6 e4 hv=>?_)))
   subst hv
   replace E:=E.trans e4;replace h1:=h1.ext e4
   have z5:=e4.size
   refine Qa (Yq Z) Z (Qd (Qs Z (fun hc3=>?_) (fun hc3=>?_)))
   ·refine Qf (Qh [true] Z Z (Qa (Qe Z) Z (Qd (Qw (Q2 (Y0 (Q2 (Ql Z Z E ?_))))))))
    exact cl_1 (by assumption) (by simpa using hc3)
   ·refine Qn (Q4 (Yr (Qh [true,true,true] Z Z (Qa (Qc Z) Z (Qa (Q8 Z Z (Ye (by unfold maxLen;omega))) Z (Qa (Qe Z) Z (Qd (Q4 (Yc (k + 1) (by omega) ⟨Z,Z,Z,Z,trivial⟩ ⟨E,(by omega),h1,(by omega),Kf hI1 (by assumption) (by simpa using hc3)⟩)))))))))
  ·have hge:=of_decide_eq_false hc2
   refine Yn (Q5 (Q3 ?_))
   refine Qf (Qf (Qh [true] Z Z (Qa (Qe Z) Z (Qd (Q0 (Ym (fun (k : Nat)=>[(1,.pointer (some ⟨b1,0,none⟩)),(2,.bool false),(3,.int .i64 x.graph.workers),(5,.int .i64 ((k : Nat) : Int))]) (fun (k : Nat) w'=>Ext w w' ∧ w4.heap.size ≤ w'.heap.size ∧ Blk w' b1 ([o1,.int .i64 x.graph.workers,.int .i64 x.graph.cap,o2,o3,o4,o5]) ∧ k ≤ x.links.length ∧ H8 k (fun j=>!Bk x.graph j (List.getD x.links j default)) = true) (fun (k : Nat)=>x.links.length - k) 0 ⟨Z,Z,Z,Z,trivial⟩ ⟨E,Nat.le_refl _,h1,Nat.zero_le _,Z⟩ ?_))))))
   clear E h1
   rintro k w7 ⟨E,z6,h1,hk,hI2⟩
   have hml:=hd3.1.1
   unfold maxLen at hml
   refine Qf (Qf (Qh [true,true,true,true,true] Z Z (Qa (Qc Z) Z (Qa (Qb Uk Z) Z (Qa (Qj H2 Z (h1.one 4 Z)) Z (Qa (Ya Tryz.underlying36 Z (hd3.ext E).len) Z (Qa (Yf Z Z) Z (Qd (Qs Z (fun hc4=>?_) (fun hc4=>?_))))))))))
   ·have hc4n : k < x.links.length:=by first | (have h:=of_decide_eq_true hc4;omega) | (have h:=hc4;simp at h;omega)
    refine Qn (Qf (Q0 (Qf (Qh [true,true,true,true,true,false,false] Z Z (Qa (Qb Uk Z) Z (Qa (Qj H2 Z (h1.one 4 Z)) Z (Qa (Qc Z) Z ?_)))))))
    have hi2 : k < x.links.length:=(by first | assumption | omega | (simp only [List.length_set];first | assumption | omega))
    obtain ⟨_,hr2,ha2⟩:=RdD.get hd3 hi2
    obtain ⟨o14,rfl,hd14⟩:=Link.op hr2
    replace ha2 : At w (Xf o3) (Xm o3 + k * 6) [.int .i64 ((x.links[k]'hi2).cap),o14,.int .i64 ((x.links[k]'hi2).credits),.int .i64 ((x.links[k]'hi2).back),.int .i64 ((x.links[k]'hi2).sent),.int .i64 ((x.links[k]'hi2).got)]:=ha2
    refine Qa (Q1 (i:=k) Gg Z Z (hd3.ext E).1 hi2) Z (Qa (Qt Ua Z (ha2.ext E) Z) Z (Yk Ua Z (fun b2 w8 e5 s2 h2=>?_)))
    have g_b2 : w.heap.size ≤ b2:=by have:=E.size;omega
    have y_b2:=h2.lt
    replace E:=E.trans e5;replace h1:=h1.ext e5
    have z7:=e5.size
    refine Q6 (cs':=[.int .i64 ((x.links[k]'hi2).cap),o14,.int .i64 ((x.links[k]'hi2).credits),.int .i64 ((x.links[k]'hi2).back),.int .i64 ((x.links[k]'hi2).sent),.int .i64 ((x.links[k]'hi2).got)]) Ua Z Z Z (Qk Z (Qk (RdD.one (hd14.ext E)) (Qk Z (Qk Z (Qk Z (Qk Z Z)))))) h2 (Nat.le_of_ble_eq_true Z) Z (fun w9 m1 h2'=>?_)
    replace h2:=h2'
    replace E:=E.step m1 (fun g hg=>by cases hg;omega);replace h1:=h1.mod m1 (fun g hg=>by cases hg;omega)
    have z8:=m1.size
    refine Qd (Qf (Xj Xi [(0,true),(1,false),(2,true),(3,true),(4,true),(5,true),(6,true),(7,true),(8,true),(9,true),(10,true),(11,true),(12,true),(13,true),(14,true),(15,true),(16,false),(17,true),(18,true),(19,true),(20,true),(21,true),(22,true),(23,true),(24,true),(25,true),(26,true),(27,true),(28,true),(29,true),(30,true),(31,true),(32,true),(33,true)] (by decide +kernel) Z (fun w10 e6=>?_)))
    replace E:=E.trans e6;replace h1:=h1.ext e6;replace h2:=h2.ext e6
    have z9:=e6.size
    refine Qa (Qt Ua Z h2.at Z) Z (Qv Tryz.call91 Z (s_LinkOk [.int .i64 ((x.links[k]'hi2).cap),o14,.int .i64 ((x.links[k]'hi2).credits),.int .i64 ((x.links[k]'hi2).back),.int .i64 ((x.links[k]'hi2).sent),.int .i64 ((x.links[k]'hi2).got)] (x.links[k]'hi2) _ (Link.mkR (x.links[k]'hi2) (RdD.any (hd14.ext E)))) Z (fun _ w11 e7 hv=>?_))
    subst hv
    replace E:=E.trans e7;replace h1:=h1.ext e7;replace h2:=h2.ext e7
    have z10:=e7.size
    refine Qa (Yq Z) Z (Qa (Qc Z) Z (Y7 30 [(1,.pointer (some ⟨b1,0,none⟩)),(2,.bool false),(3,.int .i64 x.graph.workers),(5,.int .i64 ((k : Nat) : Int)),(6,.pointer (some ⟨b2,0,none⟩)),(52,.int .i64 ((k : Nat) : Int)),(53,.pointer (some ⟨b1,4,none⟩)),(54,o3),(55,.int .i64 ((x.links.length : Nat) : Int)),(56,.bool (decide (((k : Nat) : Int) < ((x.links.length : Nat) : Int)))),(59,.pointer (some ⟨b1,4,none⟩)),(60,o3),(61,.int .i64 ((k : Nat) : Int)),(62,.pointer (some ⟨Xf o3,Xm o3 + k * 6,none⟩)),(63,.agg [.int .i64 ((x.links[k]'hi2).cap),o14,.int .i64 ((x.links[k]'hi2).credits),.int .i64 ((x.links[k]'hi2).back),.int .i64 ((x.links[k]'hi2).sent),.int .i64 ((x.links[k]'hi2).got)].toArray),(97,.bool ((((!(X9 (x.links[k]'hi2))) || (((x.links[k]'hi2).cap) != x.graph.cap)) || (!(((x.links[k]'hi2).queue).all (Xr x.graph)))) || (((IntKind.i64.wrap (Int.tdiv ((k : Nat) : Int) x.graph.workers)) == (Int.tmod ((k : Nat) : Int) x.graph.workers)) && (decide (0 < ((((x.links[k]'hi2).queue).length : Nat) : Int))))))] (fun w'=>Ext w w' ∧ w11.heap.size ≤ w'.heap.size ∧ Blk w' b1 ([o1,.int .i64 x.graph.workers,.int .i64 x.graph.cap,o2,o3,o4,o5]) ∧ Blk w' b2 [.int .i64 ((x.links[k]'hi2).cap),o14,.int .i64 ((x.links[k]'hi2).credits),.int .i64 ((x.links[k]'hi2).back),.int .i64 ((x.links[k]'hi2).sent),.int .i64 ((x.links[k]'hi2).got)]) ?_ ?_))
    ·refine Y3 (gd:=67) Z Z (fun hg4=>?_) (fun hg4=>?_)
     ·refine Qg Z Z Z Z (Qg Z Z Z Z (Qg Z Z Z Z (Qg Z Z Z Z (Qg Z Z Z Z (Qg Z Z Z Z (Qa (Qx Z Z) Z (Qa (Qc Z) Z (Qg Z Z Z Z (Qg Z Z Z Z (Qg Z Z Z Z (Qg Z Z Z Z ?_)))))))))))
      refine Yp Z Z Z Z ?_
      refine Qg Z Z Z Z (Qa (Qx Z Z) Z (Qa (Qc Z) Z (Qg Z Z Z Z (Qg Z Z Z Z (Qg Z Z Z Z (Qg Z Z Z Z (Qg Z Z Z Z (Qg Z Z Z Z (Qg Z Z Z Z (Qg Z Z Z Z (Q9 Z Z Z (Q9 Z Z Z (Q9 Z Z Z (Q9 Z Z Z (Qg Z Z Z Z (Qa (Qx Z Z) Z (Qp ⟨Z,Z,Z,Z,Z,Z,Z,Z,Z,Z,Z,Z,Z,Z,Z,congrArg (fun b=>some (Value.bool b)) (show true = ((((!(X9 (x.links[k]'hi2))) || (((x.links[k]'hi2).cap) != x.graph.cap)) || (!(((x.links[k]'hi2).queue).all (Xr x.graph)))) || (((IntKind.i64.wrap (Int.tdiv ((k : Nat) : Int) x.graph.workers)) == (Int.tmod ((k : Nat) : Int) x.graph.workers)) && (decide (0 < ((((x.links[k]'hi2).queue).length : Nat) : Int))))) by first | (rw [hg4] <;> rfl) | (simp [hg4];done) | (simp only [Qo] <;> simp)),trivial⟩ ⟨E,(by omega),h1,h2⟩)))))))))))))))))
     ·refine Qm Z Z (Qb Uz Z) Z (Qm Z Z (Qj Yo Z (h2.one 0 Z)) Z (Qm Z Z (Qb Ur Z) Z (Qm Z Z (Qb Cf Z) Z (Qm Z Z (Qj Yo Z (h1.one 2 Z)) Z (Qm Z Z (Yu Z Z) Z (Qa (Qy Z Z) Z (Qa (Qc Z) Z ?_)))))))
      refine Y3 (gd:=75) Z Z (fun hg5=>?_) (fun hg5=>?_)
      ·refine Qg Z Z Z Z (Qg Z Z Z Z (Qg Z Z Z Z (Qg Z Z Z Z ?_)))
       refine Yp Z Z Z Z ?_
       refine Qg Z Z Z Z (Qa (Qx Z Z) Z (Qa (Qc Z) Z (Qg Z Z Z Z (Qg Z Z Z Z (Qg Z Z Z Z (Qg Z Z Z Z (Qg Z Z Z Z (Qg Z Z Z Z (Qg Z Z Z Z (Qg Z Z Z Z (Q9 Z Z Z (Q9 Z Z Z (Q9 Z Z Z (Q9 Z Z Z (Qg Z Z Z Z (Qa (Qx Z Z) Z (Qp ⟨Z,Z,Z,Z,Z,Z,Z,Z,Z,Z,Z,Z,Z,Z,Z,congrArg (fun b=>some (Value.bool b)) (show true = ((((!(X9 (x.links[k]'hi2))) || (((x.links[k]'hi2).cap) != x.graph.cap)) || (!(((x.links[k]'hi2).queue).all (Xr x.graph)))) || (((IntKind.i64.wrap (Int.tdiv ((k : Nat) : Int) x.graph.workers)) == (Int.tmod ((k : Nat) : Int) x.graph.workers)) && (decide (0 < ((((x.links[k]'hi2).queue).length : Nat) : Int))))) by first | (rw [hg4,hg5] <;> rfl) | (simp [hg4,hg5];done) | (simp only [Qo] <;> simp)),trivial⟩ ⟨E,(by omega),h1,h2⟩)))))))))))))))))
      ·refine Qm Z Z (Qb Ur Z) Z (Qm Z Z (Qt Km Z (h1.part 0 [o1,.int .i64 x.graph.workers,.int .i64 x.graph.cap] Z) Z) Z (Qm Z Z (Qb Kt Z) Z (Qm Z Z (Qj Xy Z (h2.one 1 Z)) Z ?_)))
       refine Xp Z Z ?_
       refine Qv Tryz.call92 Z (s_l12Records [o1,.int .i64 x.graph.workers,.int .i64 x.graph.cap] x.graph o14 ((x.links[k]'hi2).queue) _ (Graph.mkR x.graph (RdD.any (hd1.ext E))) (hd14.rd.ext E)) Z (fun _ w13 e8 hv=>?_)
       subst hv
       replace E:=E.trans e8;replace h1:=h1.ext e8;replace h2:=h2.ext e8
       have z11:=e8.size
       refine Qm Z Z (Yq Z) Z (Qa (Qy Z Z) Z (Qa (Qc Z) Z ?_))
       refine Y3 (gd:=83) Z Z (fun hg6=>?_) (fun hg6=>?_)
       ·refine Qg Z Z Z Z (Qg Z Z Z Z (Qg Z Z Z Z (Qg Z Z Z Z (Qg Z Z Z Z (Qg Z Z Z Z (Qg Z Z Z Z (Qg Z Z Z Z (Q9 Z Z Z (Q9 Z Z Z (Q9 Z Z Z (Q9 Z Z Z (Qg Z Z Z Z (Qa (Qx Z Z) Z (Qp ⟨Z,Z,Z,Z,Z,Z,Z,Z,Z,Z,Z,Z,Z,Z,Z,congrArg (fun b=>some (Value.bool b)) (show true = ((((!(X9 (x.links[k]'hi2))) || (((x.links[k]'hi2).cap) != x.graph.cap)) || (!(((x.links[k]'hi2).queue).all (Xr x.graph)))) || (((IntKind.i64.wrap (Int.tdiv ((k : Nat) : Int) x.graph.workers)) == (Int.tmod ((k : Nat) : Int) x.graph.workers)) && (decide (0 < ((((x.links[k]'hi2).queue).length : Nat) : Int))))) by first | (rw [hg4,hg5,hg6] <;> rfl) | (simp [hg4,hg5,hg6];done) | (simp only [Qo] <;> simp)),trivial⟩ ⟨E,(by omega),h1,h2⟩))))))))))))))
       ·refine Qm Z Z (Qc Z) Z (Qm Z Z (Qc Z) Z (Qm Z Z (R_quo Z Z (by omega) Z) Z (Qm Z Z (Qc Z) Z (Qm Z Z (Qc Z) Z (Qm Z Z (Gd Z Z (by omega) Z) Z (Qm Z Z (Y6 Z Z) Z (Qm Z Z (Qc Z) Z ?_)))))))
        refine Y3 (gd:=91) Z Z (fun hg7=>?_) (fun hg7=>?_)
        ·refine Qm Z Z (Qb Kt Z) Z (Qm Z Z (Qj Xy Z (h2.one 1 Z)) Z (Qm Z Z (Ya Tryz.underlying64 Z (hd14.ext E).len) Z (Qm Z Z (V0 Z Z) Z (Qm Z Z (Qx Z Z) Z (Qa (Qy Z Z) Z (Qp ⟨Z,Z,Z,Z,Z,Z,Z,Z,Z,Z,Z,Z,Z,Z,Z,congrArg (fun b=>some (Value.bool b)) (show (decide (0 < ((((x.links[k]'hi2).queue).length : Nat) : Int))) = ((((!(X9 (x.links[k]'hi2))) || (((x.links[k]'hi2).cap) != x.graph.cap)) || (!(((x.links[k]'hi2).queue).all (Xr x.graph)))) || (((IntKind.i64.wrap (Int.tdiv ((k : Nat) : Int) x.graph.workers)) == (Int.tmod ((k : Nat) : Int) x.graph.workers)) && (decide (0 < ((((x.links[k]'hi2).queue).length : Nat) : Int))))) by first | (rw [hg4,hg5,hg6,hg7] <;> rfl) | (simp [hg4,hg5,hg6,hg7];done) | (simp only [Qo] <;> simp)),trivial⟩ ⟨E,(by omega),h1,h2⟩))))))
        ·refine Qg Z Z Z Z (Qg Z Z Z Z (Qg Z Z Z Z (Qg Z Z Z Z (Qm Z Z (Qy Z Z) Z (Qa (Qy Z Z) Z (Qp ⟨Z,Z,Z,Z,Z,Z,Z,Z,Z,Z,Z,Z,Z,Z,Z,congrArg (fun b=>some (Value.bool b)) (show false = ((((!(X9 (x.links[k]'hi2))) || (((x.links[k]'hi2).cap) != x.graph.cap)) || (!(((x.links[k]'hi2).queue).all (Xr x.graph)))) || (((IntKind.i64.wrap (Int.tdiv ((k : Nat) : Int) x.graph.workers)) == (Int.tmod ((k : Nat) : Int) x.graph.workers)) && (decide (0 < ((((x.links[k]'hi2).queue).length : Nat) : Int))))) by first | (rw [hg4,hg5,hg6,hg7] <;> rfl) | (simp [hg4,hg5,hg6,hg7];done) | (simp only [Qo] <;> simp)),trivial⟩ ⟨E,(by omega),h1,h2⟩))))))
    clear E h1 h2
    rintro w12 ⟨E,z12,h1,h2⟩
    refine Qd (Qs Z (fun hc5=>?_) (fun hc5=>?_))
    ·refine Qf (Qh [true] Z Z (Qa (Qe Z) Z (Qd (Qw (Q2 (Y0 (Q2 (Ql Z Z E ?_))))))))
     exact cl_2 (by assumption) hc5
    ·refine Qn (Q4 (Yr (Qh [true,true,true] Z Z (Qa (Qc Z) Z (Qa (Q8 Z Z (Ye (by unfold maxLen;omega))) Z (Qa (Qe Z) Z (Qd (Q4 (Yc (k + 1) (by omega) ⟨Z,Z,Z,Z,trivial⟩ ⟨E,(by omega),h1,(by omega),Bb hI2 (lk_at (by assumption) hc5)⟩)))))))))
   ·have hc4n : ¬ k < x.links.length:=by first | (have h:=of_decide_eq_false hc4;omega) | (have h:=hc4;simp at h;omega)
    refine Yn (Q5 (Q3 ?_))
    refine Qf (Qf (Qh [true] Z Z (Qa (Qe Z) Z (Qd (Q0 (Ym (fun (k : Nat)=>[(1,.pointer (some ⟨b1,0,none⟩)),(2,.bool false),(3,.int .i64 x.graph.workers),(7,.int .i64 ((k : Nat) : Int))]) (fun (k : Nat) w'=>Ext w w' ∧ w7.heap.size ≤ w'.heap.size ∧ Blk w' b1 ([o1,.int .i64 x.graph.workers,.int .i64 x.graph.cap,o2,o3,o4,o5]) ∧ k ≤ x.tokens.length ∧ (x.tokens.take k).all (fun t=>!tkBad x.graph t) = true) (fun (k : Nat)=>x.tokens.length - k) 0 ⟨Z,Z,Z,Z,trivial⟩ ⟨E,Nat.le_refl _,h1,Nat.zero_le _,Z⟩ ?_))))))
    clear E h1
    rintro k w14 ⟨E,z13,h1,hk,hI3⟩
    have hmt:=hd4.1.1
    unfold maxLen at hmt
    refine Qf (Qf (Qh [true,true,true,true,true] Z Z (Qa (Qc Z) Z (Qa (Qb Vk Z) Z (Qa (Qj Cu Z (h1.one 5 Z)) Z (Qa (Ya Tryz.underlying37 Z (hd4.ext E).len) Z (Qa (Yf Z Z) Z (Qd (Qs Z (fun hc6=>?_) (fun hc6=>?_))))))))))
    ·have hc6n : k < x.tokens.length:=by first | (have h:=of_decide_eq_true hc6;omega) | (have h:=hc6;simp at h;omega)
     refine Qn (Qf (Q0 (Qf (Qh [true,true,true,true,true,true,true,true,false,true,true,true,true,true,true,true,true,true,true,true,true,true,true,true,true,true,true,true,true,true,true,true,true,true,true,false,true,true] Z Z (Qa (Qb Vk Z) Z (Qa (Qj Cu Z (h1.one 5 Z)) Z (Qa (Qc Z) Z ?_)))))))
     have hi3 : k < x.tokens.length:=(by first | assumption | omega | (simp only [List.length_set];first | assumption | omega))
     refine Qa (Q1 (i:=k) Hg Z Z (hd4.rd.ext E) hi3) Z (Qa (Qz G9 Z) Z (Qa (Qj Yo Z (((hd4.rd.ext E).get hi3).one 1 Z)) Z (Qa (Qc Z) Z (Qa (Uu Z Z Z) Z (Qv Tryz.call93 Z (s_l01In ((x.tokens[k]'hi3).place) 0 (IntKind.i64.wrap (x.graph.workers - 1)) _ ) Z (fun _ w15 e9 hv=>?_))))))
     subst hv
     replace E:=E.trans e9;replace h1:=h1.ext e9
     have z14:=e9.size
     refine Qa (Yq Z) Z (Qa (Qc Z) Z (Y7 27 [(1,.pointer (some ⟨b1,0,none⟩)),(2,.bool false),(3,.int .i64 x.graph.workers),(7,.int .i64 ((k : Nat) : Int)),(98,.int .i64 ((k : Nat) : Int)),(99,.pointer (some ⟨b1,5,none⟩)),(100,o4),(101,.int .i64 ((x.tokens.length : Nat) : Int)),(102,.bool (decide (((k : Nat) : Int) < ((x.tokens.length : Nat) : Int)))),(142,.bool (((!(Yw ((x.tokens[k]'hi3).place) 0 (IntKind.i64.wrap (x.graph.workers - 1)))) || ((!((x.tokens[k]'hi3).going)) && (((x.tokens[k]'hi3).place) != 0))) || (!(Yw ((x.tokens[k]'hi3).sum) (-1000000) 1000000))))] (fun w'=>Ext w w' ∧ w15.heap.size ≤ w'.heap.size ∧ Blk w' b1 ([o1,.int .i64 x.graph.workers,.int .i64 x.graph.cap,o2,o3,o4,o5])) ?_ ?_))
     ·refine Y3 (gd:=115) Z Z (fun hg8=>?_) (fun hg8=>?_)
      ·refine Qg Z Z Z Z (Qg Z Z Z Z (Qg Z Z Z Z (Qg Z Z Z Z (Qg Z Z Z Z (Qg Z Z Z Z (Qg Z Z Z Z (Qg Z Z Z Z (Q9 Z Z Z (Q9 Z Z Z (Q9 Z Z Z (Q9 Z Z Z (Q9 Z Z Z (Q9 Z Z Z (Q9 Z Z Z (Qg Z Z Z Z (Qa (Qx Z Z) Z (Qa (Qc Z) Z (Qg Z Z Z Z (Qg Z Z Z Z (Qg Z Z Z Z (Qg Z Z Z Z (Qg Z Z Z Z (Qg Z Z Z Z ?_)))))))))))))))))))))))
       refine Yp Z Z Z Z ?_
       refine Qg Z Z Z Z (Qa (Qx Z Z) Z (Qp ⟨Z,Z,Z,Z,Z,Z,Z,Z,Z,congrArg (fun b=>some (Value.bool b)) (show true = (((!(Yw ((x.tokens[k]'hi3).place) 0 (IntKind.i64.wrap (x.graph.workers - 1)))) || ((!((x.tokens[k]'hi3).going)) && (((x.tokens[k]'hi3).place) != 0))) || (!(Yw ((x.tokens[k]'hi3).sum) (-1000000) 1000000))) by first | (rw [hg8] <;> rfl) | (simp [hg8];done) | (simp only [Qo] <;> simp)),trivial⟩ ⟨E,(by omega),h1⟩))
      ·refine Qm Z Z (Qb Vk Z) Z (Qm Z Z (Qj Cu Z (h1.one 5 Z)) Z (Qm Z Z (Qc Z) Z (Qm Z Z (Q1 (i:=k) Hg Z Z (hd4.rd.ext E) hi3) Z (Qm Z Z (Qz Tv Z) Z (Qm Z Z (Qj Tb Z (((hd4.rd.ext E).get hi3).one 0 Z)) Z (Qm Z Z (Yq Z) Z (Qm Z Z (Qc Z) Z ?_)))))))
       refine Y3 (gd:=123) Z Z (fun hg9=>?_) (fun hg9=>?_)
       ·refine Qm Z Z (Qb Vk Z) Z (Qm Z Z (Qj Cu Z (h1.one 5 Z)) Z (Qm Z Z (Qc Z) Z (Qm Z Z (Q1 (i:=k) Hg Z Z (hd4.rd.ext E) hi3) Z (Qm Z Z (Qz G9 Z) Z (Qm Z Z (Qj Yo Z (((hd4.rd.ext E).get hi3).one 1 Z)) Z (Qm Z Z (Yu Z Z) Z (Qm Z Z (Qx Z Z) Z (Qa (Qy Z Z) Z (Qa (Qc Z) Z ?_)))))))))
        refine Y3 (gd:=133) Z Z (fun hg10=>?_) (fun hg10=>?_)
        ·refine Qg Z Z Z Z (Qg Z Z Z Z (Qg Z Z Z Z (Qg Z Z Z Z (Qg Z Z Z Z (Qg Z Z Z Z ?_)))))
         refine Yp Z Z Z Z ?_
         refine Qg Z Z Z Z (Qa (Qx Z Z) Z (Qp ⟨Z,Z,Z,Z,Z,Z,Z,Z,Z,congrArg (fun b=>some (Value.bool b)) (show true = (((!(Yw ((x.tokens[k]'hi3).place) 0 (IntKind.i64.wrap (x.graph.workers - 1)))) || ((!((x.tokens[k]'hi3).going)) && (((x.tokens[k]'hi3).place) != 0))) || (!(Yw ((x.tokens[k]'hi3).sum) (-1000000) 1000000))) by first | (rw [hg8,hg9,hg10] <;> rfl) | (simp [hg8,hg9,hg10];done) | (simp only [Qo] <;> simp)),trivial⟩ ⟨E,(by omega),h1⟩))
        ·refine Qm Z Z (Qb Vk Z) Z (Qm Z Z (Qj Cu Z (h1.one 5 Z)) Z (Qm Z Z (Qc Z) Z (Qm Z Z (Q1 (i:=k) Hg Z Z (hd4.rd.ext E) hi3) Z (Qm Z Z (Qz G8 Z) Z (Qm Z Z (Qj Yo Z (((hd4.rd.ext E).get hi3).one 2 Z)) Z ?_)))))
         refine Xp Z Z ?_
         refine Qv Tryz.call93 Z (s_l01In ((x.tokens[k]'hi3).sum) (-1000000) 1000000 _ ) Z (fun _ w17 e10 hv=>?_)
         subst hv
         replace E:=E.trans e10;replace h1:=h1.ext e10
         have z15:=e10.size
         refine Qm Z Z (Yq Z) Z (Qa (Qy Z Z) Z (Qp ⟨Z,Z,Z,Z,Z,Z,Z,Z,Z,congrArg (fun b=>some (Value.bool b)) (show (!(Yw ((x.tokens[k]'hi3).sum) (-1000000) 1000000)) = (((!(Yw ((x.tokens[k]'hi3).place) 0 (IntKind.i64.wrap (x.graph.workers - 1)))) || ((!((x.tokens[k]'hi3).going)) && (((x.tokens[k]'hi3).place) != 0))) || (!(Yw ((x.tokens[k]'hi3).sum) (-1000000) 1000000))) by first | (rw [hg8,hg9,hg10] <;> rfl) | (simp [hg8,hg9,hg10];done) | (simp only [Qo] <;> simp)),trivial⟩ ⟨E,(by omega),h1⟩))
       ·refine Qg Z Z Z Z (Qg Z Z Z Z (Qg Z Z Z Z (Qg Z Z Z Z (Qg Z Z Z Z (Qg Z Z Z Z (Qg Z Z Z Z (Qm Z Z (Qy Z Z) Z (Qa (Qy Z Z) Z (Qa (Qc Z) Z (Qm Z Z (Qb Vk Z) Z (Qm Z Z (Qj Cu Z (h1.one 5 Z)) Z (Qm Z Z (Qc Z) Z (Qm Z Z (Q1 (i:=k) Hg Z Z (hd4.rd.ext E) hi3) Z (Qm Z Z (Qz G8 Z) Z (Qm Z Z (Qj Yo Z (((hd4.rd.ext E).get hi3).one 2 Z)) Z ?_)))))))))))))))
        refine Xp Z Z ?_
        refine Qv Tryz.call93 Z (s_l01In ((x.tokens[k]'hi3).sum) (-1000000) 1000000 _ ) Z (fun _ w18 e11 hv=>?_)
        subst hv
        replace E:=E.trans e11;replace h1:=h1.ext e11
        have z16:=e11.size
        refine Qm Z Z (Yq Z) Z (Qa (Qy Z Z) Z (Qp ⟨Z,Z,Z,Z,Z,Z,Z,Z,Z,congrArg (fun b=>some (Value.bool b)) (show (!(Yw ((x.tokens[k]'hi3).sum) (-1000000) 1000000)) = (((!(Yw ((x.tokens[k]'hi3).place) 0 (IntKind.i64.wrap (x.graph.workers - 1)))) || ((!((x.tokens[k]'hi3).going)) && (((x.tokens[k]'hi3).place) != 0))) || (!(Yw ((x.tokens[k]'hi3).sum) (-1000000) 1000000))) by first | (rw [hg8,hg9] <;> rfl) | (simp [hg8,hg9];done) | (simp only [Qo] <;> simp)),trivial⟩ ⟨E,(by omega),h1⟩))
     clear E h1
     rintro w16 ⟨E,z17,h1⟩
     refine Qd (Qs Z (fun hc7=>?_) (fun hc7=>?_))
     ·refine Qf (Qh [true] Z Z (Qa (Qe Z) Z (Qd (Qw (Q2 (Y0 (Q2 (Ql Z Z E ?_))))))))
      exact cl_3 (by assumption) hc7
     ·refine Qn (Q4 (Yr (Qh [true,true,true] Z Z (Qa (Qc Z) Z (Qa (Q8 Z Z (Ye (by unfold maxLen;omega))) Z (Qa (Qe Z) Z (Qd (Q4 (Yc (k + 1) (by omega) ⟨Z,Z,Z,Z,trivial⟩ ⟨E,(by omega),h1,(by omega),Kf hI3 (by assumption) (nb hc7)⟩)))))))))
    ·have hc6n : ¬ k < x.tokens.length:=by first | (have h:=of_decide_eq_false hc6;omega) | (have h:=hc6;simp at h;omega)
     refine Yn (Q5 (Q3 ?_))
     refine Qf (Qf (Qh [true] Z Z (Qa (Qe Z) Z (Qd (Q0 (Ym (fun (k : Nat)=>[(1,.pointer (some ⟨b1,0,none⟩)),(2,.bool false),(3,.int .i64 x.graph.workers),(8,.int .i64 ((k : Nat) : Int))]) (fun (k : Nat) w'=>Ext w w' ∧ w14.heap.size ≤ w'.heap.size ∧ Blk w' b1 ([o1,.int .i64 x.graph.workers,.int .i64 x.graph.cap,o2,o3,o4,o5]) ∧ k ≤ x.news.length ∧ (x.news.take k).all (fun t=>!nwBad x.graph t) = true) (fun (k : Nat)=>x.news.length - k) 0 ⟨Z,Z,Z,Z,trivial⟩ ⟨E,Nat.le_refl _,h1,Nat.zero_le _,Z⟩ ?_))))))
     clear E h1
     rintro k w19 ⟨E,z18,h1,hk,hI4⟩
     have hmn:=hd5.1.1
     unfold maxLen at hmn
     refine Qf (Qf (Qh [true,true,true,true,true] Z Z (Qa (Qc Z) Z (Qa (Qb Hn Z) Z (Qa (Qj B7 Z (h1.one 6 Z)) Z (Qa (Ya Tryz.underlying38 Z (hd5.ext E).len) Z (Qa (Yf Z Z) Z (Qd (Qs Z (fun hc8=>?_) (fun hc8=>?_))))))))))
     ·have hc8n : k < x.news.length:=by first | (have h:=of_decide_eq_true hc8;omega) | (have h:=hc8;simp at h;omega)
      refine Qn (Qf (Q0 (Qf (Qh [true,true,true,true,true,true,true,true,false,true,true,true,true,true,true,true,true,false,true,true] Z Z (Qa (Qb Hn Z) Z (Qa (Qj B7 Z (h1.one 6 Z)) Z (Qa (Qc Z) Z ?_)))))))
      have hi4 : k < x.news.length:=(by first | assumption | omega | (simp only [List.length_set];first | assumption | omega))
      refine Qa (Q1 (i:=k) Cs Z Z (hd5.rd.ext E) hi4) Z (Qa (Qz Tu Z) Z (Qa (Qj Yo Z (((hd5.rd.ext E).get hi4).one 0 Z)) Z (Qa (Qc Z) Z (Qa (Uu Z Z Z) Z (Qv Tryz.call93 Z (s_l01In ((x.news[k]'hi4).dest) 0 (IntKind.i64.wrap (x.graph.workers - 1)) _ ) Z (fun _ w20 e12 hv=>?_))))))
      subst hv
      replace E:=E.trans e12;replace h1:=h1.ext e12
      have z19:=e12.size
      refine Qa (Yq Z) Z (Qa (Qc Z) Z (Y7 9 [(1,.pointer (some ⟨b1,0,none⟩)),(2,.bool false),(3,.int .i64 x.graph.workers),(8,.int .i64 ((k : Nat) : Int)),(143,.int .i64 ((k : Nat) : Int)),(144,.pointer (some ⟨b1,6,none⟩)),(145,o5),(146,.int .i64 ((x.news.length : Nat) : Int)),(147,.bool (decide (((k : Nat) : Int) < ((x.news.length : Nat) : Int)))),(169,.bool ((!(Yw ((x.news[k]'hi4).dest) 0 (IntKind.i64.wrap (x.graph.workers - 1)))) || (!(Yw ((x.news[k]'hi4).epoch) 0 3))))] (fun w'=>Ext w w' ∧ w20.heap.size ≤ w'.heap.size ∧ Blk w' b1 ([o1,.int .i64 x.graph.workers,.int .i64 x.graph.cap,o2,o3,o4,o5])) ?_ ?_))
      ·refine Y3 (gd:=160) Z Z (fun hg11=>?_) (fun hg11=>?_)
       ·refine Qg Z Z Z Z (Qg Z Z Z Z (Qg Z Z Z Z (Qg Z Z Z Z (Qg Z Z Z Z (Qg Z Z Z Z ?_)))))
        refine Yp Z Z Z Z ?_
        refine Qg Z Z Z Z (Qa (Qx Z Z) Z (Qp ⟨Z,Z,Z,Z,Z,Z,Z,Z,Z,congrArg (fun b=>some (Value.bool b)) (show true = ((!(Yw ((x.news[k]'hi4).dest) 0 (IntKind.i64.wrap (x.graph.workers - 1)))) || (!(Yw ((x.news[k]'hi4).epoch) 0 3))) by first | (rw [hg11] <;> rfl) | (simp [hg11];done) | (simp only [Qo] <;> simp)),trivial⟩ ⟨E,(by omega),h1⟩))
       ·refine Qm Z Z (Qb Hn Z) Z (Qm Z Z (Qj B7 Z (h1.one 6 Z)) Z (Qm Z Z (Qc Z) Z (Qm Z Z (Q1 (i:=k) Cs Z Z (hd5.rd.ext E) hi4) Z (Qm Z Z (Qz Tt Z) Z (Qm Z Z (Qj Yo Z (((hd5.rd.ext E).get hi4).one 1 Z)) Z ?_)))))
        refine Xp Z Z ?_
        refine Qv Tryz.call93 Z (s_l01In ((x.news[k]'hi4).epoch) 0 3 _ ) Z (fun _ w22 e13 hv=>?_)
        subst hv
        replace E:=E.trans e13;replace h1:=h1.ext e13
        have z20:=e13.size
        refine Qm Z Z (Yq Z) Z (Qa (Qy Z Z) Z (Qp ⟨Z,Z,Z,Z,Z,Z,Z,Z,Z,congrArg (fun b=>some (Value.bool b)) (show (!(Yw ((x.news[k]'hi4).epoch) 0 3)) = ((!(Yw ((x.news[k]'hi4).dest) 0 (IntKind.i64.wrap (x.graph.workers - 1)))) || (!(Yw ((x.news[k]'hi4).epoch) 0 3))) by first | (rw [hg11] <;> rfl) | (simp [hg11];done) | (simp only [Qo] <;> simp)),trivial⟩ ⟨E,(by omega),h1⟩))
      clear E h1
      rintro w21 ⟨E,z21,h1⟩
      refine Qd (Qs Z (fun hc9=>?_) (fun hc9=>?_))
      ·refine Qf (Qh [true] Z Z (Qa (Qe Z) Z (Qd (Qw (Q2 (Y0 (Q2 (Ql Z Z E ?_))))))))
       exact cl_4 (by assumption) hc9
      ·refine Qn (Q4 (Yr (Qh [true,true,true] Z Z (Qa (Qc Z) Z (Qa (Q8 Z Z (Ye (by unfold maxLen;omega))) Z (Qa (Qe Z) Z (Qd (Q4 (Yc (k + 1) (by omega) ⟨Z,Z,Z,Z,trivial⟩ ⟨E,(by omega),h1,(by omega),Kf hI4 (by assumption) (nb hc9)⟩)))))))))
     ·have hc8n : ¬ k < x.news.length:=by first | (have h:=of_decide_eq_false hc8;omega) | (have h:=hc8;simp at h;omega)
      refine Yn (Q5 (Q3 ?_))
      refine Qf (Qh [true] Z Z (Qa (Qe Z) Z (Qd (Qw (Ql Z Z E ?_)))))
      exact cl_5 hc1 (He hI1 (by omega)) (Cq hI2 (by omega)) (He hI3 (by omega)) (He hI4 (by omega))

set_option maxHeartbeats 4000000 in
set_option maxRecDepth 20000 in
theorem c_ClusterOk (cx : List Value) (x : Cluster) (w : World) (hx : Dat.R w 0 w.heap.size cx x) (hok : ∀ l ∈ x.links,rg l.got) : Ct Tryz.prog 57 [.agg cx.toArray] w (fun v _=>v = .bool (Ug x)):=by
 refine Yh Tryz.func57 Z Tryz.ntmps57 Z ?_
 obtain ⟨o1,o2,o3,o4,o5,rfl,hd1,hd2,hd3,hd4,hd5⟩:=Cluster.op hx
 refine Q7 [(0,.agg [o1,.int .i64 x.graph.workers,.int .i64 x.graph.cap,o2,o3,o4,o5].toArray)] ⟨Z,trivial⟩ ?_
 have E : Ext w w:=Ext.refl w
 refine Qf (Qh [false,true] Z Z (Y1 Z Z (fun b1 w1 e1 s1 h1=>?_)))
 have g_b1 : w.heap.size ≤ b1:=by have:=E.size;omega
 have y_b1:=h1.lt
 replace E:=E.trans e1
 have z1:=e1.size
 refine Qa (Qe Z) Z (Qd (Qf (Qh [true,true,true,true] Z Z (Qa (Qb Ur Z) Z (Qa (Qb Cg Z) Z (Qa (Qj Yo Z (h1.one 1 Z)) Z (Qa (Qe Z) Z (Qd (Qf (Qf (Qh [true,true,false,true,true,true,true,true,true,true,true,true,true,true,true,true,true,true,true,true,true,true,true,true,true,true] Z Z (Qa (Qb Ur Z) Z (Qa (Qt Km Z (h1.part 0 [o1,.int .i64 x.graph.workers,.int .i64 x.graph.cap] Z) Z) Z (Qv Tryz.call59 Z (c_GraphOk [o1,.int .i64 x.graph.workers,.int .i64 x.graph.cap] x.graph _ (Graph.mkR x.graph (RdD.any (hd1.ext E)))) Z (fun _ w2 e2 hv=>?_)))))))))))))))
 subst hv
 replace E:=E.trans e2;replace h1:=h1.ext e2
 have z2:=e2.size
 refine Qa (Yq Z) Z (Qa (Qc Z) Z (Y7 21 [(0,.agg [o1,.int .i64 x.graph.workers,.int .i64 x.graph.cap,o2,o3,o4,o5].toArray),(1,.pointer (some ⟨b1,0,none⟩)),(2,.bool false),(3,.int .i64 x.graph.workers),(12,.pointer (some ⟨b1,0,none⟩)),(13,.pointer (some ⟨b1,1,none⟩)),(14,.int .i64 x.graph.workers),(40,.bool ((((!(Ys x.graph)) || (((x.workers.length : Nat) : Int) != x.graph.workers)) || (((x.links.length : Nat) : Int) != (IntKind.i64.wrap (x.graph.workers * x.graph.workers)))) || (((x.tokens.length : Nat) : Int) != 4)))] (fun w'=>w2 = w') ?_ ?_))
 ·refine Y3 (gd:=19) Z Z (fun hg1=>?_) (fun hg1=>?_)
  ·refine Qg Z Z Z Z (Qg Z Z Z Z (Qg Z Z Z Z (Qg Z Z Z Z (Qg Z Z Z Z (Qa (Qx Z Z) Z (Qa (Qc Z) Z (Qg Z Z Z Z (Qg Z Z Z Z (Qg Z Z Z Z (Qg Z Z Z Z (Qg Z Z Z Z (Qg Z Z Z Z (Qg Z Z Z Z (Qa (Qx Z Z) Z (Qa (Qc Z) Z (Qg Z Z Z Z (Qg Z Z Z Z (Qg Z Z Z Z (Qg Z Z Z Z (Qa (Qx Z Z) Z (Qp ⟨Z,Z,Z,Z,Z,Z,Z,congrArg (fun b=>some (Value.bool b)) (show true = ((((!(Ys x.graph)) || (((x.workers.length : Nat) : Int) != x.graph.workers)) || (((x.links.length : Nat) : Int) != (IntKind.i64.wrap (x.graph.workers * x.graph.workers)))) || (((x.tokens.length : Nat) : Int) != 4)) by first | (rw [hg1] <;> rfl) | (simp [hg1];done) | (simp only [Qo] <;> simp)),trivial⟩ Z)))))))))))))))))))))
  ·refine Qm Z Z (Qb Kh Z) Z (Qm Z Z (Qj Gh Z (h1.one 3 Z)) Z (Qm Z Z (Ya Tryz.underlying35 Z (hd2.ext E).len) Z (Qm Z Z (Qc Z) Z (Qm Z Z (Yu Z Z) Z (Qa (Qy Z Z) Z (Qa (Qc Z) Z ?_))))))
   refine Y3 (gd:=26) Z Z (fun hg2=>?_) (fun hg2=>?_)
   ·refine Qg Z Z Z Z (Qg Z Z Z Z (Qg Z Z Z Z (Qg Z Z Z Z (Qg Z Z Z Z (Qg Z Z Z Z (Qg Z Z Z Z (Qa (Qx Z Z) Z (Qa (Qc Z) Z (Qg Z Z Z Z (Qg Z Z Z Z (Qg Z Z Z Z (Qg Z Z Z Z (Qa (Qx Z Z) Z (Qp ⟨Z,Z,Z,Z,Z,Z,Z,congrArg (fun b=>some (Value.bool b)) (show true = ((((!(Ys x.graph)) || (((x.workers.length : Nat) : Int) != x.graph.workers)) || (((x.links.length : Nat) : Int) != (IntKind.i64.wrap (x.graph.workers * x.graph.workers)))) || (((x.tokens.length : Nat) : Int) != 4)) by first | (rw [hg1,hg2] <;> rfl) | (simp [hg1,hg2];done) | (simp only [Qo] <;> simp)),trivial⟩ Z))))))))))))))
   ·refine Qm Z Z (Qb Uk Z) Z (Qm Z Z (Qj H2 Z (h1.one 4 Z)) Z (Qm Z Z (Ya Tryz.underlying36 Z (hd3.ext E).len) Z (Qm Z Z (Qc Z) Z (Qm Z Z (Qc Z) Z (Qm Z Z (R_mul Z Z Z) Z (Qm Z Z (Yu Z Z) Z (Qa (Qy Z Z) Z (Qa (Qc Z) Z ?_))))))))
    refine Y3 (gd:=35) Z Z (fun hg3=>?_) (fun hg3=>?_)
    ·refine Qg Z Z Z Z (Qg Z Z Z Z (Qg Z Z Z Z (Qg Z Z Z Z (Qa (Qx Z Z) Z (Qp ⟨Z,Z,Z,Z,Z,Z,Z,congrArg (fun b=>some (Value.bool b)) (show true = ((((!(Ys x.graph)) || (((x.workers.length : Nat) : Int) != x.graph.workers)) || (((x.links.length : Nat) : Int) != (IntKind.i64.wrap (x.graph.workers * x.graph.workers)))) || (((x.tokens.length : Nat) : Int) != 4)) by first | (rw [hg1,hg2,hg3] <;> rfl) | (simp [hg1,hg2,hg3];done) | (simp only [Qo] <;> simp)),trivial⟩ Z)))))
    ·refine Qm Z Z (Qb Vk Z) Z (Qm Z Z (Qj Cu Z (h1.one 5 Z)) Z (Qm Z Z (Ya Tryz.underlying37 Z (hd4.ext E).len) Z (Qm Z Z (Yu Z Z) Z (Qa (Qy Z Z) Z (Qp ⟨Z,Z,Z,Z,Z,Z,Z,congrArg (fun b=>some (Value.bool b)) (show (((x.tokens.length : Nat) : Int) != 4) = ((((!(Ys x.graph)) || (((x.workers.length : Nat) : Int) != x.graph.workers)) || (((x.links.length : Nat) : Int) != (IntKind.i64.wrap (x.graph.workers * x.graph.workers)))) || (((x.tokens.length : Nat) : Int) != 4)) by first | (rw [hg1,hg2,hg3] <;> rfl) | (simp [hg1,hg2,hg3];done) | (simp only [Qo] <;> simp)),trivial⟩ Z)))))
 rintro _ rfl
 refine Qd (Qs Z (fun hc1=>?_) (fun hc1=>?_))
 ·refine Qf (Qh [true] Z Z (Qa (Qe Z) Z (Qd (Qw (Ql Z Z E ?_)))))
  exact cl_0 hc1
 ·have hgw:=cl_g hc1
  have hlw:=cl_w hc1
  refine Qn (Qf (Qf (Qh [true,true,true,true] Z Z (Qa (Qb Kh Z) Z (Qa (Qj Gh Z (h1.one 3 Z)) Z (Qa (Ya Tryz.underlying35 Z (hd2.ext E).len) Z (Qa (Qc Z) Z (Qd (Q0 (Ym (fun (k : Nat)=>[(1,.pointer (some ⟨b1,0,none⟩)),(2,.bool false),(3,.int .i64 x.graph.workers),(42,o2),(43,.int .i64 ((x.workers.length : Nat) : Int)),(44,.int .i64 ((k : Nat) : Int))]) (fun (k : Nat) w'=>Ext w w' ∧ w2.heap.size ≤ w'.heap.size ∧ Blk w' b1 ([o1,.int .i64 x.graph.workers,.int .i64 x.graph.cap,o2,o3,o4,o5]) ∧ k ≤ x.workers.length ∧ (x.workers.take k).all (Xc x.graph) = true) (fun (k : Nat)=>x.workers.length - k) 0 ⟨Z,Z,Z,Z,Z,Z,trivial⟩ ⟨E,Nat.le_refl _,h1,Nat.zero_le _,Z⟩ ?_))))))))))
  clear E h1
  rintro k w4 ⟨E,z3,h1,hk,hI1⟩
  have hmw:=hd2.1.1
  unfold maxLen at hmw
  refine Qf (Qh [true] Z Z (Qa (Yf Z Z) Z (Qd (Qf (Qs Z (fun hc2=>?_) (fun hc2=>?_))))))
  ·have hc2n : k < x.workers.length:=by first | (have h:=of_decide_eq_true hc2;omega) | (have h:=hc2;simp at h;omega)
   refine Qn (Qf (Q0 (Qf (Qh [true,true,false,false] Z Z ?_))))
   have hi1 : k < x.workers.length:=(by first | assumption | omega | (simp only [List.length_set];first | assumption | omega))
   obtain ⟨_,hr1,ha1⟩:=RdD.get hd2 hi1
   obtain ⟨o6,o7,o8,o9,o10,o11,o12,o13,rfl,hd6,hd7,hd8,hd9,hd10,hd11,hd12,hd13⟩:=Worker.op hr1
   replace ha1 : At w (Xf o2) (Xm o2 + k * 8) [o6,o7,o8,o9,o10,o11,o12,o13]:=ha1
   refine Qa (Q1 (i:=k) U8 Z Z (hd2.ext E).1 hi1) Z (Qa (Qt Kw Z (ha1.ext E) Z) Z (Yk Kw Z (fun b2 w5 e3 s2 h2=>?_)))
   have g_b2 : w.heap.size ≤ b2:=by have:=E.size;omega
   have y_b2:=h2.lt
   replace E:=E.trans e3;replace h1:=h1.ext e3
   have z4:=e3.size
   refine Q6 (cs':=[o6,o7,o8,o9,o10,o11,o12,o13]) Kw Z Z Z (Qk (RdD.one (hd6.ext E)) (Qk (RdD.one (hd7.ext E)) (Qk (RdD.one (hd8.ext E)) (Qk (RdD.one (hd9.ext E)) (Qk (RdD.one (hd10.ext E)) (Qk (RdD.one (hd11.ext E)) (Qk (RdD.one (hd12.ext E)) (Qk (RdD.one (hd13.ext E)) Z)))))))) h2 (Nat.le_of_ble_eq_true Z) Z (fun w6 m1 h2'=>?_)
   replace h2:=h2'
   replace E:=E.step m1 (fun g hg=>by cases hg;omega);replace h1:=h1.mod m1 (fun g hg=>by cases hg;omega)
   have z5:=m1.size
   refine Qd (Qf (Qh [true,true,true,false,true] Z Z (Qa (Qb Ur Z) Z (Qa (Qt Km Z (h1.part 0 [o1,.int .i64 x.graph.workers,.int .i64 x.graph.cap] Z) Z) Z (Qa (Qt Kw Z h2.at Z) Z (Qv Tryz.call60 Z (c_WorkerOk [o1,.int .i64 x.graph.workers,.int .i64 x.graph.cap] x.graph [o6,o7,o8,o9,o10,o11,o12,o13] (x.workers[k]'hi1) _ (Graph.mkR x.graph (RdD.any (hd1.ext E))) (Worker.mkR (x.workers[k]'hi1) (RdD.any (hd6.ext E)) (RdD.any (hd7.ext E)) (RdD.any (hd8.ext E)) (RdD.any (hd9.ext E)) (RdD.any (hd10.ext E)) (RdD.any (hd11.ext E)) (RdD.any (hd12.ext E)) (RdD.any (hd13.ext E)))) Z (fun _ w7 e4 hv=>?_)))))))
   subst hv
   replace E:=E.trans e4;replace h1:=h1.ext e4;replace h2:=h2.ext e4
   have z6:=e4.size
   refine Qa (Yq Z) Z (Qd (Qs Z (fun hc3=>?_) (fun hc3=>?_)))
   ·refine Qf (Qh [true] Z Z (Qa (Qe Z) Z (Qd (Qw (Q2 (Y0 (Q2 (Ql Z Z E ?_))))))))
    exact cl_1 (by assumption) (by simpa using hc3)
   ·refine Qn (Q4 (Yr (Qh [true,true] Z Z (Qa (Q8 Z Z (Ye (by unfold maxLen;omega))) Z (Qa (Qc Z) Z (Qd (Q4 (Yc (k + 1) (by omega) ⟨Z,Z,Z,Z,Z,Z,trivial⟩ ⟨E,(by omega),h1,(by omega),Kf hI1 (by assumption) (by simpa using hc3)⟩))))))))
  ·have hc2n : ¬ k < x.workers.length:=by first | (have h:=of_decide_eq_false hc2;omega) | (have h:=hc2;simp at h;omega)
   refine Yn (Q5 (Q3 ?_))
   refine Qf (Qf (Qh [true,true,true,true] Z Z (Qa (Qb Uk Z) Z (Qa (Qj H2 Z (h1.one 4 Z)) Z (Qa (Ya Tryz.underlying36 Z (hd3.ext E).len) Z (Qa (Qc Z) Z (Qd (Q0 (Ym (fun (k : Nat)=>[(1,.pointer (some ⟨b1,0,none⟩)),(2,.bool false),(3,.int .i64 x.graph.workers),(55,o3),(56,.int .i64 ((x.links.length : Nat) : Int)),(57,.int .i64 ((k : Nat) : Int))]) (fun (k : Nat) w'=>Ext w w' ∧ w4.heap.size ≤ w'.heap.size ∧ Blk w' b1 ([o1,.int .i64 x.graph.workers,.int .i64 x.graph.cap,o2,o3,o4,o5]) ∧ k ≤ x.links.length ∧ H8 k (fun j=>!Bk x.graph j (List.getD x.links j default)) = true) (fun (k : Nat)=>x.links.length - k) 0 ⟨Z,Z,Z,Z,Z,Z,trivial⟩ ⟨E,Nat.le_refl _,h1,Nat.zero_le _,Z⟩ ?_)))))))))
   clear E h1
   rintro k w8 ⟨E,z7,h1,hk,hI2⟩
   have hml:=hd3.1.1
   unfold maxLen at hml
   refine Qf (Qh [true] Z Z (Qa (Yf Z Z) Z (Qd (Qf (Qs Z (fun hc4=>?_) (fun hc4=>?_))))))
   ·have hc4n : k < x.links.length:=by first | (have h:=of_decide_eq_true hc4;omega) | (have h:=hc4;simp at h;omega)
    refine Qn (Qf (Q0 (Qf (Qh [true,true,true,false,true,false] Z Z (Qa (Qc Z) Z ?_)))))
    have hi2 : k < x.links.length:=(by first | assumption | omega | (simp only [List.length_set];first | assumption | omega))
    obtain ⟨_,hr2,ha2⟩:=RdD.get hd3 hi2
    obtain ⟨o14,rfl,hd14⟩:=Link.op hr2
    replace ha2 : At w (Xf o3) (Xm o3 + k * 6) [.int .i64 ((x.links[k]'hi2).cap),o14,.int .i64 ((x.links[k]'hi2).credits),.int .i64 ((x.links[k]'hi2).back),.int .i64 ((x.links[k]'hi2).sent),.int .i64 ((x.links[k]'hi2).got)]:=ha2
    refine Qa (Q1 (i:=k) Gg Z Z (hd3.ext E).1 hi2) Z (Qa (Qt Ua Z (ha2.ext E) Z) Z (Yk Ua Z (fun b3 w9 e5 s3 h3=>?_)))
    have g_b3 : w.heap.size ≤ b3:=by have:=E.size;omega
    have y_b3:=h3.lt
    replace E:=E.trans e5;replace h1:=h1.ext e5
    have z8:=e5.size
    refine Qa (Qe Z) Z (Q6 (cs':=[.int .i64 ((x.links[k]'hi2).cap),o14,.int .i64 ((x.links[k]'hi2).credits),.int .i64 ((x.links[k]'hi2).back),.int .i64 ((x.links[k]'hi2).sent),.int .i64 ((x.links[k]'hi2).got)]) Ua Z Z Z (Qk Z (Qk (RdD.one (hd14.ext E)) (Qk Z (Qk Z (Qk Z (Qk Z Z)))))) h3 (Nat.le_of_ble_eq_true Z) Z (fun w10 m2 h3'=>?_))
    replace h3:=h3'
    replace E:=E.step m2 (fun g hg=>by cases hg;omega);replace h1:=h1.mod m2 (fun g hg=>by cases hg;omega)
    have z9:=m2.size
    refine Qd (Qf (Xj Xi [(0,true),(1,false),(2,true),(3,true),(4,true),(5,true),(6,true),(7,true),(8,true),(9,true),(10,true),(11,true),(12,true),(13,true),(14,true),(15,true),(16,false),(17,true),(18,true),(19,true),(20,true),(21,true),(22,true),(23,true),(24,true),(25,true),(26,true),(27,true),(28,true),(29,true),(30,true),(31,true),(32,true),(33,true)] (by decide +kernel) Z (fun w11 e6=>?_)))
    replace E:=E.trans e6;replace h1:=h1.ext e6;replace h3:=h3.ext e6
    have z10:=e6.size
    refine Qa (Qt Ua Z h3.at Z) Z (Qv Tryz.call109 Z (c_LinkOk [.int .i64 ((x.links[k]'hi2).cap),o14,.int .i64 ((x.links[k]'hi2).credits),.int .i64 ((x.links[k]'hi2).back),.int .i64 ((x.links[k]'hi2).sent),.int .i64 ((x.links[k]'hi2).got)] (x.links[k]'hi2) _ (Link.mkR (x.links[k]'hi2) (RdD.any (hd14.ext E))) (hok _ (List.getElem_mem _))) Z (fun _ w12 e7 hv=>?_))
    subst hv
    replace E:=E.trans e7;replace h1:=h1.ext e7;replace h3:=h3.ext e7
    have z11:=e7.size
    refine Qa (Yq Z) Z (Qa (Qc Z) Z (Y7 30 [(1,.pointer (some ⟨b1,0,none⟩)),(2,.bool false),(3,.int .i64 x.graph.workers),(6,.int .i64 ((k : Nat) : Int)),(7,.pointer (some ⟨b3,0,none⟩)),(55,o3),(56,.int .i64 ((x.links.length : Nat) : Int)),(57,.int .i64 ((k : Nat) : Int)),(58,.bool (decide (((k : Nat) : Int) < ((x.links.length : Nat) : Int)))),(59,.int .i64 ((k : Nat) : Int)),(60,.pointer (some ⟨Xf o3,Xm o3 + k * 6,none⟩)),(61,.agg [.int .i64 ((x.links[k]'hi2).cap),o14,.int .i64 ((x.links[k]'hi2).credits),.int .i64 ((x.links[k]'hi2).back),.int .i64 ((x.links[k]'hi2).sent),.int .i64 ((x.links[k]'hi2).got)].toArray),(95,.bool ((((!(X9 (x.links[k]'hi2))) || (((x.links[k]'hi2).cap) != x.graph.cap)) || (!(((x.links[k]'hi2).queue).all (Xr x.graph)))) || (((IntKind.i64.wrap (Int.tdiv ((k : Nat) : Int) x.graph.workers)) == (Int.tmod ((k : Nat) : Int) x.graph.workers)) && (decide (0 < ((((x.links[k]'hi2).queue).length : Nat) : Int))))))] (fun w'=>Ext w w' ∧ w12.heap.size ≤ w'.heap.size ∧ Blk w' b1 ([o1,.int .i64 x.graph.workers,.int .i64 x.graph.cap,o2,o3,o4,o5]) ∧ Blk w' b3 [.int .i64 ((x.links[k]'hi2).cap),o14,.int .i64 ((x.links[k]'hi2).credits),.int .i64 ((x.links[k]'hi2).back),.int .i64 ((x.links[k]'hi2).sent),.int .i64 ((x.links[k]'hi2).got)]) ?_ ?_))
    ·refine Y3 (gd:=65) Z Z (fun hg4=>?_) (fun hg4=>?_)
     ·refine Qg Z Z Z Z (Qg Z Z Z Z (Qg Z Z Z Z (Qg Z Z Z Z (Qg Z Z Z Z (Qg Z Z Z Z (Qa (Qx Z Z) Z (Qa (Qc Z) Z (Qg Z Z Z Z (Qg Z Z Z Z (Qg Z Z Z Z (Qg Z Z Z Z ?_)))))))))))
      refine Yp Z Z Z Z ?_
      refine Qg Z Z Z Z (Qa (Qx Z Z) Z (Qa (Qc Z) Z (Qg Z Z Z Z (Qg Z Z Z Z (Qg Z Z Z Z (Qg Z Z Z Z (Qg Z Z Z Z (Qg Z Z Z Z (Qg Z Z Z Z (Qg Z Z Z Z (Q9 Z Z Z (Q9 Z Z Z (Q9 Z Z Z (Q9 Z Z Z (Qg Z Z Z Z (Qa (Qx Z Z) Z (Qp ⟨Z,Z,Z,Z,Z,Z,Z,Z,Z,Z,Z,Z,congrArg (fun b=>some (Value.bool b)) (show true = ((((!(X9 (x.links[k]'hi2))) || (((x.links[k]'hi2).cap) != x.graph.cap)) || (!(((x.links[k]'hi2).queue).all (Xr x.graph)))) || (((IntKind.i64.wrap (Int.tdiv ((k : Nat) : Int) x.graph.workers)) == (Int.tmod ((k : Nat) : Int) x.graph.workers)) && (decide (0 < ((((x.links[k]'hi2).queue).length : Nat) : Int))))) by first | (rw [hg4] <;> rfl) | (simp [hg4];done) | (simp only [Qo] <;> simp)),trivial⟩ ⟨E,(by omega),h1,h3⟩)))))))))))))))))
     ·refine Qm Z Z (Qb Uz Z) Z (Qm Z Z (Qj Yo Z (h3.one 0 Z)) Z (Qm Z Z (Qb Ur Z) Z (Qm Z Z (Qb Cf Z) Z (Qm Z Z (Qj Yo Z (h1.one 2 Z)) Z (Qm Z Z (Yu Z Z) Z (Qa (Qy Z Z) Z (Qa (Qc Z) Z ?_)))))))
      refine Y3 (gd:=73) Z Z (fun hg5=>?_) (fun hg5=>?_)
      ·refine Qg Z Z Z Z (Qg Z Z Z Z (Qg Z Z Z Z (Qg Z Z Z Z ?_)))
       refine Yp Z Z Z Z ?_
       refine Qg Z Z Z Z (Qa (Qx Z Z) Z (Qa (Qc Z) Z (Qg Z Z Z Z (Qg Z Z Z Z (Qg Z Z Z Z (Qg Z Z Z Z (Qg Z Z Z Z (Qg Z Z Z Z (Qg Z Z Z Z (Qg Z Z Z Z (Q9 Z Z Z (Q9 Z Z Z (Q9 Z Z Z (Q9 Z Z Z (Qg Z Z Z Z (Qa (Qx Z Z) Z (Qp ⟨Z,Z,Z,Z,Z,Z,Z,Z,Z,Z,Z,Z,congrArg (fun b=>some (Value.bool b)) (show true = ((((!(X9 (x.links[k]'hi2))) || (((x.links[k]'hi2).cap) != x.graph.cap)) || (!(((x.links[k]'hi2).queue).all (Xr x.graph)))) || (((IntKind.i64.wrap (Int.tdiv ((k : Nat) : Int) x.graph.workers)) == (Int.tmod ((k : Nat) : Int) x.graph.workers)) && (decide (0 < ((((x.links[k]'hi2).queue).length : Nat) : Int))))) by first | (rw [hg4,hg5] <;> rfl) | (simp [hg4,hg5];done) | (simp only [Qo] <;> simp)),trivial⟩ ⟨E,(by omega),h1,h3⟩)))))))))))))))))
      ·refine Qm Z Z (Qb Ur Z) Z (Qm Z Z (Qt Km Z (h1.part 0 [o1,.int .i64 x.graph.workers,.int .i64 x.graph.cap] Z) Z) Z (Qm Z Z (Qb Kt Z) Z (Qm Z Z (Qj Xy Z (h3.one 1 Z)) Z ?_)))
       refine Xp Z Z ?_
       refine Qv Tryz.call110 Z (c_opsOk [o1,.int .i64 x.graph.workers,.int .i64 x.graph.cap] x.graph o14 ((x.links[k]'hi2).queue) _ (Graph.mkR x.graph (RdD.any (hd1.ext E))) (hd14.rd.ext E)) Z (fun _ w14 e8 hv=>?_)
       subst hv
       replace E:=E.trans e8;replace h1:=h1.ext e8;replace h3:=h3.ext e8
       have z12:=e8.size
       refine Qm Z Z (Yq Z) Z (Qa (Qy Z Z) Z (Qa (Qc Z) Z ?_))
       refine Y3 (gd:=81) Z Z (fun hg6=>?_) (fun hg6=>?_)
       ·refine Qg Z Z Z Z (Qg Z Z Z Z (Qg Z Z Z Z (Qg Z Z Z Z (Qg Z Z Z Z (Qg Z Z Z Z (Qg Z Z Z Z (Qg Z Z Z Z (Q9 Z Z Z (Q9 Z Z Z (Q9 Z Z Z (Q9 Z Z Z (Qg Z Z Z Z (Qa (Qx Z Z) Z (Qp ⟨Z,Z,Z,Z,Z,Z,Z,Z,Z,Z,Z,Z,congrArg (fun b=>some (Value.bool b)) (show true = ((((!(X9 (x.links[k]'hi2))) || (((x.links[k]'hi2).cap) != x.graph.cap)) || (!(((x.links[k]'hi2).queue).all (Xr x.graph)))) || (((IntKind.i64.wrap (Int.tdiv ((k : Nat) : Int) x.graph.workers)) == (Int.tmod ((k : Nat) : Int) x.graph.workers)) && (decide (0 < ((((x.links[k]'hi2).queue).length : Nat) : Int))))) by first | (rw [hg4,hg5,hg6] <;> rfl) | (simp [hg4,hg5,hg6];done) | (simp only [Qo] <;> simp)),trivial⟩ ⟨E,(by omega),h1,h3⟩))))))))))))))
       ·refine Qm Z Z (Qc Z) Z (Qm Z Z (Qc Z) Z (Qm Z Z (R_quo Z Z (by omega) Z) Z (Qm Z Z (Qc Z) Z (Qm Z Z (Qc Z) Z (Qm Z Z (Gd Z Z (by omega) Z) Z (Qm Z Z (Y6 Z Z) Z (Qm Z Z (Qc Z) Z ?_)))))))
        refine Y3 (gd:=89) Z Z (fun hg7=>?_) (fun hg7=>?_)
        ·refine Qm Z Z (Qb Kt Z) Z (Qm Z Z (Qj Xy Z (h3.one 1 Z)) Z (Qm Z Z (Ya Tryz.underlying64 Z (hd14.ext E).len) Z (Qm Z Z (V0 Z Z) Z (Qm Z Z (Qx Z Z) Z (Qa (Qy Z Z) Z (Qp ⟨Z,Z,Z,Z,Z,Z,Z,Z,Z,Z,Z,Z,congrArg (fun b=>some (Value.bool b)) (show (decide (0 < ((((x.links[k]'hi2).queue).length : Nat) : Int))) = ((((!(X9 (x.links[k]'hi2))) || (((x.links[k]'hi2).cap) != x.graph.cap)) || (!(((x.links[k]'hi2).queue).all (Xr x.graph)))) || (((IntKind.i64.wrap (Int.tdiv ((k : Nat) : Int) x.graph.workers)) == (Int.tmod ((k : Nat) : Int) x.graph.workers)) && (decide (0 < ((((x.links[k]'hi2).queue).length : Nat) : Int))))) by first | (rw [hg4,hg5,hg6,hg7] <;> rfl) | (simp [hg4,hg5,hg6,hg7];done) | (simp only [Qo] <;> simp)),trivial⟩ ⟨E,(by omega),h1,h3⟩))))))
        ·refine Qg Z Z Z Z (Qg Z Z Z Z (Qg Z Z Z Z (Qg Z Z Z Z (Qm Z Z (Qy Z Z) Z (Qa (Qy Z Z) Z (Qp ⟨Z,Z,Z,Z,Z,Z,Z,Z,Z,Z,Z,Z,congrArg (fun b=>some (Value.bool b)) (show false = ((((!(X9 (x.links[k]'hi2))) || (((x.links[k]'hi2).cap) != x.graph.cap)) || (!(((x.links[k]'hi2).queue).all (Xr x.graph)))) || (((IntKind.i64.wrap (Int.tdiv ((k : Nat) : Int) x.graph.workers)) == (Int.tmod ((k : Nat) : Int) x.graph.workers)) && (decide (0 < ((((x.links[k]'hi2).queue).length : Nat) : Int))))) by first | (rw [hg4,hg5,hg6,hg7] <;> rfl) | (simp [hg4,hg5,hg6,hg7];done) | (simp only [Qo] <;> simp)),trivial⟩ ⟨E,(by omega),h1,h3⟩))))))
    clear E h1 h3
    rintro w13 ⟨E,z13,h1,h3⟩
    refine Qd (Qs Z (fun hc5=>?_) (fun hc5=>?_))
    ·refine Qf (Qh [true] Z Z (Qa (Qe Z) Z (Qd (Qw (Q2 (Y0 (Q2 (Ql Z Z E ?_))))))))
     exact cl_2 (by assumption) hc5
    ·refine Qn (Q4 (Yr (Qh [true,true] Z Z (Qa (Q8 Z Z (Ye (by unfold maxLen;omega))) Z (Qa (Qc Z) Z (Qd (Q4 (Yc (k + 1) (by omega) ⟨Z,Z,Z,Z,Z,Z,trivial⟩ ⟨E,(by omega),h1,(by omega),Bb hI2 (lk_at (by assumption) hc5)⟩))))))))
   ·have hc4n : ¬ k < x.links.length:=by first | (have h:=of_decide_eq_false hc4;omega) | (have h:=hc4;simp at h;omega)
    refine Yn (Q5 (Q3 ?_))
    refine Qf (Qf (Qh [true,true,true,true] Z Z (Qa (Qb Vk Z) Z (Qa (Qj Cu Z (h1.one 5 Z)) Z (Qa (Ya Tryz.underlying37 Z (hd4.ext E).len) Z (Qa (Qc Z) Z (Qd (Q0 (Ym (fun (k : Nat)=>[(1,.pointer (some ⟨b1,0,none⟩)),(2,.bool false),(3,.int .i64 x.graph.workers),(98,o4),(99,.int .i64 ((x.tokens.length : Nat) : Int)),(100,.int .i64 ((k : Nat) : Int))]) (fun (k : Nat) w'=>Ext w w' ∧ w8.heap.size ≤ w'.heap.size ∧ Blk w' b1 ([o1,.int .i64 x.graph.workers,.int .i64 x.graph.cap,o2,o3,o4,o5]) ∧ k ≤ x.tokens.length ∧ (x.tokens.take k).all (fun t=>!tkBad x.graph t) = true) (fun (k : Nat)=>x.tokens.length - k) 0 ⟨Z,Z,Z,Z,Z,Z,trivial⟩ ⟨E,Nat.le_refl _,h1,Nat.zero_le _,Z⟩ ?_)))))))))
    clear E h1
    rintro k w15 ⟨E,z14,h1,hk,hI3⟩
    have hmt:=hd4.1.1
    unfold maxLen at hmt
    refine Qf (Qh [true] Z Z (Qa (Yf Z Z) Z (Qd (Qf (Qs Z (fun hc6=>?_) (fun hc6=>?_))))))
    ·have hc6n : k < x.tokens.length:=by first | (have h:=of_decide_eq_true hc6;omega) | (have h:=hc6;simp at h;omega)
     refine Qn (Qf (Q0 (Qf (Qh [true,true,false,false] Z Z ?_))))
     have hi3 : k < x.tokens.length:=(by first | assumption | omega | (simp only [List.length_set];first | assumption | omega))
     refine Qa (Q1 (i:=k) Hg Z Z (hd4.rd.ext E) hi3) Z (Qa (Qt Ca Z ((hd4.rd.ext E).get hi3) Z) Z (Yk Ca Z (fun b4 w16 e9 s4 h4=>?_)))
     have g_b4 : w.heap.size ≤ b4:=by have:=E.size;omega
     have y_b4:=h4.lt
     replace E:=E.trans e9;replace h1:=h1.ext e9
     have z15:=e9.size
     refine Q6 (cs':=[.bool ((x.tokens[k]'hi3).going),.int .i64 ((x.tokens[k]'hi3).place),.int .i64 ((x.tokens[k]'hi3).sum),.bool ((x.tokens[k]'hi3).black),.bool ((x.tokens[k]'hi3).capped)]) Ca Z Z Z Z h4 (Nat.le_of_ble_eq_true Z) Z (fun w17 m3 h4'=>?_)
     replace h4:=h4'
     replace E:=E.step m3 (fun g hg=>by cases hg;omega);replace h1:=h1.mod m3 (fun g hg=>by cases hg;omega)
     have z16:=m3.size
     refine Qd (Qf (Qh [true,true,true,true,false,true,true,true,true,true,true,true,true,true,true,true,true,true,true,false,true,true] Z Z (Qa (Qb G9 Z) Z (Qa (Qj Yo Z (h4.one 1 Z)) Z (Qa (Qc Z) Z (Qa (Uu Z Z Z) Z (Qv Tryz.call58 Z (c_within ((x.tokens[k]'hi3).place) 0 (IntKind.i64.wrap (x.graph.workers - 1)) _ ) Z (fun _ w18 e10 hv=>?_))))))))
     subst hv
     replace E:=E.trans e10;replace h1:=h1.ext e10;replace h4:=h4.ext e10
     have z17:=e10.size
     refine Qa (Yq Z) Z (Qa (Qc Z) Z (Y7 15 [(1,.pointer (some ⟨b1,0,none⟩)),(2,.bool false),(3,.int .i64 x.graph.workers),(9,.pointer (some ⟨b4,0,none⟩)),(98,o4),(99,.int .i64 ((x.tokens.length : Nat) : Int)),(100,.int .i64 ((k : Nat) : Int)),(101,.bool (decide (((k : Nat) : Int) < ((x.tokens.length : Nat) : Int)))),(102,.pointer (some ⟨Xf o4,Xm o4 + k * 5,none⟩)),(103,.agg (Enc.enc (x.tokens[k]'hi3)).toArray),(125,.bool (((!(Yw ((x.tokens[k]'hi3).place) 0 (IntKind.i64.wrap (x.graph.workers - 1)))) || ((!((x.tokens[k]'hi3).going)) && (((x.tokens[k]'hi3).place) != 0))) || (!(Yw ((x.tokens[k]'hi3).sum) (-1000000) 1000000))))] (fun w'=>Ext w w' ∧ w18.heap.size ≤ w'.heap.size ∧ Blk w' b1 ([o1,.int .i64 x.graph.workers,.int .i64 x.graph.cap,o2,o3,o4,o5]) ∧ Blk w' b4 [.bool ((x.tokens[k]'hi3).going),.int .i64 ((x.tokens[k]'hi3).place),.int .i64 ((x.tokens[k]'hi3).sum),.bool ((x.tokens[k]'hi3).black),.bool ((x.tokens[k]'hi3).capped)]) ?_ ?_))
     ·refine Y3 (gd:=110) Z Z (fun hg8=>?_) (fun hg8=>?_)
      ·refine Qg Z Z Z Z (Qg Z Z Z Z (Qg Z Z Z Z (Qg Z Z Z Z (Q9 Z Z Z (Q9 Z Z Z (Q9 Z Z Z (Qg Z Z Z Z (Qa (Qx Z Z) Z (Qa (Qc Z) Z (Qg Z Z Z Z (Qg Z Z Z Z ?_)))))))))))
       refine Yp Z Z Z Z ?_
       refine Qg Z Z Z Z (Qa (Qx Z Z) Z (Qp ⟨Z,Z,Z,Z,Z,Z,Z,Z,Z,Z,congrArg (fun b=>some (Value.bool b)) (show true = (((!(Yw ((x.tokens[k]'hi3).place) 0 (IntKind.i64.wrap (x.graph.workers - 1)))) || ((!((x.tokens[k]'hi3).going)) && (((x.tokens[k]'hi3).place) != 0))) || (!(Yw ((x.tokens[k]'hi3).sum) (-1000000) 1000000))) by first | (rw [hg8] <;> rfl) | (simp [hg8];done) | (simp only [Qo] <;> simp)),trivial⟩ ⟨E,(by omega),h1,h4⟩))
      ·refine Qm Z Z (Qb Tv Z) Z (Qm Z Z (Qj Tb Z (h4.one 0 Z)) Z (Qm Z Z (Yq Z) Z (Qm Z Z (Qc Z) Z ?_)))
       refine Y3 (gd:=114) Z Z (fun hg9=>?_) (fun hg9=>?_)
       ·refine Qm Z Z (Qb G9 Z) Z (Qm Z Z (Qj Yo Z (h4.one 1 Z)) Z (Qm Z Z (Yu Z Z) Z (Qm Z Z (Qx Z Z) Z (Qa (Qy Z Z) Z (Qa (Qc Z) Z ?_)))))
        refine Y3 (gd:=120) Z Z (fun hg10=>?_) (fun hg10=>?_)
        ·refine Qg Z Z Z Z (Qg Z Z Z Z ?_)
         refine Yp Z Z Z Z ?_
         refine Qg Z Z Z Z (Qa (Qx Z Z) Z (Qp ⟨Z,Z,Z,Z,Z,Z,Z,Z,Z,Z,congrArg (fun b=>some (Value.bool b)) (show true = (((!(Yw ((x.tokens[k]'hi3).place) 0 (IntKind.i64.wrap (x.graph.workers - 1)))) || ((!((x.tokens[k]'hi3).going)) && (((x.tokens[k]'hi3).place) != 0))) || (!(Yw ((x.tokens[k]'hi3).sum) (-1000000) 1000000))) by first | (rw [hg8,hg9,hg10] <;> rfl) | (simp [hg8,hg9,hg10];done) | (simp only [Qo] <;> simp)),trivial⟩ ⟨E,(by omega),h1,h4⟩))
        ·refine Qm Z Z (Qb G8 Z) Z (Qm Z Z (Qj Yo Z (h4.one 2 Z)) Z ?_)
         refine Xp Z Z ?_
         refine Qv Tryz.call58 Z (c_within ((x.tokens[k]'hi3).sum) (-1000000) 1000000 _ ) Z (fun _ w20 e11 hv=>?_)
         subst hv
         replace E:=E.trans e11;replace h1:=h1.ext e11;replace h4:=h4.ext e11
         have z18:=e11.size
         refine Qm Z Z (Yq Z) Z (Qa (Qy Z Z) Z (Qp ⟨Z,Z,Z,Z,Z,Z,Z,Z,Z,Z,congrArg (fun b=>some (Value.bool b)) (show (!(Yw ((x.tokens[k]'hi3).sum) (-1000000) 1000000)) = (((!(Yw ((x.tokens[k]'hi3).place) 0 (IntKind.i64.wrap (x.graph.workers - 1)))) || ((!((x.tokens[k]'hi3).going)) && (((x.tokens[k]'hi3).place) != 0))) || (!(Yw ((x.tokens[k]'hi3).sum) (-1000000) 1000000))) by first | (rw [hg8,hg9,hg10] <;> rfl) | (simp [hg8,hg9,hg10];done) | (simp only [Qo] <;> simp)),trivial⟩ ⟨E,(by omega),h1,h4⟩))
       ·refine Qg Z Z Z Z (Qg Z Z Z Z (Qg Z Z Z Z (Qm Z Z (Qy Z Z) Z (Qa (Qy Z Z) Z (Qa (Qc Z) Z (Qm Z Z (Qb G8 Z) Z (Qm Z Z (Qj Yo Z (h4.one 2 Z)) Z ?_)))))))
        refine Xp Z Z ?_
        refine Qv Tryz.call58 Z (c_within ((x.tokens[k]'hi3).sum) (-1000000) 1000000 _ ) Z (fun _ w21 e12 hv=>?_)
        subst hv
        replace E:=E.trans e12;replace h1:=h1.ext e12;replace h4:=h4.ext e12
        have z19:=e12.size
        refine Qm Z Z (Yq Z) Z (Qa (Qy Z Z) Z (Qp ⟨Z,Z,Z,Z,Z,Z,Z,Z,Z,Z,congrArg (fun b=>some (Value.bool b)) (show (!(Yw ((x.tokens[k]'hi3).sum) (-1000000) 1000000)) = (((!(Yw ((x.tokens[k]'hi3).place) 0 (IntKind.i64.wrap (x.graph.workers - 1)))) || ((!((x.tokens[k]'hi3).going)) && (((x.tokens[k]'hi3).place) != 0))) || (!(Yw ((x.tokens[k]'hi3).sum) (-1000000) 1000000))) by first | (rw [hg8,hg9] <;> rfl) | (simp [hg8,hg9];done) | (simp only [Qo] <;> simp)),trivial⟩ ⟨E,(by omega),h1,h4⟩))
     clear E h1 h4
     rintro w19 ⟨E,z20,h1,h4⟩
     refine Qd (Qs Z (fun hc7=>?_) (fun hc7=>?_))
     ·refine Qf (Qh [true] Z Z (Qa (Qe Z) Z (Qd (Qw (Q2 (Y0 (Q2 (Ql Z Z E ?_))))))))
      exact cl_3 (by assumption) hc7
     ·refine Qn (Q4 (Yr (Qh [true,true] Z Z (Qa (Q8 Z Z (Ye (by unfold maxLen;omega))) Z (Qa (Qc Z) Z (Qd (Q4 (Yc (k + 1) (by omega) ⟨Z,Z,Z,Z,Z,Z,trivial⟩ ⟨E,(by omega),h1,(by omega),Kf hI3 (by assumption) (nb hc7)⟩))))))))
    ·have hc6n : ¬ k < x.tokens.length:=by first | (have h:=of_decide_eq_false hc6;omega) | (have h:=hc6;simp at h;omega)
     refine Yn (Q5 (Q3 ?_))
     refine Qf (Qf (Qh [true,true,true,true] Z Z (Qa (Qb Hn Z) Z (Qa (Qj B7 Z (h1.one 6 Z)) Z (Qa (Ya Tryz.underlying38 Z (hd5.ext E).len) Z (Qa (Qc Z) Z (Qd (Q0 (Ym (fun (k : Nat)=>[(2,.bool false),(3,.int .i64 x.graph.workers),(128,o5),(129,.int .i64 ((x.news.length : Nat) : Int)),(130,.int .i64 ((k : Nat) : Int))]) (fun (k : Nat) w'=>Ext w w' ∧ w15.heap.size ≤ w'.heap.size ∧ Blk w' b1 ([o1,.int .i64 x.graph.workers,.int .i64 x.graph.cap,o2,o3,o4,o5]) ∧ k ≤ x.news.length ∧ (x.news.take k).all (fun t=>!nwBad x.graph t) = true) (fun (k : Nat)=>x.news.length - k) 0 ⟨Z,Z,Z,Z,Z,trivial⟩ ⟨E,Nat.le_refl _,h1,Nat.zero_le _,Z⟩ ?_)))))))))
     clear E h1
     rintro k w22 ⟨E,z21,h1,hk,hI4⟩
     have hmn:=hd5.1.1
     unfold maxLen at hmn
     refine Qf (Qh [true] Z Z (Qa (Yf Z Z) Z (Qd (Qf (Qs Z (fun hc8=>?_) (fun hc8=>?_))))))
     ·have hc8n : k < x.news.length:=by first | (have h:=of_decide_eq_true hc8;omega) | (have h:=hc8;simp at h;omega)
      refine Qn (Qf (Q0 (Qf (Qh [true,true,false,false] Z Z ?_))))
      have hi4 : k < x.news.length:=(by first | assumption | omega | (simp only [List.length_set];first | assumption | omega))
      refine Qa (Q1 (i:=k) Cs Z Z (hd5.rd.ext E) hi4) Z (Qa (Qt T9 Z ((hd5.rd.ext E).get hi4) Z) Z (Yk T9 Z (fun b5 w23 e13 s5 h5=>?_)))
      have g_b5 : w.heap.size ≤ b5:=by have:=E.size;omega
      have y_b5:=h5.lt
      replace E:=E.trans e13;replace h1:=h1.ext e13
      have z22:=e13.size
      refine Q6 (cs':=[.int .i64 ((x.news[k]'hi4).dest),.int .i64 ((x.news[k]'hi4).epoch),.bool ((x.news[k]'hi4).capped)]) T9 Z Z Z Z h5 (Nat.le_of_ble_eq_true Z) Z (fun w24 m4 h5'=>?_)
      replace h5:=h5'
      replace E:=E.step m4 (fun g hg=>by cases hg;omega);replace h1:=h1.mod m4 (fun g hg=>by cases hg;omega)
      have z23:=m4.size
      refine Qd (Qf (Qh [true,true,true,true,false,true,true,true,true,false,true,true] Z Z (Qa (Qb Tu Z) Z (Qa (Qj Yo Z (h5.one 0 Z)) Z (Qa (Qc Z) Z (Qa (Uu Z Z Z) Z (Qv Tryz.call58 Z (c_within ((x.news[k]'hi4).dest) 0 (IntKind.i64.wrap (x.graph.workers - 1)) _ ) Z (fun _ w25 e14 hv=>?_))))))))
      subst hv
      replace E:=E.trans e14;replace h1:=h1.ext e14;replace h5:=h5.ext e14
      have z24:=e14.size
      refine Qa (Yq Z) Z (Qa (Qc Z) Z (Y7 5 [(2,.bool false),(3,.int .i64 x.graph.workers),(11,.pointer (some ⟨b5,0,none⟩)),(128,o5),(129,.int .i64 ((x.news.length : Nat) : Int)),(130,.int .i64 ((k : Nat) : Int)),(131,.bool (decide (((k : Nat) : Int) < ((x.news.length : Nat) : Int)))),(132,.pointer (some ⟨Xf o5,Xm o5 + k * 3,none⟩)),(133,.agg (Enc.enc (x.news[k]'hi4)).toArray),(145,.bool ((!(Yw ((x.news[k]'hi4).dest) 0 (IntKind.i64.wrap (x.graph.workers - 1)))) || (!(Yw ((x.news[k]'hi4).epoch) 0 3))))] (fun w'=>Ext w w' ∧ w25.heap.size ≤ w'.heap.size ∧ Blk w' b1 ([o1,.int .i64 x.graph.workers,.int .i64 x.graph.cap,o2,o3,o4,o5]) ∧ Blk w' b5 [.int .i64 ((x.news[k]'hi4).dest),.int .i64 ((x.news[k]'hi4).epoch),.bool ((x.news[k]'hi4).capped)]) ?_ ?_))
      ·refine Y3 (gd:=140) Z Z (fun hg11=>?_) (fun hg11=>?_)
       ·refine Qg Z Z Z Z (Qg Z Z Z Z ?_)
        refine Yp Z Z Z Z ?_
        refine Qg Z Z Z Z (Qa (Qx Z Z) Z (Qp ⟨Z,Z,Z,Z,Z,Z,Z,Z,Z,congrArg (fun b=>some (Value.bool b)) (show true = ((!(Yw ((x.news[k]'hi4).dest) 0 (IntKind.i64.wrap (x.graph.workers - 1)))) || (!(Yw ((x.news[k]'hi4).epoch) 0 3))) by first | (rw [hg11] <;> rfl) | (simp [hg11];done) | (simp only [Qo] <;> simp)),trivial⟩ ⟨E,(by omega),h1,h5⟩))
       ·refine Qm Z Z (Qb Tt Z) Z (Qm Z Z (Qj Yo Z (h5.one 1 Z)) Z ?_)
        refine Xp Z Z ?_
        refine Qv Tryz.call58 Z (c_within ((x.news[k]'hi4).epoch) 0 3 _ ) Z (fun _ w27 e15 hv=>?_)
        subst hv
        replace E:=E.trans e15;replace h1:=h1.ext e15;replace h5:=h5.ext e15
        have z25:=e15.size
        refine Qm Z Z (Yq Z) Z (Qa (Qy Z Z) Z (Qp ⟨Z,Z,Z,Z,Z,Z,Z,Z,Z,congrArg (fun b=>some (Value.bool b)) (show (!(Yw ((x.news[k]'hi4).epoch) 0 3)) = ((!(Yw ((x.news[k]'hi4).dest) 0 (IntKind.i64.wrap (x.graph.workers - 1)))) || (!(Yw ((x.news[k]'hi4).epoch) 0 3))) by first | (rw [hg11] <;> rfl) | (simp [hg11];done) | (simp only [Qo] <;> simp)),trivial⟩ ⟨E,(by omega),h1,h5⟩))
      clear E h1 h5
      rintro w26 ⟨E,z26,h1,h5⟩
      refine Qd (Qs Z (fun hc9=>?_) (fun hc9=>?_))
      ·refine Qf (Qh [true] Z Z (Qa (Qe Z) Z (Qd (Qw (Q2 (Y0 (Q2 (Ql Z Z E ?_))))))))
       exact cl_4 (by assumption) hc9
      ·refine Qn (Q4 (Yr (Qh [true,true] Z Z (Qa (Q8 Z Z (Ye (by unfold maxLen;omega))) Z (Qa (Qc Z) Z (Qd (Q4 (Yc (k + 1) (by omega) ⟨Z,Z,Z,Z,Z,trivial⟩ ⟨E,(by omega),h1,(by omega),Kf hI4 (by assumption) (nb hc9)⟩))))))))
     ·have hc8n : ¬ k < x.news.length:=by first | (have h:=of_decide_eq_false hc8;omega) | (have h:=hc8;simp at h;omega)
      refine Yn (Q5 (Q3 ?_))
      refine Qf (Qh [true] Z Z (Qa (Qe Z) Z (Qd (Qw (Ql Z Z E ?_)))))
      exact cl_5 hc1 (He hI1 (by omega)) (Cq hI2 (by omega)) (He hI3 (by omega)) (He hI4 (by omega))

set_option maxRecDepth 20000 in
theorem c_IndexFuncCell (vxs : Value) (xs : List Cell) (fp : Value) (p : Cell → Bool) (w : World) (hxs : RdS w vxs xs) (hp : PredF Tryz.prog w fp p) : Ct Tryz.prog 160 [vxs,fp] w (fun v _=>v = .int .i64 (H0 xs p)):=by
 refine Yh Tryz.func160 Z Tryz.ntmps160 Z ?_
 obtain ⟨fid,fs,fc,rfl,hcf,hpf⟩:=hp
 refine Q7 [(0,vxs),(1,.func (.func fid) fs.toArray fc.toArray)] ⟨Z,Z,trivial⟩ ?_
 have E : Ext w w:=Ext.refl w
 refine Qf (Qh [true] Z Z (Qa (Qe Z) Z (Qd (Qf (Qf (Qh [true,true,true] Z Z (Qa (Qc Z) Z (Qa (Ya Tryz.underlying65 Z (hxs.ext E).len) Z (Qa (Qc Z) Z (Qd (Q0 (Ym (fun (k : Nat)=>[(0,vxs),(1,.func (.func fid) fs.toArray fc.toArray),(4,.int .i64 0),(7,.int .i64 ((xs.length : Nat) : Int)),(8,.int .i64 ((k : Nat) : Int))]) (fun (k : Nat) w'=>Ext w w' ∧ w.heap.size ≤ w'.heap.size ∧ k ≤ xs.length ∧ (xs.take k).any p = false) (fun (k : Nat)=>xs.length - k) 0 ⟨Z,Z,Z,Z,Z,trivial⟩ ⟨E,Nat.le_refl _,Nat.zero_le _,Z⟩ ?_))))))))))))
 clear E
 rintro k w1 ⟨E,z1,hk,hI⟩
 refine Qf (Qh [true] Z Z (Qa (Yf Z Z) Z (Qd (Qf (Qs Z (fun hc1=>?_) (fun hc1=>?_))))))
 ·have hc1n : k < xs.length:=by first | (have h:=of_decide_eq_true hc1;omega) | (have h:=hc1;simp at h;omega)
  refine Qn (Qf (Q0 (Qf (Qh [true,true] Z Z (Qa (Qc Z) Z (Qa (Qe Z) Z (Qd (Qf (Qh [true,true,true,true,true,false] Z Z (Qa (Qc Z) Z (Qa (Qc Z) Z (Qa (Qc Z) Z ?_))))))))))))
  have hi1 : k < xs.length:=(by first | assumption | omega | (simp only [List.length_set];first | assumption | omega))
  refine Qa (Q1 (i:=k) Xq Z Z (hxs.ext E) hi1) Z (Qa (Qt Xn Z ((hxs.ext E).get hi1) Z) Z (J_callV (fs:=fs) (cs:=fc) hcf Z Z (hpf (xs[k]'hi1) _ E) Z (fun _ w2 e1 hv=>?_)))
  subst hv
  replace E:=E.trans e1
  have z2:=e1.size
  refine Qd (Qs Z (fun hc2=>?_) (fun hc2=>?_))
  ·refine Qf (Qh [true,true] Z Z (Qa (Qc Z) Z (Qa (Qe Z) Z (Qd (Qw (Q2 (Y0 (Q2 (Ql Z Z E ?_)))))))))
   exact find_yes hI (by assumption) hc2
  ·refine Qn (Q4 (Yr (Qh [true,true] Z Z (Qa (Q8 Z Z (Yt hc1n hxs.1)) Z (Qa (Qc Z) Z (Qd (Q4 (Yc (k + 1) (by omega) ⟨Z,Z,Z,Z,Z,trivial⟩ ⟨E,(by omega),(by omega),Du hI (by assumption) hc2⟩))))))))
 ·have hc1n : ¬ k < xs.length:=by first | (have h:=of_decide_eq_false hc1;omega) | (have h:=hc1;simp at h;omega)
  refine Yn (Q5 (Q3 ?_))
  refine Qf (Qh [true] Z Z (Qa (Qe Z) Z (Qd (Qw (Ql Z Z E ?_)))))
  exact find_no hI (by omega)

set_option maxRecDepth 20000 in
theorem c_DeleteFuncCell (vxs : Value) (lo hi : Nat) (xs : List Cell) (fp : Value) (p : Cell → Bool) (w : World) (hxs : Own w lo hi 4 vxs (List.flatMap (Enc.enc (α:=Cell)) xs)) (hp : PredR Tryz.prog w lo hi fp p) (hhi : hi ≤ w.heap.size) : CtR Tryz.prog 152 [vxs,fp] w lo hi (fun v w'=>Own w' lo w'.heap.size 4 v (List.flatMap (Enc.enc (α:=Cell)) (List.filter (fun y=>!(p y)) xs))):=by
 have hmx:=(Own.rd (α:=Cell) (by decide) hxs).1
 unfold maxLen at hmx
 refine Vs Tryz.func152 Z Tryz.ntmps152 Z ?_
 obtain ⟨fid,fs,fc,rfl,hcf,hpf⟩:=hp
 refine Q7 [(0,vxs),(1,.func (.func fid) fs.toArray fc.toArray)] ⟨Z,Z,trivial⟩ ?_
 have E : ModR w w lo hi:=ModR.refl w lo hi
 refine Qf (Qh [true] Z Z (Qa (Qe Z) Z (Qd (Qf (Qh [true,true,false,true] Z Z (Qa (Qc Z) Z (Qa (Qc Z) Z (Qv Tryz.call160 (by rfl) (c_IndexFuncCell vxs xs (.func (.func fid) fs.toArray fc.toArray) (p) _ (Own.rd (by decide) hxs) ⟨fid,fs,fc,Z,hcf,fun y w' e=>hpf y w' (E.ext e)⟩) Z (fun _ w1 e1 hv=>?_)))))))))
 subst hv
 replace E:=E.ext e1;replace hxs:=hxs.ext e1
 have z1:=e1.size
 refine Qa (Qe Z) Z (Qd (Qf (Qf (Qh [true,true] Z Z (Qa (Qc Z) Z (Qa (Y6 Z Z) Z (Qd (Qs Z (fun hc1=>?_) (fun hc1=>?_)))))))))
 ·refine Qf (Qh [true,true] Z Z (Qa (Qc Z) Z (Qa (Qe Z) Z (Qd (Qw (Ql Z Z E ?_))))))
  exact Own.fin hxs (Nat.le_refl _) (by have:=E.size;omega) (by rw [del_none (by simpa using hc1)])
 ·have hany:=find_some (by simpa using hc1)
  have hfl:=find_lt hany
  rw [find_eq hany]
  refine Qn (Qf (Qf (Qh [true,true,true] Z Z (Qa (Qc Z) Z (Qa (Q8 Z Z (Ye (by unfold maxLen;omega))) Z (Qa (Qe Z) Z (Qd (Q0 (Ym (fun (xq : Nat × Nat × List Cell)=>let ⟨j,i,ys⟩:=xq;[(0,vxs),(1,.func (.func fid) fs.toArray fc.toArray),(4,.slice none 0 0),(5,.int .i64 ((i : Nat) : Int)),(6,.int .i64 ((j : Nat) : Int))]) (fun (xq : Nat × Nat × List Cell) w'=>let ⟨j,i,ys⟩:=xq;ModR w w' lo hi ∧ w1.heap.size ≤ w'.heap.size ∧ ys.length = xs.length ∧ i < j ∧ j ≤ xs.length ∧ ys.take i = (xs.take j).filter (fun y=>!p y) ∧ ys.drop j = xs.drop j ∧ Own w' lo hi 4 vxs (List.flatMap (Enc.enc (α:=Cell)) ys)) (fun (xq : Nat × Nat × List Cell)=>let ⟨j,i,ys⟩:=xq;xs.length - j) (xs.findIdx p + 1,xs.findIdx p,xs) ⟨Z,Z,Z,Z,Z,trivial⟩ ⟨E,Nat.le_refl _,Z,(by omega),(by omega),(del_start hany),Z,hxs⟩ ?_)))))))))
  clear E hxs
  rintro ⟨j,i,ys⟩ w2 ⟨E,z2,hyl,hij,hjl,hI,hD,hxs⟩
  refine Q7 [(0,vxs),(1,.func (.func fid) fs.toArray fc.toArray),(4,.slice none 0 0),(5,.int .i64 ((i : Nat) : Int)),(6,.int .i64 ((j : Nat) : Int))] ⟨Z,Z,Z,Z,Z,trivial⟩ ?_
  refine Qf (Qf (Qh [true,true,true,true] Z Z (Qa (Qc Z) Z (Qa (Qc Z) Z (Qa (Ya Tryz.underlying65 Z (Own.lenE (by decide) hxs hyl)) Z (Qa (Yf Z Z) Z (Qd (Qs Z (fun hc2=>?_) (fun hc2=>?_)))))))))
  ·have hc2n : j < xs.length:=by first | (have h:=of_decide_eq_true hc2;omega) | (have h:=hc2;simp at h;omega)
   refine Qn (Qf (Q0 (Qf (Qh [true,true,true,true,false,false] Z Z (Qa (Qc Z) Z (Qa (Qc Z) Z ?_))))))
   have hi1 : j < ys.length:=(by first | assumption | omega | (simp only [List.length_set];first | assumption | omega))
   refine Qa (Q1 (i:=j) Xq Z Z (Own.rd (by decide) hxs) hi1) Z (Qa (Qt Xn Z ((Own.rd (by decide) hxs).get hi1) Z) Z (Yk Xn Z (fun b1 w3 e2 s1 h1=>?_)))
   have g_b1 : w.heap.size ≤ b1:=by have:=E.size;omega
   have y_b1:=h1.lt
   replace E:=E.ext e2;replace hxs:=hxs.ext e2
   have z3:=e2.size
   refine Q6 (cs':=[.int .i64 ((ys[j]'hi1).op),.int .i64 ((ys[j]'hi1).epoch),.int .i64 ((ys[j]'hi1).key),.int .i64 ((ys[j]'hi1).val)]) Xn Z Z Z Z h1 (Nat.le_of_ble_eq_true Z) Z (fun w4 m1 h1'=>?_)
   replace h1:=h1'
   replace E:=E.mod m1 (fun g hg=>by cases hg;omega);replace hxs:=hxs.mod m1 (fun g hg=>by cases hg;omega)
   have z4:=m1.size
   refine Qd (Qf (Qh [true,true,false,true] Z Z (Qa (Qc Z) Z (Qa (Qt Xn Z h1.at Z) Z (J_callV (fs:=fs) (cs:=fc) hcf Z Z (hpf (ys[j]'hi1) _ E) Z (fun _ w5 e3 hv=>?_))))))
   subst hv
   replace E:=E.ext e3;replace hxs:=hxs.ext e3;replace h1:=h1.ext e3
   have z5:=e3.size
   refine Qa (Yq Z) Z (Qd (Qs Z (fun hc3=>?_) (fun hc3=>?_)))
   ·refine Qf (Qh [true,true,true,true,false] Z Z (Qa (Qc Z) Z (Qa (Qc Z) Z (Qa (Qt Xn Z h1.at Z) Z ?_))))
    have hi2 : i < ys.length:=(by first | assumption | omega | (simp only [List.length_set];first | assumption | omega))
    refine Qa (Q1 (i:=i) Xq Z Z (Own.rd (by decide) hxs) hi2) Z (J_storeElem (α:=Cell) (i:=i) (ys[j]'hi1) Xn Z Z Z hxs hi2 (fun w6 m2 hxs'=>?_))
    have hq:=Own.blk hxs
    replace hxs:=hxs'
    replace E:=E.mod m2 (fun g hg=>by have:=hq g hg;omega);replace h1:=h1.mod m2 (fun g hg=>by have:=hq g hg;omega)
    have z6:=m2.size
    clear hq
    refine Qd (Qh [true,true,true] Z Z (Qa (Qc Z) Z (Qa (Q8 Z Z (Ye (by unfold maxLen;omega))) Z (Qa (Qe Z) Z (Qd (Q4 (Yr (Qh [true,true,true] Z Z (Qa (Qc Z) Z (Qa (Q8 Z Z (Ye (by unfold maxLen;omega))) Z (Qa (Qe Z) Z (Qd (Q4 (Yc (j + 1,i + 1,List.set ys i (ys[j]'hi1)) (by simp;omega) ⟨Z,Z,Z,Z,Z,trivial⟩ ⟨E,(by omega),(by simpa using hyl),(by omega),(by omega),(del_yes1 hI hD hyl hij (by omega) (by simpa using hc3)),(del_yes2 hD hyl hij),hxs⟩))))))))))))))
   ·refine Qn (Q4 (Yr (Qh [true,true,true] Z Z (Qa (Qc Z) Z (Qa (Q8 Z Z (Ye (by unfold maxLen;omega))) Z (Qa (Qe Z) Z (Qd (Q4 (Yc (j + 1,i,ys) (by simp;omega) ⟨Z,Z,Z,Z,Z,trivial⟩ ⟨E,(by omega),(by simpa using hyl),(by omega),(by omega),(del_no1 hI hD hyl hij (by omega) (by simpa using hc3)),(del_no2 hD hyl hij),hxs⟩)))))))))
  ·have hc2n : ¬ j < xs.length:=by first | (have h:=of_decide_eq_false hc2;omega) | (have h:=hc2;simp at h;omega)
   refine Yn (Q5 (Q3 ?_))
   refine Qf (Qh [true,true,true,false] Z Z (Qa (Qc Z) Z (Qa (Qc Z) Z ?_)))
   have hk1 : i ≤ ys.length:=by first | assumption | omega
   refine Qa (Vz Xq Z Z (Own.roomE (α:=Cell) hxs) hk1) Z ?_
   have hrm1:=Own.roomE (α:=Cell) hxs
   have hq:=Own.blk hxs
   refine J_clear (α:=Cell) Xq Xn Z Z hxs (by first | assumption | omega) (fun w7 m3 ho1=>?_)
   replace E:=E.mod m3 (fun g hg=>by have:=hq g hg;omega)
   have z7:=m3.size
   clear hq
   refine Qd (Qf (Qh [true,true,true,true] Z Z (Qa (Qc Z) Z (Qa (Qc Z) Z ?_))))
   have hk2 : i ≤ ys.length:=by first | assumption | omega
   refine Qa (Bc Xq Z Z hrm1 hk2) Z (Qa (Qe Z) Z (Qd (Qw (Ql Z Z E ?_))))
   exact Own.fin ho1 (Nat.le_refl _) (by have:=E.size;omega) (by rw [del_end hI (by omega)])

set_option maxHeartbeats 4000000 in
set_option maxRecDepth 20000 in
theorem c_InsertCell (vxs : Value) (lo hi : Nat) (xs : List Cell) (i : Nat) (bqy : Nat) (y : Cell) (w : World) (hxs : Own w lo hi 4 vxs (List.flatMap (Enc.enc (α:=Cell)) xs)) (hy : Blk w bqy (Enc.enc y)) (hlo : lo ≤ w.heap.size) (hhi : hi ≤ w.heap.size) (hil : i ≤ xs.length) (hyb : hi ≤ bqy) (hbd : xs.length ≤ 4194304) : CtR Tryz.prog 155 [vxs,.int .i64 ((i : Nat) : Int),.slice (some ⟨bqy,0,none⟩) 1 1] w lo hi (fun v w'=>Own w' lo w'.heap.size 4 v (List.flatMap (Enc.enc (α:=Cell)) (D3 xs i y))):=by
 have hyl:=hy.lt
 refine Vs Tryz.func155 Z Tryz.ntmps155 Z ?_
 refine Q7 [(0,vxs),(1,.int .i64 ((i : Nat) : Int)),(2,.slice (some ⟨bqy,0,none⟩) 1 1)] ⟨Z,Z,Z,trivial⟩ ?_
 have E : ModR w w lo hi:=ModR.refl w lo hi
 refine Qf (Qh [true] Z Z (Qa (Qe Z) Z (Qd (Qf (Qh [true,true,true] Z Z (Qa (Qc Z) Z (Qa (Qc Z) Z ?_)))))))
 have hk1 : i ≤ xs.length:=by first | assumption | omega
 refine Qa (Vz Xq Z Z (Own.roomE (α:=Cell) hxs) hk1) Z (Qd (Qf (Qh [true,true,true] Z Z (Qa (Qc Z) Z (Qa (Ya Tryz.underlying65 Z ⟨_,_,Z⟩) Z (Qa (Qe Z) Z (Qd (Qf (Qf (Qh [true,true] Z Z (Qa (Qc Z) Z (Qa (Y6 Z Z) Z (Qd (Yy Z (by decide) (Qn (Qf (Qh [true,true,true] Z Z (Qa (Qc Z) Z (Qa (Ya Tryz.underlying65 Z (Own.len (by decide) hxs)) Z (Qa (Qe Z) Z (Qd (Qf (Qf (Qh [true,true,true] Z Z (Qa (Qc Z) Z (Qa (Qc Z) Z (Qa (Y6 Z Z) Z (Qd (Qs Z (fun hc1=>?_) (fun hc1=>?_))))))))))))))))))))))))))))))
 ·have hc1n : i = xs.length:=by first | (have h:=of_decide_eq_true hc1;omega) | (have h:=hc1;simp at h;omega)
  refine Qf (Qh [true,true,false,true] Z Z (Qa (Qc Z) Z (Qa (Qc Z) Z (K8 Xq Z Z hxs (Src.ofBlk hy (by rfl)) (Enc.one _) (by simp only [Yb,Enc.len];simp only [show Enc.sz Cell = 4 from Z];omega) (by decide) (by omega) (by omega) Z Z (fun v1 w1 m1 ho1=>?_)))))
  replace E:=E.mod m1 (fun g hg=>by have:=Own.blk hxs g hg;omega);replace hy:=hy.mod m1 (fun g hg=>by have:=Own.blk hxs g hg;omega)
  have z1:=m1.size
  refine Qa (Qe Z) Z (Qd (Qw (Ql Z Z E ?_)))
  exact Own.fin ho1 (Nat.le_refl _) (by omega) (ins_end (by have h:=hc1;simp at h;omega))
 ·have hlt : i < xs.length:=by have h:=hc1;simp at h;omega
  obtain ⟨g,off,cap,cur,rfl,hg1,hg2,hB,hn,hcm,hrr,hcur⟩:=Own.conc (n:=xs.length) hxs (Yb xs) (by decide) (by omega)
  have hc1n : ¬ i = xs.length:=by first | (have h:=of_decide_eq_false hc1;omega) | (have h:=hc1;simp at h;omega)
  refine Qn (Qf (Qf (Qh [true,true,true,true,true,true] Z Z (Qa (Qc Z) Z (Qa (Qc Z) Z (Qa (Q8 Z Z (Ye (by unfold maxLen;omega))) Z (Qa (Qc Z) Z (Qa (R_cap Tryz.underlying65 Z) Z (Qa (V0 Z Z) Z (Qd (Qs Z (fun hc2=>?_) (fun hc2=>?_))))))))))))
  ·have hc2n : xs.length + 1 > cap:=by first | (have h:=of_decide_eq_true hc2;omega) | (have h:=hc2;simp at h;omega)
   refine Qf (Qh [true,true,true,true,true,true,true,true,false,true] Z Z (Qa (Qc Z) Z (Qa (Qc Z) Z (Qa (Dv Xq Z Z (by omega)) Z (Qa (Qc Z) Z (Qa (Qc Z) Z (Qa (Q8 Z Z (Ye (by unfold maxLen;omega))) Z (Qa (Qc Z) Z (Qa (Uu Z Z (nat_sub (by omega) (by unfold maxLen;omega))) Z (J_appendZ Xq Tryz.underlying3 Z Z (Blk.seg hB (fun j u hj=>hcur j u (take_pre hj))) (by rw [Yb,List.length_take,Nat.min_eq_left (by omega)];rfl) (by omega) (by omega) (by omega) (by decide) Z (fun b2 G rest wZ eZ sZ h2 hG hGm hrl=>?_)))))))))))
   have g_b2 : w.heap.size ≤ b2:=by have:=E.size;omega
   have y_b2:=h2.lt
   replace E:=E.ext eZ;replace hy:=hy.ext eZ;replace hB:=hB.ext eZ
   have z2:=eZ.size
   have hLA : (List.flatMap (Enc.enc (α:=Cell)) (xs.take i)).length = i * 4:=by rw [Yb,List.length_take,Nat.min_eq_left (by omega)];rfl
   refine Qa (Qe Z) Z (Qd (Qf (Qh [true,true,true,true,false] Z Z (Qa (Qc Z) Z (Qa (Qc Z) Z (Qa (U2 Xq Z Z (by omega) (by omega) (by omega)) Z (Qa (Qc Z) Z (J_copy 1 Xq Z Z (Nat.min_eq_left (by omega)) h2 (Blk.at hy) (by rfl) (Enc.one y) (by rw [Enc.len,List.length_append,hLA,hrl];simp only [show Enc.sz Cell = 4 from Z];omega) Z (fun w2 m2 h2'=>?_)))))))))
   replace h2:=h2'
   replace E:=E.mod m2 (fun g hg=>by cases hg;omega);replace hy:=hy.mod m2 (fun g hg=>by cases hg;omega);replace hB:=hB.mod m2 (fun g hg=>by cases hg;omega)
   have z3:=m2.size
   refine Qd (Qf (Xj Xi [(0,true),(1,true),(2,true),(3,true),(4,true),(5,true),(6,true),(7,true),(8,false)] (by decide +kernel) Z (fun w3 e1=>?_)))
   replace E:=E.ext e1;replace hy:=hy.ext e1;replace hB:=hB.ext e1;replace h2:=h2.ext e1
   have z4:=e1.size
   refine Qa (Qc Z) Z (Qa (Qc Z) Z (Qa (Qc Z) Z (Qa (Q8 Z Z (Ye (by unfold maxLen;omega))) Z (Qa (U2 Xq Z Z (by omega) (by omega) (by omega)) Z (Qa (Qc Z) Z (Qa (Qc Z) Z (Qa (U2 Xq Z Z (by omega) (by omega) (by omega)) Z (J_copy (xs.length - i) Xq Z Z (by show min _ _ = _;omega) h2 (Blk.seg hB (fun j u hj=>by rw [Nat.add_assoc];exact hcur _ u (drop_pre hj))) (by rw [Yb,List.length_drop];rfl) (Xe _) (by rw [X8,Yb,List.length_drop,List.length_append,hLA,hrl];simp only [show Enc.sz Cell = 4 from Z];omega) Z (fun w4 m3 h2'=>?_)))))))))
   replace h2:=h2'
   replace E:=E.mod m3 (fun g hg=>by cases hg;omega);replace hy:=hy.mod m3 (fun g hg=>by cases hg;omega);replace hB:=hB.mod m3 (fun g hg=>by cases hg;omega)
   have z5:=m3.size
   refine Qd (Qf (Qh [true,true] Z Z (Qa (Qc Z) Z (Qa (Qe Z) Z (Qd (Qw (Ql Z Z E ?_)))))))
   have hLC : (List.flatMap (Enc.enc (α:=Cell)) (xs.drop i)).length = (xs.length - i) * 4:=by rw [Yb,List.length_drop];rfl
   have hLB : (Enc.enc y).length = 4:=rfl
   exact Own.of h2 (by omega) h2.lt (by omega) hGm (by rw [X8,X8,List.length_append,hLA,hrl];omega) (by rw [Te];simp only [List.length_append,hLA,hLB,hLC];omega) (by rw [Te];exact ins_rowE (by omega) (by omega) (fun j u hj=>by rw [Nat.zero_add,List.getElem?_append_left (List.getElem?_eq_some_iff.1 hj).1];exact hj) (by rw [List.length_append,hLA,hLB,hLC,hrl];omega))
  ·have hc2n : ¬ xs.length + 1 > cap:=by first | (have h:=of_decide_eq_false hc2;omega) | (have h:=hc2;simp at h;omega)
   refine Qn (Qf (Qh [true,true,true,true,true,true] Z Z (Qa (Qc Z) Z (Qa (Qc Z) Z (Qa (Qc Z) Z (Qa (Q8 Z Z (Ye (by unfold maxLen;omega))) Z (Qa (Dv Xq Z Z (by omega)) Z (Qa (Qe Z) Z (Qd (Qf (Qf (Qh [true,true,true,true,true,true,false,true] Z Z (Qa (Qc Z) Z (Qa (Qc Z) Z (Qa (Qc Z) Z (Qa (Qc Z) Z (Qa (Q8 Z Z (Ye (by unfold maxLen;omega))) Z (Qa (U2 Xq Z Z (by omega) (by omega) (by omega)) Z ?_))))))))))))))))))
   have hov : (callFunc 161 ([.slice (some ⟨bqy,0,none⟩) 1 1,.slice (some ⟨g,off + (i + 1) * 4,none⟩) ((xs.length + 1) - (i + 1)) (cap - (i + 1))]).toArray).run Tryz.prog w = .ok (.value (.bool false)) w:=by rw [run_callFunc_extern Tryz.func161 (by kernel_rfl) (by kernel_rfl) (by kernel_rfl) (e:=Extern.SlicesOverlaps.overlaps #[65,65] #[4]) (by kernel_rfl)];show ((Extern.SlicesOverlaps.overlaps #[65,65] #[4] #[.slice (some ⟨bqy,0,none⟩) 1 1,.slice (some ⟨g,off + (i + 1) * 4,none⟩) ((xs.length + 1) - (i + 1)) (cap - (i + 1))]).run Tryz.prog w).andThen _ = _;rw [run_ov Xq Xn.size hy hB (by omega) (by omega)];rfl
   refine J_extern (vs:=[.slice (some ⟨bqy,0,none⟩) 1 1,.slice (some ⟨g,off + (i + 1) * 4,none⟩) ((xs.length + 1) - (i + 1)) (cap - (i + 1))]) Z hov Z ?_
   refine Qa (Yq Z) Z (Qd (Hq Z (by first | (simp;done) | (simp only [Qo] <;> simp) | (simp only [Qi,Qo] <;> simp) | (simp only [Qi] <;> simp)) (Qf (Xj Xi [(0,true),(1,true),(2,true),(3,true),(4,true),(5,true),(6,true),(7,true),(8,false)] (by decide +kernel) Z (fun w5 e2=>?_)))))
   replace E:=E.ext e2;replace hy:=hy.ext e2;replace hB:=hB.ext e2
   have z6:=e2.size
   refine Qa (Qc Z) Z (Qa (Qc Z) Z (Qa (Qc Z) Z (Qa (Q8 Z Z (Ye (by unfold maxLen;omega))) Z (Qa (U2 Xq Z Z (by omega) (by omega) (by omega)) Z (Qa (Qc Z) Z (Qa (Qc Z) Z (Qa (U2 Xq Z Z (by omega) (by omega) (by omega)) Z (J_copy (xs.length - i) Xq Z Z (by show min _ _ = _;omega) hB (Blk.seg hB (fun j u hj=>by rw [Nat.add_assoc];exact hcur _ u (drop_pre hj))) (by rw [Yb,List.length_drop];rfl) (Xe _) (by rw [Yb,List.length_drop];simp only [show Enc.sz Cell = 4 from Z];omega) Z (fun w6 m4 hB'=>?_)))))))))
   replace hB:=hB'
   replace E:=E.mod m4 (fun g hg=>by cases hg;omega);replace hy:=hy.mod m4 (fun g hg=>by cases hg;omega)
   have z7:=m4.size
   refine Qd (Qf (Qh [true,true,true,true,false] Z Z (Qa (Qc Z) Z (Qa (Qc Z) Z (Qa (U2 Xq Z Z (by omega) (by omega) (by omega)) Z (Qa (Qc Z) Z (J_copy 1 Xq Z Z (Nat.min_eq_left (by omega)) hB (Blk.at hy) (by rfl) (Enc.one y) (by rw [X8,Enc.len];simp only [show Enc.sz Cell = 4 from Z];omega) Z (fun w7 m5 hB'=>?_))))))))
   replace hB:=hB'
   replace E:=E.mod m5 (fun g hg=>by cases hg;omega);replace hy:=hy.mod m5 (fun g hg=>by cases hg;omega)
   have z8:=m5.size
   refine Qd (Qf (Qh [true,true] Z Z (Qa (Qc Z) Z (Qa (Qe Z) Z (Qd (Qw (Ql Z Z E ?_)))))))
   have hLA : (List.flatMap (Enc.enc (α:=Cell)) (xs.take i)).length = i * 4:=by rw [Yb,List.length_take,Nat.min_eq_left (by omega)];rfl
   have hLC : (List.flatMap (Enc.enc (α:=Cell)) (xs.drop i)).length = (xs.length - i) * 4:=by rw [Yb,List.length_drop];rfl
   have hLB : (Enc.enc y).length = 4:=rfl
   exact Own.of hB hg1 (by omega) (by omega) hcm (by rw [X8,X8];exact hrr) (by rw [Te];simp only [List.length_append,hLA,hLB,hLC];omega) (by rw [Te];exact ins_row2E (by omega) (by omega) (fun j u hj=>hcur j u (take_pre hj)) (by rw [hLA,hLB,hLC];omega))

set_option maxRecDepth 20000 in
theorem c_PutCell (vxs : Value) (xs : List Cell) (x : Cell) (w : World) (hxs : RdS w vxs xs) (hb : xs.length ≤ 4194304) : Ct Tryz.prog 142 [vxs,.agg (Enc.enc x).toArray] w (fun v w'=>Own w' w.heap.size w'.heap.size 4 v (List.flatMap (Enc.enc (α:=Cell)) (C2 xs x))):=by
 refine Yh Tryz.func142 Z Tryz.ntmps142 Z ?_
 refine Q7 [(0,vxs),(1,.agg (Enc.enc x).toArray)] ⟨Z,Z,trivial⟩ ?_
 have E : Ext w w:=Ext.refl w
 refine Qf (Qh [false,true] Z Z (Y1 Z Z (fun b1 w1 e1 s1 h1=>?_)))
 have g_b1 : w.heap.size ≤ b1:=by have:=E.size;omega
 have y_b1:=h1.lt
 replace E:=E.trans e1
 have z1:=e1.size
 refine Qa (Qe Z) Z (Qd (Qf (Qh [true,false,true] Z Z (Qa (Qc Z) Z (Qv Tryz.call108 Z (c_copyCells vxs xs _ (hxs.ext E) (by first | omega | (simp only [Qi];omega) | (rw [Qi];done) | (simp only [Qi];done))) Z (fun v1 w2 e2 ho1=>?_))))))
 have g_ho1 : w.heap.size ≤ w1.heap.size:=E.size
 replace E:=E.trans e2;replace h1:=h1.ext e2
 have z2:=e2.size
 refine Qa (Qe Z) Z (Qd (Qf (Qf (Qh [true,true,false] Z Z (Qa (Qc Z) Z (Qa (Qt Xn Z h1.at Z) Z (Qv Tryz.call143 Z (c_HasCell vxs xs x _ (hxs.ext E)) Z (fun _ w3 e3 hv=>?_))))))))
 subst hv
 replace E:=E.trans e3;replace h1:=h1.ext e3;replace ho1:=ho1.ext e3
 have z3:=e3.size
 refine Qd (Qs Z (fun hc1=>?_) (fun hc1=>?_))
 ·refine Qf (Qh [true,true] Z Z (Qa (Qc Z) Z (Qa (Qe Z) Z (Qd (Qw (Ql Z Z E ?_))))))
  exact Own.fin ho1 (by omega) (by omega) (by simp only [B9 hc1,List.nil_append])
 ·refine Qn (Qf (Qh [true] Z Z (Qa (Qe Z) Z (Qd (Qf (Q0 (Ym (fun (k : Nat)=>[(0,vxs),(3,.pointer (some ⟨b1,0,none⟩)),(4,.slice none 0 0),(5,v1),(6,.int .i64 ((k : Nat) : Int))]) (fun (k : Nat) w'=>Ext w w' ∧ w3.heap.size ≤ w'.heap.size ∧ Blk w' b1 (Enc.enc x) ∧ Own w' w1.heap.size w2.heap.size 4 v1 (List.flatMap (Enc.enc (α:=Cell)) xs) ∧ k ≤ xs.length ∧ (xs.take k).all (Bg x) = true) (fun (k : Nat)=>xs.length - k) 0 ⟨Z,Z,Z,Z,Z,trivial⟩ ⟨E,Nat.le_refl _,h1,ho1,Nat.zero_le _,Z⟩ ?_)))))))
  clear E h1 ho1
  rintro k w4 ⟨E,z4,h1,ho1,hk,hI⟩
  refine Qf (Qf (Xj Xi [(0,true),(1,true),(2,true),(3,true),(4,true),(5,true),(6,true),(7,true),(8,true),(9,true),(10,false),(11,true),(12,true)] (by decide +kernel) Z (fun w5 e4=>?_)))
  replace E:=E.trans e4;replace h1:=h1.ext e4;replace ho1:=ho1.ext e4
  have z5:=e4.size
  refine Qa (Qc Z) Z (Qa (Qc Z) Z (Qa (Ya Tryz.underlying65 Z (hxs.ext E).len) Z (Qa (Yf Z Z) Z (Qa (Qc Z) Z (Y7 8 [(0,vxs),(3,.pointer (some ⟨b1,0,none⟩)),(4,.slice none 0 0),(5,v1),(6,.int .i64 ((k : Nat) : Int)),(25,.bool ((decide (((k : Nat) : Int) < ((xs.length : Nat) : Int))) && (decide ((Ka (List.getD xs k default) x) < 0))))] (fun w'=>Ext w w' ∧ w5.heap.size ≤ w'.heap.size ∧ Blk w' b1 (Enc.enc x) ∧ Own w' w1.heap.size w2.heap.size 4 v1 (List.flatMap (Enc.enc (α:=Cell)) xs)) ?_ ?_)))))
  ·refine Y3 (gd:=17) Z Z (fun hg1=>?_) (fun hg1=>?_)
   ·have hg1n : k < xs.length:=by first | (have h:=of_decide_eq_true hg1;omega) | (have h:=hg1;simp at h;omega)
    refine Qm Z Z (Qc Z) Z (Qm Z Z (Qc Z) Z (Qm Z Z (Q1 (i:=k) Xq Z Z (hxs.ext E) (by first | assumption | omega | (simp only [List.length_set];first | assumption | omega))) Z (Qm Z Z (Qt Xn Z (RdS.getD (hxs.ext E) (i:=k) (by first | assumption | omega | (simp only [List.length_set];first | assumption | omega))) Z) Z (Qm Z Z (Qt Xn Z h1.at Z) Z ?_))))
    refine Xp Z Z ?_
    refine Qv Tryz.call136 Z (c_CellOrder (List.getD xs k default) x _ ) Z (fun _ w7 e5 hv=>?_)
    subst hv
    replace E:=E.trans e5;replace h1:=h1.ext e5;replace ho1:=ho1.ext e5
    have z6:=e5.size
    refine Qm Z Z (Yf Z Z) Z (Qa (Qx Z Z) Z (Qp ⟨Z,Z,Z,Z,Z,congrArg (fun b=>some (Value.bool b)) (show (decide ((Ka (List.getD xs k default) x) < 0)) = ((decide (((k : Nat) : Int) < ((xs.length : Nat) : Int))) && (decide ((Ka (List.getD xs k default) x) < 0))) by first | (rw [hg1] <;> rfl) | (simp [hg1];done) | (simp only [Qo] <;> simp)),trivial⟩ ⟨E,(by omega),h1,ho1⟩))
   ·have hg1n : ¬ k < xs.length:=by first | (have h:=of_decide_eq_false hg1;omega) | (have h:=hg1;simp at h;omega)
    refine Qg Z Z Z Z (Qg Z Z Z Z (Qg Z Z Z Z (Qg Z Z Z Z (Qg Z Z Z Z ?_))))
    refine Yp Z Z Z Z ?_
    refine Qg Z Z Z Z (Qa (Qy Z Z) Z (Qp ⟨Z,Z,Z,Z,Z,congrArg (fun b=>some (Value.bool b)) (show false = ((decide (((k : Nat) : Int) < ((xs.length : Nat) : Int))) && (decide ((Ka (List.getD xs k default) x) < 0))) by first | (rw [hg1] <;> rfl) | (simp [hg1];done) | (simp only [Qo] <;> simp)),trivial⟩ ⟨E,(by omega),h1,ho1⟩))
  clear E h1 ho1
  rintro w6 ⟨E,z7,h1,ho1⟩
  refine Qd (Qs Z (fun hc2=>?_) (fun hc2=>?_))
  ·have hlt:=put_lt hc2
   refine Qn (Q0 (Qh [true,true,true] Z Z (Qa (Qc Z) Z (Qa (Q8 Z Z (Ye (by unfold maxLen;omega))) Z (Qa (Qe Z) Z (Qd (Q4 (Yr (Q4 (Yc (k + 1) (by omega) ⟨Z,Z,Z,Z,Z,trivial⟩ ⟨E,(by omega),h1,ho1,(by omega),(put_step hI hc2)⟩))))))))))
  ·refine Yn (Q5 (Q3 ?_))
   refine Qf (Qh [true,true,true,false,false,true] Z Z (Qa (Qc Z) Z (Qa (Qc Z) Z (Qa (Qt Xn Z h1.at Z) Z (Yz (vs:=[.agg (Enc.enc x).toArray]) (css:=[[.int .i64 x.op,.int .i64 x.epoch,.int .i64 x.key,.int .i64 x.val]]) Xq Z Z ⟨⟨Z,Z⟩,trivial⟩ Z Z (fun b2 w8 e6 s2 h2=>?_))))))
   replace h2 : Blk w8 b2 [.int .i64 x.op,.int .i64 x.epoch,.int .i64 x.key,.int .i64 x.val]:=h2
   have g_b2 : w.heap.size ≤ b2:=by have:=E.size;omega
   have y_b2:=h2.lt
   replace E:=E.trans e6;replace h1:=h1.ext e6;replace ho1:=ho1.ext e6
   have z8:=e6.size
   refine Kj Tryz.call155 Z (by rfl) (c_InsertCell v1 w1.heap.size w2.heap.size xs k b2 x _ ho1 h2 (by omega) (by omega) (by omega) (by omega) (by omega)) Z (fun v2 w9 e7 ho2=>?_)
   replace E:=E.stepR e7 (by omega);replace h1:=h1.modR e7 (by omega);replace h2:=h2.modR e7 (by omega)
   have z9:=e7.size
   refine Qa (Qe Z) Z (Qd (Qw (Ql Z Z E ?_)))
   exact Own.fin ho2 (by omega) (by omega) (by rw [putM_no hc1 hI hk hc2])

set_option maxHeartbeats 4000000 in
set_option maxRecDepth 20000 in
theorem s_PutCell (vxs : Value) (xs : List Cell) (x : Cell) (w : World) (hxs : RdS w vxs xs) (hb : xs.length ≤ 4194304) : Ct Tryz.prog 130 [vxs,.agg (Enc.enc x).toArray] w (fun v w'=>Own w' w.heap.size w'.heap.size 4 v (List.flatMap (Enc.enc (α:=Cell)) (C2 xs x))):=by
 refine Yh Tryz.func130 Z Tryz.ntmps130 Z ?_
 refine Q7 [(0,vxs),(1,.agg (Enc.enc x).toArray)] ⟨Z,Z,trivial⟩ ?_
 have E : Ext w w:=Ext.refl w
 refine Qf (Qh [false,true] Z Z (Y1 Z Z (fun b1 w1 e1 s1 h1=>?_)))
 have g_b1 : w.heap.size ≤ b1:=by have:=E.size;omega
 have y_b1:=h1.lt
 replace E:=E.trans e1
 have z1:=e1.size
 refine Qa (Qe Z) Z (Qd (Qf (Qf (Qh [true,true,false] Z Z (Qa (Qc Z) Z (Qa (Qt Xn Z h1.at Z) Z (Qv Tryz.call129 Z (s_HasCell vxs xs x _ (hxs.ext E)) Z (fun _ w2 e2 hv=>?_))))))))
 subst hv
 replace E:=E.trans e2;replace h1:=h1.ext e2
 have z2:=e2.size
 refine Qd (Qs Z (fun hc1=>?_) (fun hc1=>?_))
 ·refine Qf (Qh [false,true,false,true] Z Z (Yz (vs:=[]) (css:=[]) Xq Z Z trivial Z Z (fun b2 w3 e3 s2 h2=>?_)))
  replace h2 : Blk w3 b2 []:=h2
  have g_b2 : w.heap.size ≤ b2:=by have:=E.size;omega
  have y_b2:=h2.lt
  replace E:=E.trans e3;replace h1:=h1.ext e3
  have z3:=e3.size
  refine Qa (Qc Z) Z (K8 Xq Z Z (Own.ofBlk (lo:=b2) (hi:=b2 + 1) (sz:=4) h2 (Nat.le_refl _) (Nat.lt_succ_self _) (by simp) (by simp [maxLen])) (RdS.src (hxs.ext E)) (Xe _) (by simp only [Yb,List.length_nil,List.length_append,List.length_take,List.length_drop,List.length_cons];simp only [Enc.sz];omega) (by decide) (by omega) (by omega) Z Z (fun v1 w4 m1 ho1=>?_))
  replace E:=E.step m1 (fun g hg=>by have:=Own.blk (Own.ofBlk (lo:=b2) (hi:=b2 + 1) (sz:=4) h2 (Nat.le_refl _) (Nat.lt_succ_self _) (by simp) (by simp [maxLen])) g hg;omega);replace h1:=h1.mod m1 (fun g hg=>by have:=Own.blk (Own.ofBlk (lo:=b2) (hi:=b2 + 1) (sz:=4) h2 (Nat.le_refl _) (Nat.lt_succ_self _) (by simp) (by simp [maxLen])) g hg;omega)
  have z4:=m1.size
  refine Qa (Qe Z) Z (Qd (Qw (Ql Z Z E ?_)))
  exact Own.fin ho1 (by omega) (by omega) (by simp only [B9 hc1,List.nil_append])
 ·refine Qn (Qf (Qh [true] Z Z (Qa (Qe Z) Z (Qd (Qf (Q0 (Ym (fun (k : Nat)=>[(0,vxs),(3,.pointer (some ⟨b1,0,none⟩)),(4,.slice none 0 0),(5,.int .i64 ((k : Nat) : Int))]) (fun (k : Nat) w'=>Ext w w' ∧ w2.heap.size ≤ w'.heap.size ∧ Blk w' b1 (Enc.enc x) ∧ k ≤ xs.length ∧ (xs.take k).all (Bg x) = true) (fun (k : Nat)=>xs.length - k) 0 ⟨Z,Z,Z,Z,trivial⟩ ⟨E,Nat.le_refl _,h1,Nat.zero_le _,Z⟩ ?_)))))))
  clear E h1
  rintro k w5 ⟨E,z5,h1,hk,hI⟩
  refine Qf (Qf (Xj Xi [(0,true),(1,true),(2,true),(3,true),(4,true),(5,true),(6,true),(7,true),(8,true),(9,true),(10,false),(11,true),(12,true)] (by decide +kernel) Z (fun w6 e4=>?_)))
  replace E:=E.trans e4;replace h1:=h1.ext e4
  have z6:=e4.size
  refine Qa (Qc Z) Z (Qa (Qc Z) Z (Qa (Ya Tryz.underlying65 Z (hxs.ext E).len) Z (Qa (Yf Z Z) Z (Qa (Qc Z) Z (Y7 8 [(0,vxs),(3,.pointer (some ⟨b1,0,none⟩)),(4,.slice none 0 0),(5,.int .i64 ((k : Nat) : Int)),(25,.bool ((decide (((k : Nat) : Int) < ((xs.length : Nat) : Int))) && (decide ((Ka (List.getD xs k default) x) < 0))))] (fun w'=>Ext w w' ∧ w6.heap.size ≤ w'.heap.size ∧ Blk w' b1 (Enc.enc x)) ?_ ?_)))))
  ·refine Y3 (gd:=17) Z Z (fun hg1=>?_) (fun hg1=>?_)
   ·have hg1n : k < xs.length:=by first | (have h:=of_decide_eq_true hg1;omega) | (have h:=hg1;simp at h;omega)
    refine Qm Z Z (Qc Z) Z (Qm Z Z (Qc Z) Z (Qm Z Z (Q1 (i:=k) Xq Z Z (hxs.ext E) (by first | assumption | omega | (simp only [List.length_set];first | assumption | omega))) Z (Qm Z Z (Qt Xn Z (RdS.getD (hxs.ext E) (i:=k) (by first | assumption | omega | (simp only [List.length_set];first | assumption | omega))) Z) Z (Qm Z Z (Qt Xn Z h1.at Z) Z ?_))))
    refine Xp Z Z ?_
    refine Qv Tryz.call147 Z (s_CellOrder (List.getD xs k default) x _ ) Z (fun _ w8 e5 hv=>?_)
    subst hv
    replace E:=E.trans e5;replace h1:=h1.ext e5
    have z7:=e5.size
    refine Qm Z Z (Yf Z Z) Z (Qa (Qx Z Z) Z (Qp ⟨Z,Z,Z,Z,congrArg (fun b=>some (Value.bool b)) (show (decide ((Ka (List.getD xs k default) x) < 0)) = ((decide (((k : Nat) : Int) < ((xs.length : Nat) : Int))) && (decide ((Ka (List.getD xs k default) x) < 0))) by first | (rw [hg1] <;> rfl) | (simp [hg1];done) | (simp only [Qo] <;> simp)),trivial⟩ ⟨E,(by omega),h1⟩))
   ·have hg1n : ¬ k < xs.length:=by first | (have h:=of_decide_eq_false hg1;omega) | (have h:=hg1;simp at h;omega)
    refine Qg Z Z Z Z (Qg Z Z Z Z (Qg Z Z Z Z (Qg Z Z Z Z (Qg Z Z Z Z ?_))))
    refine Yp Z Z Z Z ?_
    refine Qg Z Z Z Z (Qa (Qy Z Z) Z (Qp ⟨Z,Z,Z,Z,congrArg (fun b=>some (Value.bool b)) (show false = ((decide (((k : Nat) : Int) < ((xs.length : Nat) : Int))) && (decide ((Ka (List.getD xs k default) x) < 0))) by first | (rw [hg1] <;> rfl) | (simp [hg1];done) | (simp only [Qo] <;> simp)),trivial⟩ ⟨E,(by omega),h1⟩))
  clear E h1
  rintro w7 ⟨E,z8,h1⟩
  refine Qd (Qs Z (fun hc2=>?_) (fun hc2=>?_))
  ·have hlt:=put_lt hc2
   refine Qn (Q0 (Qh [true,true,true] Z Z (Qa (Qc Z) Z (Qa (Q8 Z Z (Ye (by unfold maxLen;omega))) Z (Qa (Qe Z) Z (Qd (Q4 (Yr (Q4 (Yc (k + 1) (by omega) ⟨Z,Z,Z,Z,trivial⟩ ⟨E,(by omega),h1,(by omega),(put_step hI hc2)⟩))))))))))
  ·refine Yn (Q5 (Q3 ?_))
   refine Qf ?_
   have hk1 : k ≤ xs.length:=by first | assumption | omega
   have hs1 : RdS (α:=Cell) w (slTo vxs k) (List.take k xs):=RdL.slTo hxs hk1
   refine S_regF Xi [7] 6 34 [33] [(1,true),(2,true),(3,true),(5,true)] [(0,false),(4,false)] [(7,false),(8,true)] (fun b=>.slice (some ⟨b,0,none⟩) 1 1) (z:=[.int .i64 x.op,.int .i64 x.epoch,.int .i64 x.key,.int .i64 x.val]) (by decide +kernel) Z Z Z Z Z Z Z [(0,vxs),(3,.pointer (some ⟨b1,0,none⟩)),(4,.slice none 0 0),(5,.int .i64 ((k : Nat) : Int)),(25,.bool ((decide (((k : Nat) : Int) < ((xs.length : Nat) : Int))) && (decide ((Ka (List.getD xs k default) x) < 0)))),(29,vxs),(30,.int .i64 ((k : Nat) : Int)),(31,slTo vxs k),(33,.agg (Enc.enc x).toArray)] [(33,.agg (Enc.enc x).toArray)] Z ⟨Z,trivial⟩ (fun w'=>Ext w w' ∧ w7.heap.size ≤ w'.heap.size ∧ Blk w' b1 (Enc.enc x)) (float_lit1 Xq Z Z Z Z) (fun w9 e6=>?_) (fun w9 hphi_w9=>?_)
   ·replace E:=E.trans e6;replace h1:=h1.ext e6
    have z9:=e6.size
    refine Qa (Qc Z) Z (Qa (Qc Z) Z (Qa (Bc Xq Z Z (RdL.room (hxs.ext E)) hk1) Z (Qa (Qt Xn Z h1.at Z) Z (Qp ⟨Z,Z,Z,Z,Z,Z,Z,Z,Z,trivial⟩ ⟨E,(by omega),h1⟩))))
   clear E h1
   obtain ⟨E,z10,h1⟩:=hphi_w9
   refine Fb Z (fun w10 e7=>?_) Z
   replace E:=E.trans e7;replace h1:=h1.ext e7
   have z11:=e7.size
   refine Yz (vs:=[]) (css:=[]) Xq Z Z trivial Z Z (fun b3 w11 e8 s3 h3=>?_)
   replace h3 : Blk w11 b3 []:=h3
   have g_b3 : w.heap.size ≤ b3:=by have:=E.size;omega
   have y_b3:=h3.lt
   replace E:=E.trans e8;replace h1:=h1.ext e8
   have z12:=e8.size
   refine Bf ?_
   refine Fb Z (fun w12 e9=>?_) Z
   replace E:=E.trans e9;replace h1:=h1.ext e9;replace h3:=h3.ext e9
   have z13:=e9.size
   refine Gn Xq Z Z (Own.ofBlk (lo:=b3) (hi:=b3 + 1) (sz:=4) h3 (Nat.le_refl _) (Nat.lt_succ_self _) (by simp) (by simp [maxLen])) ⟨_,_,Z⟩ (RdS.src (hs1.ext E)) (Xe _) (by simp only [Yb,List.length_nil,List.length_append,List.length_take,List.length_drop,List.length_cons];simp only [Enc.sz];omega) (by decide) (by omega) (by omega) Z (fun v2 w13 e10 ho2 hb_ho2=>?_)
   replace E:=E.trans e10;replace h1:=h1.ext e10
   have z14:=e10.size
   have g_ho2 : w.heap.size ≤ b3:=by have:=E.size;omega
   have hn1 : ∀ g,Value.ownBlock v2 = some g → g = b3 ∨ w12.heap.size ≤ g:=fun g hg=>(hb_ho2 g hg).elim (fun h=>.inl (by cases h;rfl)) (fun h=>.inr h)
   replace ho2 : Own w13 b3 w13.heap.size 4 v2 (List.flatMap (Enc.enc (α:=Cell)) (List.take k xs)):=ho2
   refine Bf ?_
   refine JI_end Z (fun b4 w14 e11 g1 y1 h4 hI1=>?_)
   have hI1_0 : b4 < w10.heap.size ∨ w11.heap.size ≤ b4:=hI1 (_,_) (by simp)
   have hI1_1 : b4 < w12.heap.size ∨ w13.heap.size ≤ b4:=hI1 (_,_) (by simp)
   replace E:=E.trans e11;replace h1:=h1.ext e11;replace ho2:=ho2.ext e11
   have z15:=e11.size
   have g_b4 : w.heap.size ≤ b4:=by have:=E.size;omega
   have y_b4:=h4.lt
   refine J2_sub [(0,vxs),(3,.pointer (some ⟨b1,0,none⟩)),(4,.slice none 0 0),(5,.int .i64 ((k : Nat) : Int)),(25,.bool ((decide (((k : Nat) : Int) < ((xs.length : Nat) : Int))) && (decide ((Ka (List.getD xs k default) x) < 0)))),(28,.slice (some ⟨b3,0,none⟩) 0 0),(29,vxs),(30,.int .i64 ((k : Nat) : Int)),(31,slTo vxs k),(32,v2),(33,.agg (Enc.enc x).toArray),(34,.slice (some ⟨b4,0,none⟩) 1 1)] ⟨Z,Z,Z,Z,Z,Z,Z,Z,Z,Z,Z,Z,trivial⟩ ?_
   refine Bt Z ?_
   refine Gp Xq Z Z ho2 (Src.ofBlk h4 Z) Z (by simp only [Yb,List.length_nil,List.length_append,List.length_take,List.length_drop,List.length_cons];simp only [Enc.sz];omega) (by decide) (by omega) (by omega) Z Z (fun v3 w15 m2 ho3 hb1=>?_)
   have hn2 : ∀ g,Value.ownBlock v3 = some g → g = b3 ∨ w12.heap.size ≤ g:=fun g hg=>(hb1 g hg).elim (fun h=>hn1 g h) (fun h=>by omega)
   replace E:=E.step m2 (fun g hg=>by have:=Own.blk ho2 g hg;have:=hn1 g hg;omega);replace h1:=h1.mod m2 (fun g hg=>by have:=Own.blk ho2 g hg;have:=hn1 g hg;omega)
   have z16:=m2.size
   refine T3 ?_
   refine Qa (Qe Z) Z (Qd (Qf (Qh [true,true,true,true,false,true] Z Z (Qa (Qc Z) Z (Qa (Qc Z) Z (Qa (Qc Z) Z ?_))))))
   have hk2 : k ≤ xs.length:=by first | assumption | omega
   have hs2 : RdS (α:=Cell) w (slFrom vxs k 4) (List.drop k xs):=RdL.slFrom hxs hk2
   refine Qa (Vz Xq Z Z (RdL.room (hxs.ext E)) hk2) Z (Gp Xq Z Z ho3 (RdS.src (hs2.ext E)) (Xe _) (by simp only [Yb,List.length_nil,List.length_append,List.length_take,List.length_drop,List.length_cons];simp only [Enc.sz];omega) (by decide) (by omega) (by omega) Z Z (fun v4 w16 m3 ho4 hb2=>?_))
   have hn3 : ∀ g,Value.ownBlock v4 = some g → g = b3 ∨ w12.heap.size ≤ g:=fun g hg=>(hb2 g hg).elim (fun h=>hn2 g h) (fun h=>by omega)
   replace E:=E.step m3 (fun g hg=>by have:=Own.blk ho3 g hg;have:=hn2 g hg;omega);replace h1:=h1.mod m3 (fun g hg=>by have:=Own.blk ho3 g hg;have:=hn2 g hg;omega)
   have z17:=m3.size
   refine Qa (Qe Z) Z (Qd (Qw (Ql Z Z E ?_)))
   exact Own.fin ho4 (by omega) (by omega) (by rw [putM_no hc1 hI hk hc2,Te];rfl)

set_option maxRecDepth 20000 in
theorem c_better1 (y : Cell) (bx : Nat) (x : Cell) (w : World) (hx : At w bx 0 [.int .i64 x.op,.int .i64 x.epoch,.int .i64 x.key,.int .i64 x.val]) : Ct Tryz.prog 153 [.agg (Enc.enc y).toArray,.pointer (some ⟨bx,0,none⟩)] w (fun v _=>v = .bool (K6 x y)):=by
 refine Yh Tryz.func153 Z Tryz.ntmps153 Z ?_
 refine Q7 [(0,.agg (Enc.enc y).toArray),(1,.pointer (some ⟨bx,0,none⟩))] ⟨Z,Z,trivial⟩ ?_
 have E : Ext w w:=Ext.refl w
 refine Qf (Qh [false,true] Z Z (Y1 Z Z (fun b1 w1 e1 s1 h1=>?_)))
 have g_b1 : w.heap.size ≤ b1:=by have:=E.size;omega
 have y_b1:=h1.lt
 replace E:=E.trans e1
 have z1:=e1.size
 refine Qa (Qe Z) Z (Qd (Qf (Qh [true,true,false,true] Z Z (Qa (Qt Xn Z (hx.ext E) Z) Z (Qa (Qt Xn Z h1.at Z) Z (Qv Tryz.call154 Z (c_sameSlot x y _ ) Z (fun _ w2 e2 hv=>?_)))))))
 subst hv
 replace E:=E.trans e2;replace h1:=h1.ext e2
 have z2:=e2.size
 refine Qa (Qe Z) Z (Qd (Qw (Ql Z Z E ?_)))
 rfl

set_option maxRecDepth 20000 in
theorem c_better (vxs : Value) (xs : List Cell) (x : Cell) (w : World) (hxs : RdS w vxs xs) (hb : xs.length ≤ 4194304) : Ct Tryz.prog 141 [vxs,.agg (Enc.enc x).toArray] w (fun v w'=>∃ u0,v = .tuple [u0,.bool ((X3 xs x).2)].toArray ∧ Own w' w.heap.size w'.heap.size 4 u0 (List.flatMap (Enc.enc (α:=Cell)) ((X3 xs x).1))):=by
 refine Yh Tryz.func141 Z Tryz.ntmps141 Z ?_
 refine Q7 [(0,vxs),(1,.agg (Enc.enc x).toArray)] ⟨Z,Z,trivial⟩ ?_
 have E : Ext w w:=Ext.refl w
 refine Qf (Qh [false,true,true] Z Z (Y1 Z Z (fun b1 w1 e1 s1 h1=>?_)))
 have g_b1 : w.heap.size ≤ b1:=by have:=E.size;omega
 have y_b1:=h1.lt
 replace E:=E.trans e1
 have z1:=e1.size
 refine Qa (Qe Z) Z (Qa (Qe Z) Z (Qd (Qf (Qf (Qh [true,true,true,true,true,true,true,false,true,true,true,true,true] Z Z (Qa (Qc Z) Z (Qa (Qb K5 Z) Z (Qa (Qj Yo Z (h1.one 0 Z)) Z (Qa (Qb K4 Z) Z (Qa (Qj Yo Z (h1.one 1 Z)) Z (Qa (Qb K3 Z) Z (Qa (Qj Yo Z (h1.one 2 Z)) Z (Qv Tryz.call151 Z (c_LeastOf vxs xs x.op x.epoch x.key _ (hxs.ext E)) Z (fun _ w2 e2 hv=>?_))))))))))))))
 subst hv
 replace E:=E.trans e2;replace h1:=h1.ext e2
 have z2:=e2.size
 refine Qa (Qc Z) Z (Qa (Yv Z Z) Z (Qa (Yv Z Z) Z (Qa (Qe Z) Z (Qa (Qe Z) Z (Qd (Qf (Qh [true,true,true,true,true,true,true] Z Z (Qa (Qc Z) Z (Qa (Qc Z) Z (Y7 5 [(0,vxs),(1,.agg (Enc.enc x).toArray),(3,.pointer (some ⟨b1,0,none⟩)),(4,.slice none 0 0),(5,.bool false),(6,.int .i64 ((Y4 xs x.op x.epoch x.key).1)),(7,.bool ((Y4 xs x.op x.epoch x.key).2)),(9,.tuple [.int .i64 ((Y4 xs x.op x.epoch x.key).1),.bool ((Y4 xs x.op x.epoch x.key).2)].toArray),(10,vxs),(11,.pointer (some ⟨b1,0,none⟩)),(12,.int .i64 x.op),(13,.pointer (some ⟨b1,1,none⟩)),(14,.int .i64 x.epoch),(15,.pointer (some ⟨b1,2,none⟩)),(16,.int .i64 x.key),(17,.tuple [.int .i64 ((Y4 xs x.op x.epoch x.key).1),.bool ((Y4 xs x.op x.epoch x.key).2)].toArray),(18,.int .i64 ((Y4 xs x.op x.epoch x.key).1)),(19,.bool ((Y4 xs x.op x.epoch x.key).2)),(26,.bool (((Y4 xs x.op x.epoch x.key).2) && (decide (((Y4 xs x.op x.epoch x.key).1) ≤ x.val))))] (fun w'=>w2 = w') ?_ ?_))))))))))
 ·refine Y3 (gd:=21) Z Z (fun hg1=>?_) (fun hg1=>?_)
  ·refine Qm Z Z (Qc Z) Z (Qm Z Z (Qb Ul Z) Z (Qm Z Z (Qj Yo Z (h1.one 3 Z)) Z (Qm Z Z (Aw Z Z) Z (Qa (Qx Z Z) Z (Qp ⟨Z,Z,Z,Z,Z,Z,Z,Z,Z,Z,Z,Z,Z,Z,Z,Z,Z,Z,congrArg (fun b=>some (Value.bool b)) (show (decide (((Y4 xs x.op x.epoch x.key).1) ≤ x.val)) = (((Y4 xs x.op x.epoch x.key).2) && (decide (((Y4 xs x.op x.epoch x.key).1) ≤ x.val))) by first | (rw [hg1] <;> rfl) | (simp [hg1];done) | (simp only [Qo] <;> simp)),trivial⟩ Z)))))
  ·refine Qg Z Z Z Z (Qg Z Z Z Z (Qg Z Z Z Z (Qg Z Z Z Z (Qa (Qy Z Z) Z (Qp ⟨Z,Z,Z,Z,Z,Z,Z,Z,Z,Z,Z,Z,Z,Z,Z,Z,Z,Z,congrArg (fun b=>some (Value.bool b)) (show false = (((Y4 xs x.op x.epoch x.key).2) && (decide (((Y4 xs x.op x.epoch x.key).1) ≤ x.val))) by first | (rw [hg1] <;> rfl) | (simp [hg1];done) | (simp only [Qo] <;> simp)),trivial⟩ Z)))))
 rintro _ rfl
 refine Qd (Qs Z (fun hc1=>?_) (fun hc1=>?_))
 ·refine Qf (Qh [true,false,true,true] Z Z (Qa (Qc Z) Z (Qv Tryz.call108 Z (c_copyCells vxs xs _ (hxs.ext E) (by first | omega | (simp only [Qi];omega) | (rw [Qi];done) | (simp only [Qi];done))) Z (fun v1 w4 e3 ho1=>?_))))
  have g_ho1 : w.heap.size ≤ w2.heap.size:=E.size
  replace E:=E.trans e3;replace h1:=h1.ext e3
  have z3:=e3.size
  refine Qa (Qe Z) Z (Qa (Qe Z) Z (Qd (Qw (Y5 (l:=[.tmp 4,.tmp 5]) (vs:=[v1,.bool false]) Z ⟨.tmp Z,.tmp Z,trivial⟩ Z E ?_))))
  rw [Gy hc1]
  exact ⟨_,Z,Own.fin ho1 (by omega) (by omega) Z⟩
 ·refine Qn (Qf (Qh [true,false,true,false,true] Z Z (Qa (Qc Z) Z (Qv Tryz.call108 Z (c_copyCells vxs xs _ (hxs.ext E) (by first | omega | (simp only [Qi];omega) | (rw [Qi];done) | (simp only [Qi];done))) Z (fun v2 w5 e4 ho2=>?_)))))
  have g_ho2 : w.heap.size ≤ w2.heap.size:=E.size
  replace E:=E.trans e4;replace h1:=h1.ext e4
  have z4:=e4.size
  refine Qa (Dw Z Z) Z (Kj Tryz.call152 Z (by rfl) (c_DeleteFuncCell v2 w2.heap.size w5.heap.size xs (.func (.func 153) [].toArray [.pointer (some ⟨b1,0,none⟩)].toArray) ((fun (y : Cell)=>K6 x y)) _ ho2 ⟨153,[],[.pointer (some ⟨b1,0,none⟩)],Z,Tryz.call153,fun y wX eX=>c_better1 y b1 x wX (At.modR (Blk.at h1) eX (by omega))⟩ (by omega)) Z (fun v3 w6 e5 ho3=>?_))
  replace E:=E.stepR e5 (by omega);replace h1:=h1.modR e5 (by omega)
  have z5:=e5.size
  refine Qa (Qe Z) Z (Qd (Qf (Qh [true,true,false,true,true] Z Z (Qa (Qc Z) Z (Qa (Qt Xn Z h1.at Z) Z (Qv Tryz.call142 Z (c_PutCell v3 (List.filter (fun y=>!((fun (y : Cell)=>K6 x y) y)) xs) x _ (Own.rd (by decide) ho3) (Nat.le_trans (List.length_filter_le _ _) (by omega))) Z (fun v4 w7 e6 ho4=>?_)))))))
  have g_ho4 : w.heap.size ≤ w6.heap.size:=E.size
  replace E:=E.trans e6;replace h1:=h1.ext e6;replace ho3:=ho3.ext e6
  have z6:=e6.size
  refine Qa (Qe Z) Z (Qa (Qe Z) Z (Qd (Qw (Y5 (l:=[.tmp 4,.tmp 5]) (vs:=[v4,.bool true]) Z ⟨.tmp Z,.tmp Z,trivial⟩ Z E ?_))))
  rw [Tx hc1]
  exact ⟨_,Z,Own.fin ho4 (by omega) (by omega) Z⟩

set_option maxRecDepth 20000 in
theorem c_Recall (kind : Int) (vxs : Value) (xs : List Cell) (x : Cell) (w : World) (hxs : RdS w vxs xs) (hb : xs.length ≤ 4194304) : Ct Tryz.prog 117 [.int .i64 kind,vxs,.agg (Enc.enc x).toArray] w (fun v w'=>∃ u0,v = .tuple [u0,.bool ((X4 kind xs x).2)].toArray ∧ Own w' w.heap.size w'.heap.size 4 u0 (List.flatMap (Enc.enc (α:=Cell)) ((X4 kind xs x).1))):=by
 refine Yh Tryz.func117 Z Tryz.ntmps117 Z ?_
 refine Q7 [(0,.int .i64 kind),(1,vxs),(2,.agg (Enc.enc x).toArray)] ⟨Z,Z,Z,trivial⟩ ?_
 have E : Ext w w:=Ext.refl w
 refine Qf (Qh [false,true,true] Z Z (Y1 Z Z (fun b1 w1 e1 s1 h1=>?_)))
 have g_b1 : w.heap.size ≤ b1:=by have:=E.size;omega
 have y_b1:=h1.lt
 replace E:=E.trans e1
 have z1:=e1.size
 refine Qa (Qe Z) Z (Qa (Qe Z) Z (Qd (Qf (Qf (Qh [true] Z Z (Qa (Qc Z) Z (Qd (Q0 (Qf (Qf (Qh [true,true] Z Z (Qa (Y6 Z Z) Z (Qa (Qe Z) Z (Qd (Qs Z (fun hc1=>?_) (fun hc1=>?_))))))))))))))))
 ·refine Qn (Hq Z hc1 (Qf (Qh [true,true,false,true,true,true,true] Z Z (Qa (Qc Z) Z (Qa (Qt Xn Z h1.at Z) Z (Qv Tryz.call141 Z (c_better vxs xs x _ (hxs.ext E) (by first | omega | (simp only [Qi];omega) | (rw [Qi];done) | (simp only [Qi];done))) Z (fun _ w2 e2 ho1=>?_)))))))
  obtain ⟨v1,rfl,ho2⟩:=ho1
  have g_ho1 : w.heap.size ≤ w1.heap.size:=E.size
  replace E:=E.trans e2;replace h1:=h1.ext e2
  have z2:=e2.size
  refine Qa (Yv Z Z) Z (Qa (Yv Z Z) Z (Qa (Qe Z) Z (Qa (Qe Z) Z (Qd (Qw (Q2 (Y5 (l:=[.tmp 6,.tmp 7]) (vs:=[v1,.bool ((X3 xs x).2)]) Z ⟨.tmp Z,.tmp Z,trivial⟩ Z E ?_)))))))
  rw [Hf (.inl (by assumption))]
  exact ⟨_,Z,Own.fin ho2 (by omega) (by omega) Z⟩
 ·refine Qh [true,true] Z Z (Qa (Y6 Z Z) Z (Qa (Qe Z) Z (Qd (Qs Z (fun hc2=>?_) (fun hc2=>?_)))))
  ·refine Qf (Qh [true,true,false,true,true,true,true] Z Z (Qa (Qc Z) Z (Qa (Qt Xn Z h1.at Z) Z (Qv Tryz.call141 Z (c_better vxs xs x _ (hxs.ext E) (by first | omega | (simp only [Qi];omega) | (rw [Qi];done) | (simp only [Qi];done))) Z (fun _ w3 e3 ho3=>?_)))))
   obtain ⟨v2,rfl,ho4⟩:=ho3
   have g_ho3 : w.heap.size ≤ w1.heap.size:=E.size
   replace E:=E.trans e3;replace h1:=h1.ext e3
   have z3:=e3.size
   refine Qa (Yv Z Z) Z (Qa (Yv Z Z) Z (Qa (Qe Z) Z (Qa (Qe Z) Z (Qd (Qw (Q2 (Y5 (l:=[.tmp 6,.tmp 7]) (vs:=[v2,.bool ((X3 xs x).2)]) Z ⟨.tmp Z,.tmp Z,trivial⟩ Z E ?_)))))))
   rw [Hf (.inr (by assumption))]
   exact ⟨_,Z,Own.fin ho4 (by omega) (by omega) Z⟩
  ·refine Qf (Qh [true,true] Z Z (Qa (Y6 Z Z) Z (Qa (Qe Z) Z (Qd (Qs Z (fun hc3=>?_) (fun hc3=>?_))))))
   ·refine Qf (Xj Xi [(0,true),(1,true),(3,true),(4,true),(2,false),(5,false),(6,true),(7,true),(8,true)] (by decide +kernel) Z (fun w4 e4=>?_))
    replace E:=E.trans e4;replace h1:=h1.ext e4
    have z4:=e4.size
    refine Qa (Qc Z) Z (Qa (Qt Xn Z h1.at Z) Z (Qa (Qc Z) Z (Qa (Qt Xn Z h1.at Z) Z (Qv Tryz.call142 Z (c_PutCell vxs xs x _ (hxs.ext E) (by first | omega | (simp only [Qi];omega) | (rw [Qi];done) | (simp only [Qi];done))) Z (fun v3 w5 e5 ho5=>?_)))))
    have g_ho5 : w.heap.size ≤ w4.heap.size:=E.size
    replace E:=E.trans e5;replace h1:=h1.ext e5
    have z5:=e5.size
    refine Qv Tryz.call143 Z (c_HasCell vxs xs x _ (hxs.ext E)) Z (fun _ w6 e6 hv=>?_)
    subst hv
    replace E:=E.trans e6;replace h1:=h1.ext e6;replace ho5:=ho5.ext e6
    have z6:=e6.size
    refine Qa (Yq Z) Z (Qa (Qe Z) Z (Qa (Qe Z) Z (Qd (Qw (Q2 (Y5 (l:=[.tmp 6,.tmp 7]) (vs:=[v3,.bool (!(decide (x ∈ xs)))]) Z ⟨.tmp Z,.tmp Z,trivial⟩ Z E ?_))))))
    rw [A3 (by assumption)]
    exact ⟨_,Z,Own.fin ho5 (by omega) (by omega) Z⟩
   ·refine Qn (Q4 (Yr (Qf (Qh [true,false,true,true] Z Z (Qa (Qc Z) Z (Qv Tryz.call108 Z (c_copyCells vxs xs _ (hxs.ext E) (by first | omega | (simp only [Qi];omega) | (rw [Qi];done) | (simp only [Qi];done))) Z (fun v4 w7 e7 ho6=>?_)))))))
    have g_ho6 : w.heap.size ≤ w1.heap.size:=E.size
    replace E:=E.trans e7;replace h1:=h1.ext e7
    have z7:=e7.size
    refine Qa (Qe Z) Z (Qa (Qe Z) Z (Qd (Qw (Y5 (l:=[.tmp 6,.tmp 7]) (vs:=[v4,.bool true]) Z ⟨.tmp Z,.tmp Z,trivial⟩ Z E ?_))))
    rw [A2 (by assumption) (by assumption) (by assumption)]
    exact ⟨_,Z,Own.fin ho6 (by omega) (by omega) Z⟩

set_option maxHeartbeats 4000000 in
set_option maxRecDepth 20000 in
theorem s_Recall (kind : Int) (vxs : Value) (xs : List Cell) (x : Cell) (w : World) (hxs : RdS w vxs xs) (hb : xs.length ≤ 4194304) : Ct Tryz.prog 98 [.int .i64 kind,vxs,.agg (Enc.enc x).toArray] w (fun v w'=>∃ u0,v = .tuple [u0,.bool ((X4 kind xs x).2)].toArray ∧ Own w' w.heap.size w'.heap.size 4 u0 (List.flatMap (Enc.enc (α:=Cell)) ((X4 kind xs x).1))):=by
 refine Yh Tryz.func98 Z Tryz.ntmps98 Z ?_
 refine Q7 [(0,.int .i64 kind),(1,vxs),(2,.agg (Enc.enc x).toArray)] ⟨Z,Z,Z,trivial⟩ ?_
 have E : Ext w w:=Ext.refl w
 refine Qf (Qh [false,true,true] Z Z (Y1 Z Z (fun b1 w1 e1 s1 h1=>?_)))
 have g_b1 : w.heap.size ≤ b1:=by have:=E.size;omega
 have y_b1:=h1.lt
 replace E:=E.trans e1
 have z1:=e1.size
 refine Qa (Qe Z) Z (Qa (Qe Z) Z (Qd (Qf (Qh [false,true,false,true] Z Z (Yz (vs:=[]) (css:=[]) Xq Z Z trivial Z Z (fun b2 w2 e2 s2 h2=>?_))))))
 replace h2 : Blk w2 b2 []:=h2
 have g_b2 : w.heap.size ≤ b2:=by have:=E.size;omega
 have y_b2:=h2.lt
 replace E:=E.trans e2;replace h1:=h1.ext e2
 have z2:=e2.size
 refine Qa (Qc Z) Z (K8 Xq Z Z (Own.ofBlk (lo:=b2) (hi:=b2 + 1) (sz:=4) h2 (Nat.le_refl _) (Nat.lt_succ_self _) (by simp) (by simp [maxLen])) (RdS.src (hxs.ext E)) (Xe _) (by first | (simp only [Yb,List.length_nil,List.length_cons];simp only [Enc.sz];omega) | (have h:=Dq xs (fun y=>!(K6 x y)) k;simp only [show Enc.sz Cell = 4 from Z] at h;simp only [List.length_cons,List.length_nil];omega)) (by decide) (by omega) (by omega) Z Z (fun v1 w3 m1 ho1=>?_))
 replace E:=E.step m1 (fun g hg=>by have:=Own.blk (Own.ofBlk (lo:=b2) (hi:=b2 + 1) (sz:=4) h2 (Nat.le_refl _) (Nat.lt_succ_self _) (by simp) (by simp [maxLen])) g hg;omega);replace h1:=h1.mod m1 (fun g hg=>by have:=Own.blk (Own.ofBlk (lo:=b2) (hi:=b2 + 1) (sz:=4) h2 (Nat.le_refl _) (Nat.lt_succ_self _) (by simp) (by simp [maxLen])) g hg;omega)
 have z3:=m1.size
 refine Qa (Qe Z) Z (Qd (Qf (Qf (Qh [true] Z Z (Qa (Qc Z) Z (Qd (Q0 (Qf (Qh [true,true] Z Z (Qa (Y6 Z Z) Z (Qa (Qe Z) Z (Qd (Qs Z (fun hc1=>?_) (fun hc1=>?_))))))))))))))
 ·refine Qf (Qf (Qh [true,true,false] Z Z (Qa (Qc Z) Z (Qa (Qt Xn Z h1.at Z) Z (Qv Tryz.call129 Z (s_HasCell vxs xs x _ (hxs.ext E)) Z (fun _ w4 e3 hv=>?_))))))
  subst hv
  replace E:=E.trans e3;replace h1:=h1.ext e3;replace ho1:=ho1.ext e3
  have z4:=e3.size
  refine Qd (Qs Z (fun hc2=>?_) (fun hc2=>?_))
  ·refine Qf (Qh [true,true,true] Z Z (Qa (Qc Z) Z (Qa (Qe Z) Z (Qa (Qe Z) Z (Qd (Qw (Q2 (Y5 (l:=[.tmp 6,.tmp 7]) (vs:=[v1,.bool false]) Z ⟨.tmp Z,.tmp Z,trivial⟩ Z E ?_))))))))
   rw [recallM_h (by assumption) (by assumption)]
   exact ⟨_,Z,Own.fin ho1 (by omega) (by omega) (by first | rfl | simp only [List.nil_append])⟩
  ·refine Qn (Qf (Qh [true,true,false,true,true] Z Z (Qa (Qc Z) Z (Qa (Qt Xn Z h1.at Z) Z (Qv Tryz.call130 Z (s_PutCell vxs xs x _ (hxs.ext E) (by omega)) Z (fun v2 w5 e4 ho2=>?_))))))
   have g_ho2 : w.heap.size ≤ w4.heap.size:=E.size
   replace E:=E.trans e4;replace h1:=h1.ext e4;replace ho1:=ho1.ext e4
   have z5:=e4.size
   refine Qa (Qe Z) Z (Qa (Qe Z) Z (Qd (Qw (Q2 (Y5 (l:=[.tmp 6,.tmp 7]) (vs:=[v2,.bool true]) Z ⟨.tmp Z,.tmp Z,trivial⟩ Z E ?_)))))
   rw [recallM_i (by assumption) (by assumption)]
   exact ⟨_,Z,Own.fin ho2 (by omega) (by omega) (by first | rfl | simp only [List.nil_append])⟩
 ·refine Qf (Qf (Qh [true,true] Z Z (Qa (Y6 Z Z) Z (Qa (Qe Z) Z (Qd (Qs Z (fun hc3=>?_) (fun hc3=>?_)))))))
  ·refine Qn (Hq Z hc3 (Qf (Qh [true,true,true,true,true,true,true,false,true,true,true,true,true] Z Z (Qa (Qc Z) Z (Qa (Qb K5 Z) Z (Qa (Qj Yo Z (h1.one 0 Z)) Z (Qa (Qb K4 Z) Z (Qa (Qj Yo Z (h1.one 1 Z)) Z (Qa (Qb K3 Z) Z (Qa (Qj Yo Z (h1.one 2 Z)) Z (Qv Tryz.call131 Z (s_LeastOf vxs xs x.op x.epoch x.key _ (hxs.ext E)) Z (fun _ w6 e5 hv=>?_))))))))))))
   subst hv
   replace E:=E.trans e5;replace h1:=h1.ext e5;replace ho1:=ho1.ext e5
   have z6:=e5.size
   refine Qa (Qc Z) Z (Qa (Yv Z Z) Z (Qa (Yv Z Z) Z (Qa (Qe Z) Z (Qa (Qe Z) Z (Qd (Qf (Qf (Qh [true,true,true,true,true,true,true] Z Z (Qa (Qc Z) Z (Qa (Qc Z) Z (Y7 5 [(0,.int .i64 kind),(1,vxs),(2,.agg (Enc.enc x).toArray),(5,.pointer (some ⟨b1,0,none⟩)),(6,.slice none 0 0),(7,.bool false),(8,v1),(9,.int .i64 ((Y4 xs x.op x.epoch x.key).1)),(10,.bool ((Y4 xs x.op x.epoch x.key).2)),(13,.slice (some ⟨b2,0,none⟩) 0 0),(14,vxs),(15,v1),(16,.int .i64 kind),(17,.bool (kind == 6)),(18,.bool (kind == 6)),(26,.bool (kind == 5)),(27,.bool (kind == 5)),(29,.tuple [.int .i64 ((Y4 xs x.op x.epoch x.key).1),.bool ((Y4 xs x.op x.epoch x.key).2)].toArray),(30,vxs),(31,.pointer (some ⟨b1,0,none⟩)),(32,.int .i64 x.op),(33,.pointer (some ⟨b1,1,none⟩)),(34,.int .i64 x.epoch),(35,.pointer (some ⟨b1,2,none⟩)),(36,.int .i64 x.key),(37,.tuple [.int .i64 ((Y4 xs x.op x.epoch x.key).1),.bool ((Y4 xs x.op x.epoch x.key).2)].toArray),(38,.int .i64 ((Y4 xs x.op x.epoch x.key).1)),(39,.bool ((Y4 xs x.op x.epoch x.key).2)),(46,.bool (((Y4 xs x.op x.epoch x.key).2) && (decide (((Y4 xs x.op x.epoch x.key).1) ≤ x.val))))] (fun w'=>w6 = w') ?_ ?_)))))))))))
   ·refine Y3 (gd:=41) Z Z (fun hg1=>?_) (fun hg1=>?_)
    ·refine Qm Z Z (Qc Z) Z (Qm Z Z (Qb Ul Z) Z (Qm Z Z (Qj Yo Z (h1.one 3 Z)) Z (Qm Z Z (Aw Z Z) Z (Qa (Qx Z Z) Z (Qp ⟨Z,Z,Z,Z,Z,Z,Z,Z,Z,Z,Z,Z,Z,Z,Z,Z,Z,Z,Z,Z,Z,Z,Z,Z,Z,Z,Z,Z,congrArg (fun b=>some (Value.bool b)) (show (decide (((Y4 xs x.op x.epoch x.key).1) ≤ x.val)) = (((Y4 xs x.op x.epoch x.key).2) && (decide (((Y4 xs x.op x.epoch x.key).1) ≤ x.val))) by first | (rw [hg1] <;> rfl) | (simp [hg1];done) | (simp only [Qo] <;> simp)),trivial⟩ Z)))))
    ·refine Qg Z Z Z Z (Qg Z Z Z Z (Qg Z Z Z Z (Qg Z Z Z Z (Qa (Qy Z Z) Z (Qp ⟨Z,Z,Z,Z,Z,Z,Z,Z,Z,Z,Z,Z,Z,Z,Z,Z,Z,Z,Z,Z,Z,Z,Z,Z,Z,Z,Z,Z,congrArg (fun b=>some (Value.bool b)) (show false = (((Y4 xs x.op x.epoch x.key).2) && (decide (((Y4 xs x.op x.epoch x.key).1) ≤ x.val))) by first | (rw [hg1] <;> rfl) | (simp [hg1];done) | (simp only [Qo] <;> simp)),trivial⟩ Z)))))
   rintro _ rfl
   refine Qd (Qs Z (fun hc4=>?_) (fun hc4=>?_))
   ·refine Qf (Qh [true,true,true] Z Z (Qa (Qc Z) Z (Qa (Qe Z) Z (Qa (Qe Z) Z (Qd (Qw (Q2 (Y5 (l:=[.tmp 6,.tmp 7]) (vs:=[v1,.bool false]) Z ⟨.tmp Z,.tmp Z,trivial⟩ Z E ?_))))))))
    rw [Hf (.inl (by assumption)),Gy (by assumption)]
    exact ⟨_,Z,Own.fin ho1 (by omega) (by omega) (by first | rfl | simp only [List.nil_append])⟩
   ·refine Qn (Qf (Qh [false,true] Z Z (Yz (vs:=[]) (css:=[]) Xq Z Z trivial Z Z (fun b3 w8 e6 s3 h3=>?_))))
    replace h3 : Blk w8 b3 []:=h3
    have g_b3 : w.heap.size ≤ b3:=by have:=E.size;omega
    have y_b3:=h3.lt
    replace E:=E.trans e6;replace h1:=h1.ext e6;replace ho1:=ho1.ext e6
    have z7:=e6.size
    refine Qa (Qe Z) Z (Qd (Qf (Qf (Qh [true] Z Z (Qa (Qe Z) Z (Qd (Q0 (Ym (fun (xq : Nat × Value)=>let ⟨k,vo⟩:=xq;[(1,vxs),(5,.pointer (some ⟨b1,0,none⟩)),(6,.slice none 0 0),(7,.bool false),(8,v1),(11,vo),(12,.int .i64 ((k : Nat) : Int))]) (fun (xq : Nat × Value) w'=>let ⟨k,vo⟩:=xq;Ext w w' ∧ w8.heap.size ≤ w'.heap.size ∧ Blk w' b1 (Enc.enc x) ∧ Own w' b2 w3.heap.size 4 v1 ([] ++ List.flatMap (Enc.enc (α:=Cell)) xs) ∧ k ≤ xs.length ∧ Own w' b3 w'.heap.size 4 vo (List.flatMap (Enc.enc (α:=Cell)) ((xs.take k).filter (fun y=>!(K6 x y))))) (fun (xq : Nat × Value)=>let ⟨k,vo⟩:=xq;xs.length - k) (0,.slice (some ⟨b3,0,none⟩) 0 0) ⟨Z,Z,Z,Z,Z,Z,Z,trivial⟩ ⟨E,Nat.le_refl _,h1,ho1,Nat.zero_le _,Own.fin (Own.ofBlk (lo:=b3) (hi:=b3 + 1) (sz:=4) h3 (Nat.le_refl _) (Nat.lt_succ_self _) (by simp) (by simp [maxLen])) (by have:=E.size;omega) (by omega) Z⟩ ?_))))))))
    clear E h1 ho1 h3
    rintro ⟨k,vo⟩ w9 ⟨E,z8,h1,ho1,hk,ho⟩
    refine Q7 [(1,vxs),(5,.pointer (some ⟨b1,0,none⟩)),(6,.slice none 0 0),(7,.bool false),(8,v1),(11,vo),(12,.int .i64 ((k : Nat) : Int))] ⟨Z,Z,Z,Z,Z,Z,Z,trivial⟩ ?_
    refine Qf (Qf (Qh [true,true,true,true] Z Z (Qa (Qc Z) Z (Qa (Qc Z) Z (Qa (Ya Tryz.underlying65 Z (hxs.ext E).len) Z (Qa (Yf Z Z) Z (Qd (Qs Z (fun hc5=>?_) (fun hc5=>?_)))))))))
    ·have hc5n : k < xs.length:=by first | (have h:=of_decide_eq_true hc5;omega) | (have h:=hc5;simp at h;omega)
     refine Qn (Qf (Q0 (Qf (Xj Xi [(0,true),(1,true),(2,true),(3,true),(4,true),(5,true),(6,true),(7,true),(8,true),(9,true),(10,true),(11,true),(12,true),(13,true),(14,true),(15,true),(16,true),(17,true),(18,true),(19,true),(20,true),(21,true),(22,true),(23,true),(24,true),(25,true),(26,true),(27,true)] (by decide +kernel) Z (fun w10 e7=>?_)))))
     replace E:=E.trans e7;replace h1:=h1.ext e7;replace ho1:=ho1.ext e7;replace ho:=ho.ext e7
     have z9:=e7.size
     refine Qa (Qc Z) Z (Qa (Qc Z) Z ?_)
     have hi1 : k < xs.length:=(by first | assumption | omega | (simp only [List.length_set];first | assumption | omega))
     refine Qa (Q1 (i:=k) Xq Z Z (hxs.ext E) hi1) Z (Qa (Qz K5 Z) Z (Qa (Qj Yo Z (((hxs.ext E).get hi1).one 0 Z)) Z (Qa (Qb K5 Z) Z (Qa (Qj Yo Z (h1.one 0 Z)) Z (Qa (Yu Z Z) Z (Qa (Qc Z) Z (Y7 19 [(1,vxs),(5,.pointer (some ⟨b1,0,none⟩)),(6,.slice none 0 0),(7,.bool false),(8,v1),(11,vo),(12,.int .i64 ((k : Nat) : Int)),(49,.int .i64 ((k : Nat) : Int)),(50,vxs),(51,.int .i64 ((xs.length : Nat) : Int)),(52,.bool (decide (((k : Nat) : Int) < ((xs.length : Nat) : Int)))),(82,.bool (((((xs[k]'hi1).op) != x.op) || (((xs[k]'hi1).epoch) != x.epoch)) || (((xs[k]'hi1).key) != x.key)))] (fun w'=>w10 = w') ?_ ?_)))))))
     ·refine Y3 (gd:=63) Z Z (fun hg2=>?_) (fun hg2=>?_)
      ·refine Qg Z Z Z Z (Qg Z Z Z Z (Qg Z Z Z Z (Qg Z Z Z Z (Qg Z Z Z Z (Qg Z Z Z Z (Qg Z Z Z Z (Qg Z Z Z Z (Qa (Qx Z Z) Z (Qa (Qc Z) Z (Qg Z Z Z Z (Qg Z Z Z Z (Qg Z Z Z Z (Qg Z Z Z Z (Qg Z Z Z Z (Qg Z Z Z Z (Qg Z Z Z Z (Qg Z Z Z Z (Qa (Qx Z Z) Z (Qp ⟨Z,Z,Z,Z,Z,Z,Z,Z,Z,Z,Z,congrArg (fun b=>some (Value.bool b)) (show true = (((((xs[k]'hi1).op) != x.op) || (((xs[k]'hi1).epoch) != x.epoch)) || (((xs[k]'hi1).key) != x.key)) by first | (rw [hg2] <;> rfl) | (simp [hg2];done) | (simp only [Qo] <;> simp)),trivial⟩ Z)))))))))))))))))))
      ·refine Qm Z Z (Qc Z) Z (Qm Z Z (Qc Z) Z (Qm Z Z (Q1 (i:=k) Xq Z Z (hxs.ext E) hi1) Z (Qm Z Z (Qz K4 Z) Z (Qm Z Z (Qj Yo Z (((hxs.ext E).get hi1).one 1 Z)) Z (Qm Z Z (Qb K4 Z) Z (Qm Z Z (Qj Yo Z (h1.one 1 Z)) Z (Qm Z Z (Yu Z Z) Z (Qa (Qy Z Z) Z (Qa (Qc Z) Z ?_)))))))))
       refine Y3 (gd:=73) Z Z (fun hg3=>?_) (fun hg3=>?_)
       ·refine Qg Z Z Z Z (Qg Z Z Z Z (Qg Z Z Z Z (Qg Z Z Z Z (Qg Z Z Z Z (Qg Z Z Z Z (Qg Z Z Z Z (Qg Z Z Z Z (Qa (Qx Z Z) Z (Qp ⟨Z,Z,Z,Z,Z,Z,Z,Z,Z,Z,Z,congrArg (fun b=>some (Value.bool b)) (show true = (((((xs[k]'hi1).op) != x.op) || (((xs[k]'hi1).epoch) != x.epoch)) || (((xs[k]'hi1).key) != x.key)) by first | (rw [hg2,hg3] <;> rfl) | (simp [hg2,hg3];done) | (simp only [Qo] <;> simp)),trivial⟩ Z)))))))))
       ·refine Qm Z Z (Qc Z) Z (Qm Z Z (Qc Z) Z (Qm Z Z (Q1 (i:=k) Xq Z Z (hxs.ext E) hi1) Z (Qm Z Z (Qz K3 Z) Z (Qm Z Z (Qj Yo Z (((hxs.ext E).get hi1).one 2 Z)) Z (Qm Z Z (Qb K3 Z) Z (Qm Z Z (Qj Yo Z (h1.one 2 Z)) Z (Qm Z Z (Yu Z Z) Z (Qa (Qy Z Z) Z (Qp ⟨Z,Z,Z,Z,Z,Z,Z,Z,Z,Z,Z,congrArg (fun b=>some (Value.bool b)) (show (((xs[k]'hi1).key) != x.key) = (((((xs[k]'hi1).op) != x.op) || (((xs[k]'hi1).epoch) != x.epoch)) || (((xs[k]'hi1).key) != x.key)) by first | (rw [hg2,hg3] <;> rfl) | (simp [hg2,hg3];done) | (simp only [Qo] <;> simp)),trivial⟩ Z)))))))))
     rintro _ rfl
     refine Qd (Qs Z (fun hc6=>?_) (fun hc6=>?_))
     ·refine Qh [true,true,true,true,true,false,false,true] Z Z (Qa (Qc Z) Z (Qa (Qc Z) Z (Qa (Qc Z) Z (Qa (Q1 (i:=k) Xq Z Z (hxs.ext E) hi1) Z (Qa (Qt Xn Z ((hxs.ext E).get hi1) Z) Z (Yz (vs:=[.agg (Enc.enc (xs[k]'hi1)).toArray]) (css:=[[.int .i64 ((xs[k]'hi1).op),.int .i64 ((xs[k]'hi1).epoch),.int .i64 ((xs[k]'hi1).key),.int .i64 ((xs[k]'hi1).val)]]) Xq Z Z ⟨⟨Z,Z⟩,trivial⟩ Z Z (fun b4 w12 e8 s4 h4=>?_)))))))
      replace h4 : Blk w12 b4 [.int .i64 ((xs[k]'hi1).op),.int .i64 ((xs[k]'hi1).epoch),.int .i64 ((xs[k]'hi1).key),.int .i64 ((xs[k]'hi1).val)]:=h4
      have g_b4 : w.heap.size ≤ b4:=by have:=E.size;omega
      have y_b4:=h4.lt
      replace E:=E.trans e8;replace h1:=h1.ext e8;replace ho1:=ho1.ext e8;replace ho:=ho.ext e8
      have z10:=e8.size
      refine K8 Xq Z Z ho (Src.ofBlk h4 Z) Z (by first | (simp only [Yb,List.length_nil,List.length_cons];simp only [Enc.sz];omega) | (have h:=Dq xs (fun y=>!(K6 x y)) k;simp only [show Enc.sz Cell = 4 from Z] at h;simp only [List.length_cons,List.length_nil];omega)) (by decide) (by omega) (by omega) Z Z (fun v3 w13 m2 ho3=>?_)
      replace E:=E.step m2 (fun g hg=>by have:=Own.blk ho g hg;omega);replace h1:=h1.mod m2 (fun g hg=>by have:=Own.blk ho g hg;omega);replace ho1:=ho1.mod m2 (fun g hg=>by have:=Own.blk ho g hg;omega)
      have z11:=m2.size
      refine Qa (Qe Z) Z (Qd (Q4 (Yr (Qh [true,true,true] Z Z (Qa (Qc Z) Z (Qa (Q8 Z Z (Yt hc5n hxs.1)) Z (Qa (Qe Z) Z (Qd (Q4 (Yc (k + 1,v3) (by simp;omega) ⟨Z,Z,Z,Z,Z,Z,Z,trivial⟩ ⟨E,(by omega),h1,ho1,(by omega),Own.fin ho3 (Nat.le_refl _) (by omega) (filt_yes (by assumption) (ns_yes (by assumption)))⟩))))))))))
     ·refine Qn (Q4 (Yr (Qh [true,true,true] Z Z (Qa (Qc Z) Z (Qa (Q8 Z Z (Yt hc5n hxs.1)) Z (Qa (Qe Z) Z (Qd (Q4 (Yc (k + 1,vo) (by simp;omega) ⟨Z,Z,Z,Z,Z,Z,Z,trivial⟩ ⟨E,(by omega),h1,ho1,(by omega),Own.fin ho (Nat.le_refl _) (by omega) (filt_no (by assumption) (ns_no (by assumption)))⟩)))))))))
    ·have hc5n : ¬ k < xs.length:=by first | (have h:=of_decide_eq_false hc5;omega) | (have h:=hc5;simp at h;omega)
     refine Yn (Q5 (Q3 ?_))
     refine Qf (Qh [true,true,false,true,true] Z Z (Qa (Qc Z) Z (Qa (Qt Xn Z h1.at Z) Z (Qv Tryz.call130 Z (s_PutCell vo ((xs.take k).filter (fun y=>!(K6 x y))) x _ (Own.rd (by decide) ho) (by have h1:=List.length_filter_le (fun y=>!(K6 x y)) (xs.take k);simp only [List.length_take] at h1;omega)) Z (fun v4 w14 e9 ho4=>?_)))))
     have g_ho4 : w.heap.size ≤ w9.heap.size:=E.size
     replace E:=E.trans e9;replace h1:=h1.ext e9;replace ho1:=ho1.ext e9;replace ho:=ho.ext e9
     have z12:=e9.size
     refine Qa (Qe Z) Z (Qa (Qe Z) Z (Qd (Qw (Q2 (Y5 (l:=[.tmp 6,.tmp 7]) (vs:=[v4,.bool true]) Z ⟨.tmp Z,.tmp Z,trivial⟩ Z E ?_)))))
     rw [Hf (.inl (by assumption)),Tx (by assumption)]
     exact ⟨_,Z,Own.fin ho4 (by omega) (by omega) (by simp only [List.nil_append,List.take_of_length_le (show xs.length ≤ k by omega)] <;> rfl)⟩
  ·refine Qh [true,true] Z Z (Qa (Y6 Z Z) Z (Qa (Qe Z) Z (Qd (Qs Z (fun hc7=>?_) (fun hc7=>?_)))))
   ·refine Qf (Qh [true,true,true,true,true,true,true,false,true,true,true,true,true] Z Z (Qa (Qc Z) Z (Qa (Qb K5 Z) Z (Qa (Qj Yo Z (h1.one 0 Z)) Z (Qa (Qb K4 Z) Z (Qa (Qj Yo Z (h1.one 1 Z)) Z (Qa (Qb K3 Z) Z (Qa (Qj Yo Z (h1.one 2 Z)) Z (Qv Tryz.call131 Z (s_LeastOf vxs xs x.op x.epoch x.key _ (hxs.ext E)) Z (fun _ w15 e10 hv=>?_))))))))))
    subst hv
    replace E:=E.trans e10;replace h1:=h1.ext e10;replace ho1:=ho1.ext e10
    have z13:=e10.size
    refine Qa (Qc Z) Z (Qa (Yv Z Z) Z (Qa (Yv Z Z) Z (Qa (Qe Z) Z (Qa (Qe Z) Z (Qd (Qf (Qf (Qh [true,true,true,true,true,true,true] Z Z (Qa (Qc Z) Z (Qa (Qc Z) Z (Y7 5 [(0,.int .i64 kind),(1,vxs),(2,.agg (Enc.enc x).toArray),(5,.pointer (some ⟨b1,0,none⟩)),(6,.slice none 0 0),(7,.bool false),(8,v1),(9,.int .i64 ((Y4 xs x.op x.epoch x.key).1)),(10,.bool ((Y4 xs x.op x.epoch x.key).2)),(13,.slice (some ⟨b2,0,none⟩) 0 0),(14,vxs),(15,v1),(16,.int .i64 kind),(17,.bool (kind == 6)),(18,.bool (kind == 6)),(26,.bool (kind == 8)),(27,.bool (kind == 5)),(28,.bool (kind == 8)),(29,.tuple [.int .i64 ((Y4 xs x.op x.epoch x.key).1),.bool ((Y4 xs x.op x.epoch x.key).2)].toArray),(30,vxs),(31,.pointer (some ⟨b1,0,none⟩)),(32,.int .i64 x.op),(33,.pointer (some ⟨b1,1,none⟩)),(34,.int .i64 x.epoch),(35,.pointer (some ⟨b1,2,none⟩)),(36,.int .i64 x.key),(37,.tuple [.int .i64 ((Y4 xs x.op x.epoch x.key).1),.bool ((Y4 xs x.op x.epoch x.key).2)].toArray),(38,.int .i64 ((Y4 xs x.op x.epoch x.key).1)),(39,.bool ((Y4 xs x.op x.epoch x.key).2)),(46,.bool (((Y4 xs x.op x.epoch x.key).2) && (decide (((Y4 xs x.op x.epoch x.key).1) ≤ x.val))))] (fun w'=>w15 = w') ?_ ?_)))))))))))
    ·refine Y3 (gd:=41) Z Z (fun hg4=>?_) (fun hg4=>?_)
     ·refine Qm Z Z (Qc Z) Z (Qm Z Z (Qb Ul Z) Z (Qm Z Z (Qj Yo Z (h1.one 3 Z)) Z (Qm Z Z (Aw Z Z) Z (Qa (Qx Z Z) Z (Qp ⟨Z,Z,Z,Z,Z,Z,Z,Z,Z,Z,Z,Z,Z,Z,Z,Z,Z,Z,Z,Z,Z,Z,Z,Z,Z,Z,Z,Z,Z,congrArg (fun b=>some (Value.bool b)) (show (decide (((Y4 xs x.op x.epoch x.key).1) ≤ x.val)) = (((Y4 xs x.op x.epoch x.key).2) && (decide (((Y4 xs x.op x.epoch x.key).1) ≤ x.val))) by first | (rw [hg4] <;> rfl) | (simp [hg4];done) | (simp only [Qo] <;> simp)),trivial⟩ Z)))))
     ·refine Qg Z Z Z Z (Qg Z Z Z Z (Qg Z Z Z Z (Qg Z Z Z Z (Qa (Qy Z Z) Z (Qp ⟨Z,Z,Z,Z,Z,Z,Z,Z,Z,Z,Z,Z,Z,Z,Z,Z,Z,Z,Z,Z,Z,Z,Z,Z,Z,Z,Z,Z,Z,congrArg (fun b=>some (Value.bool b)) (show false = (((Y4 xs x.op x.epoch x.key).2) && (decide (((Y4 xs x.op x.epoch x.key).1) ≤ x.val))) by first | (rw [hg4] <;> rfl) | (simp [hg4];done) | (simp only [Qo] <;> simp)),trivial⟩ Z)))))
    rintro _ rfl
    refine Qd (Qs Z (fun hc8=>?_) (fun hc8=>?_))
    ·refine Qf (Qh [true,true,true] Z Z (Qa (Qc Z) Z (Qa (Qe Z) Z (Qa (Qe Z) Z (Qd (Qw (Q2 (Y5 (l:=[.tmp 6,.tmp 7]) (vs:=[v1,.bool false]) Z ⟨.tmp Z,.tmp Z,trivial⟩ Z E ?_))))))))
     rw [Hf (.inr (by assumption)),Gy (by assumption)]
     exact ⟨_,Z,Own.fin ho1 (by omega) (by omega) (by first | rfl | simp only [List.nil_append])⟩
    ·refine Qn (Qf (Qh [false,true] Z Z (Yz (vs:=[]) (css:=[]) Xq Z Z trivial Z Z (fun b5 w17 e11 s5 h5=>?_))))
     replace h5 : Blk w17 b5 []:=h5
     have g_b5 : w.heap.size ≤ b5:=by have:=E.size;omega
     have y_b5:=h5.lt
     replace E:=E.trans e11;replace h1:=h1.ext e11;replace ho1:=ho1.ext e11
     have z14:=e11.size
     refine Qa (Qe Z) Z (Qd (Qf (Qf (Qh [true] Z Z (Qa (Qe Z) Z (Qd (Q0 (Ym (fun (xq : Nat × Value)=>let ⟨k,vo⟩:=xq;[(1,vxs),(5,.pointer (some ⟨b1,0,none⟩)),(6,.slice none 0 0),(7,.bool false),(8,v1),(11,vo),(12,.int .i64 ((k : Nat) : Int))]) (fun (xq : Nat × Value) w'=>let ⟨k,vo⟩:=xq;Ext w w' ∧ w17.heap.size ≤ w'.heap.size ∧ Blk w' b1 (Enc.enc x) ∧ Own w' b2 w3.heap.size 4 v1 ([] ++ List.flatMap (Enc.enc (α:=Cell)) xs) ∧ k ≤ xs.length ∧ Own w' b5 w'.heap.size 4 vo (List.flatMap (Enc.enc (α:=Cell)) ((xs.take k).filter (fun y=>!(K6 x y))))) (fun (xq : Nat × Value)=>let ⟨k,vo⟩:=xq;xs.length - k) (0,.slice (some ⟨b5,0,none⟩) 0 0) ⟨Z,Z,Z,Z,Z,Z,Z,trivial⟩ ⟨E,Nat.le_refl _,h1,ho1,Nat.zero_le _,Own.fin (Own.ofBlk (lo:=b5) (hi:=b5 + 1) (sz:=4) h5 (Nat.le_refl _) (Nat.lt_succ_self _) (by simp) (by simp [maxLen])) (by have:=E.size;omega) (by omega) Z⟩ ?_))))))))
     clear E h1 ho1 h5
     rintro ⟨k,vo⟩ w18 ⟨E,z15,h1,ho1,hk,ho⟩
     refine Q7 [(1,vxs),(5,.pointer (some ⟨b1,0,none⟩)),(6,.slice none 0 0),(7,.bool false),(8,v1),(11,vo),(12,.int .i64 ((k : Nat) : Int))] ⟨Z,Z,Z,Z,Z,Z,Z,trivial⟩ ?_
     refine Qf (Qf (Qh [true,true,true,true] Z Z (Qa (Qc Z) Z (Qa (Qc Z) Z (Qa (Ya Tryz.underlying65 Z (hxs.ext E).len) Z (Qa (Yf Z Z) Z (Qd (Qs Z (fun hc9=>?_) (fun hc9=>?_)))))))))
     ·have hc9n : k < xs.length:=by first | (have h:=of_decide_eq_true hc9;omega) | (have h:=hc9;simp at h;omega)
      refine Qn (Qf (Q0 (Qf (Xj Xi [(0,true),(1,true),(2,true),(3,true),(4,true),(5,true),(6,true),(7,true),(8,true),(9,true),(10,true),(11,true),(12,true),(13,true),(14,true),(15,true),(16,true),(17,true),(18,true),(19,true),(20,true),(21,true),(22,true),(23,true),(24,true),(25,true),(26,true),(27,true)] (by decide +kernel) Z (fun w19 e12=>?_)))))
      replace E:=E.trans e12;replace h1:=h1.ext e12;replace ho1:=ho1.ext e12;replace ho:=ho.ext e12
      have z16:=e12.size
      refine Qa (Qc Z) Z (Qa (Qc Z) Z ?_)
      have hi2 : k < xs.length:=(by first | assumption | omega | (simp only [List.length_set];first | assumption | omega))
      refine Qa (Q1 (i:=k) Xq Z Z (hxs.ext E) hi2) Z (Qa (Qz K5 Z) Z (Qa (Qj Yo Z (((hxs.ext E).get hi2).one 0 Z)) Z (Qa (Qb K5 Z) Z (Qa (Qj Yo Z (h1.one 0 Z)) Z (Qa (Yu Z Z) Z (Qa (Qc Z) Z (Y7 19 [(1,vxs),(5,.pointer (some ⟨b1,0,none⟩)),(6,.slice none 0 0),(7,.bool false),(8,v1),(11,vo),(12,.int .i64 ((k : Nat) : Int)),(49,.int .i64 ((k : Nat) : Int)),(50,vxs),(51,.int .i64 ((xs.length : Nat) : Int)),(52,.bool (decide (((k : Nat) : Int) < ((xs.length : Nat) : Int)))),(82,.bool (((((xs[k]'hi2).op) != x.op) || (((xs[k]'hi2).epoch) != x.epoch)) || (((xs[k]'hi2).key) != x.key)))] (fun w'=>w19 = w') ?_ ?_)))))))
      ·refine Y3 (gd:=63) Z Z (fun hg5=>?_) (fun hg5=>?_)
       ·refine Qg Z Z Z Z (Qg Z Z Z Z (Qg Z Z Z Z (Qg Z Z Z Z (Qg Z Z Z Z (Qg Z Z Z Z (Qg Z Z Z Z (Qg Z Z Z Z (Qa (Qx Z Z) Z (Qa (Qc Z) Z (Qg Z Z Z Z (Qg Z Z Z Z (Qg Z Z Z Z (Qg Z Z Z Z (Qg Z Z Z Z (Qg Z Z Z Z (Qg Z Z Z Z (Qg Z Z Z Z (Qa (Qx Z Z) Z (Qp ⟨Z,Z,Z,Z,Z,Z,Z,Z,Z,Z,Z,congrArg (fun b=>some (Value.bool b)) (show true = (((((xs[k]'hi2).op) != x.op) || (((xs[k]'hi2).epoch) != x.epoch)) || (((xs[k]'hi2).key) != x.key)) by first | (rw [hg5] <;> rfl) | (simp [hg5];done) | (simp only [Qo] <;> simp)),trivial⟩ Z)))))))))))))))))))
       ·refine Qm Z Z (Qc Z) Z (Qm Z Z (Qc Z) Z (Qm Z Z (Q1 (i:=k) Xq Z Z (hxs.ext E) hi2) Z (Qm Z Z (Qz K4 Z) Z (Qm Z Z (Qj Yo Z (((hxs.ext E).get hi2).one 1 Z)) Z (Qm Z Z (Qb K4 Z) Z (Qm Z Z (Qj Yo Z (h1.one 1 Z)) Z (Qm Z Z (Yu Z Z) Z (Qa (Qy Z Z) Z (Qa (Qc Z) Z ?_)))))))))
        refine Y3 (gd:=73) Z Z (fun hg6=>?_) (fun hg6=>?_)
        ·refine Qg Z Z Z Z (Qg Z Z Z Z (Qg Z Z Z Z (Qg Z Z Z Z (Qg Z Z Z Z (Qg Z Z Z Z (Qg Z Z Z Z (Qg Z Z Z Z (Qa (Qx Z Z) Z (Qp ⟨Z,Z,Z,Z,Z,Z,Z,Z,Z,Z,Z,congrArg (fun b=>some (Value.bool b)) (show true = (((((xs[k]'hi2).op) != x.op) || (((xs[k]'hi2).epoch) != x.epoch)) || (((xs[k]'hi2).key) != x.key)) by first | (rw [hg5,hg6] <;> rfl) | (simp [hg5,hg6];done) | (simp only [Qo] <;> simp)),trivial⟩ Z)))))))))
        ·refine Qm Z Z (Qc Z) Z (Qm Z Z (Qc Z) Z (Qm Z Z (Q1 (i:=k) Xq Z Z (hxs.ext E) hi2) Z (Qm Z Z (Qz K3 Z) Z (Qm Z Z (Qj Yo Z (((hxs.ext E).get hi2).one 2 Z)) Z (Qm Z Z (Qb K3 Z) Z (Qm Z Z (Qj Yo Z (h1.one 2 Z)) Z (Qm Z Z (Yu Z Z) Z (Qa (Qy Z Z) Z (Qp ⟨Z,Z,Z,Z,Z,Z,Z,Z,Z,Z,Z,congrArg (fun b=>some (Value.bool b)) (show (((xs[k]'hi2).key) != x.key) = (((((xs[k]'hi2).op) != x.op) || (((xs[k]'hi2).epoch) != x.epoch)) || (((xs[k]'hi2).key) != x.key)) by first | (rw [hg5,hg6] <;> rfl) | (simp [hg5,hg6];done) | (simp only [Qo] <;> simp)),trivial⟩ Z)))))))))
      rintro _ rfl
      refine Qd (Qs Z (fun hc10=>?_) (fun hc10=>?_))
      ·refine Qh [true,true,true,true,true,false,false,true] Z Z (Qa (Qc Z) Z (Qa (Qc Z) Z (Qa (Qc Z) Z (Qa (Q1 (i:=k) Xq Z Z (hxs.ext E) hi2) Z (Qa (Qt Xn Z ((hxs.ext E).get hi2) Z) Z (Yz (vs:=[.agg (Enc.enc (xs[k]'hi2)).toArray]) (css:=[[.int .i64 ((xs[k]'hi2).op),.int .i64 ((xs[k]'hi2).epoch),.int .i64 ((xs[k]'hi2).key),.int .i64 ((xs[k]'hi2).val)]]) Xq Z Z ⟨⟨Z,Z⟩,trivial⟩ Z Z (fun b6 w21 e13 s6 h6=>?_)))))))
       replace h6 : Blk w21 b6 [.int .i64 ((xs[k]'hi2).op),.int .i64 ((xs[k]'hi2).epoch),.int .i64 ((xs[k]'hi2).key),.int .i64 ((xs[k]'hi2).val)]:=h6
       have g_b6 : w.heap.size ≤ b6:=by have:=E.size;omega
       have y_b6:=h6.lt
       replace E:=E.trans e13;replace h1:=h1.ext e13;replace ho1:=ho1.ext e13;replace ho:=ho.ext e13
       have z17:=e13.size
       refine K8 Xq Z Z ho (Src.ofBlk h6 Z) Z (by first | (simp only [Yb,List.length_nil,List.length_cons];simp only [Enc.sz];omega) | (have h:=Dq xs (fun y=>!(K6 x y)) k;simp only [show Enc.sz Cell = 4 from Z] at h;simp only [List.length_cons,List.length_nil];omega)) (by decide) (by omega) (by omega) Z Z (fun v5 w22 m3 ho5=>?_)
       replace E:=E.step m3 (fun g hg=>by have:=Own.blk ho g hg;omega);replace h1:=h1.mod m3 (fun g hg=>by have:=Own.blk ho g hg;omega);replace ho1:=ho1.mod m3 (fun g hg=>by have:=Own.blk ho g hg;omega)
       have z18:=m3.size
       refine Qa (Qe Z) Z (Qd (Q4 (Yr (Qh [true,true,true] Z Z (Qa (Qc Z) Z (Qa (Q8 Z Z (Yt hc9n hxs.1)) Z (Qa (Qe Z) Z (Qd (Q4 (Yc (k + 1,v5) (by simp;omega) ⟨Z,Z,Z,Z,Z,Z,Z,trivial⟩ ⟨E,(by omega),h1,ho1,(by omega),Own.fin ho5 (Nat.le_refl _) (by omega) (filt_yes (by assumption) (ns_yes (by assumption)))⟩))))))))))
      ·refine Qn (Q4 (Yr (Qh [true,true,true] Z Z (Qa (Qc Z) Z (Qa (Q8 Z Z (Yt hc9n hxs.1)) Z (Qa (Qe Z) Z (Qd (Q4 (Yc (k + 1,vo) (by simp;omega) ⟨Z,Z,Z,Z,Z,Z,Z,trivial⟩ ⟨E,(by omega),h1,ho1,(by omega),Own.fin ho (Nat.le_refl _) (by omega) (filt_no (by assumption) (ns_no (by assumption)))⟩)))))))))
     ·have hc9n : ¬ k < xs.length:=by first | (have h:=of_decide_eq_false hc9;omega) | (have h:=hc9;simp at h;omega)
      refine Yn (Q5 (Q3 ?_))
      refine Qf (Qh [true,true,false,true,true] Z Z (Qa (Qc Z) Z (Qa (Qt Xn Z h1.at Z) Z (Qv Tryz.call130 Z (s_PutCell vo ((xs.take k).filter (fun y=>!(K6 x y))) x _ (Own.rd (by decide) ho) (by have h1:=List.length_filter_le (fun y=>!(K6 x y)) (xs.take k);simp only [List.length_take] at h1;omega)) Z (fun v6 w23 e14 ho6=>?_)))))
      have g_ho6 : w.heap.size ≤ w18.heap.size:=E.size
      replace E:=E.trans e14;replace h1:=h1.ext e14;replace ho1:=ho1.ext e14;replace ho:=ho.ext e14
      have z19:=e14.size
      refine Qa (Qe Z) Z (Qa (Qe Z) Z (Qd (Qw (Q2 (Y5 (l:=[.tmp 6,.tmp 7]) (vs:=[v6,.bool true]) Z ⟨.tmp Z,.tmp Z,trivial⟩ Z E ?_)))))
      rw [Hf (.inr (by assumption)),Tx (by assumption)]
      exact ⟨_,Z,Own.fin ho6 (by omega) (by omega) (by simp only [List.nil_append,List.take_of_length_le (show xs.length ≤ k by omega)] <;> rfl)⟩
   ·refine Qn (Q4 (Yr (Qf (Qh [true,true,true] Z Z (Qa (Qc Z) Z (Qa (Qe Z) Z (Qa (Qe Z) Z (Qd (Qw (Y5 (l:=[.tmp 6,.tmp 7]) (vs:=[v1,.bool true]) Z ⟨.tmp Z,.tmp Z,trivial⟩ Z E ?_))))))))))
    rw [A2 (by assumption) (by assumption) (by assumption)]
    exact ⟨_,Z,Own.fin ho1 (by omega) (by omega) (by first | rfl | simp only [List.nil_append])⟩

set_option maxRecDepth 20000 in
theorem s_l02Less (a : Int) (b : Int) (w : World)  : Ct Tryz.prog 128 [.int .i64 a,.int .i64 b] w (fun v _=>v = .int .i64 (if b < a then b else a)):=by
 refine Yh Tryz.func128 Z Tryz.ntmps128 Z ?_
 refine Q7 [(0,.int .i64 a),(1,.int .i64 b)] ⟨Z,Z,trivial⟩ ?_
 have E : Ext w w:=Ext.refl w
 refine Qf (Qh [true] Z Z (Qa (Qe Z) Z (Qd (Qf (Qf (Qh [true,true,true] Z Z (Qa (Qc Z) Z (Qa (Qc Z) Z (Qa (Yf Z Z) Z (Qd (Qs Z (fun hc1=>?_) (fun hc1=>?_))))))))))))
 ·refine Qf (Qh [true,true] Z Z (Qa (Qc Z) Z (Qa (Qe Z) Z (Qd (Qw (Ql Z Z E ?_))))))
  rw [if_pos (of_decide_eq_true hc1)]
 ·refine Qn (Qf (Qh [true,true] Z Z (Qa (Qc Z) Z (Qa (Qe Z) Z (Qd (Qw (Ql Z Z E ?_)))))))
  rw [if_neg (of_decide_eq_false hc1)]

set_option maxRecDepth 20000 in
theorem c_Changed (cx : List Value) (x : Node) (a : Int) (b : Int) (w : World) (hx : Dat.R w 0 w.heap.size cx x) : Ct Tryz.prog 116 [.agg cx.toArray,.int .i64 a,.int .i64 b] w (fun v _=>v = .tuple [.int .i64 ((Qq x a b).1),.int .i64 ((Qq x a b).2.1),.bool ((Qq x a b).2.2)].toArray):=by
 refine Yh Tryz.func116 Z Tryz.ntmps116 Z ?_
 obtain ⟨o1,rfl,hd1⟩:=Node.op hx
 refine Q7 [(0,.agg [.int .i64 x.kind,.int .i64 x.a,.int .i64 x.b,o1].toArray),(1,.int .i64 a),(2,.int .i64 b)] ⟨Z,Z,Z,trivial⟩ ?_
 have E : Ext w w:=Ext.refl w
 refine Qf (Qh [false,true,true,true] Z Z (Y1 Z Z (fun b1 w1 e1 s1 h1=>?_)))
 have g_b1 : w.heap.size ≤ b1:=by have:=E.size;omega
 have y_b1:=h1.lt
 replace E:=E.trans e1
 have z1:=e1.size
 refine Qa (Qe Z) Z (Qa (Qe Z) Z (Qa (Qe Z) Z (Qd (Qf (Qf (Qh [true,false,true,true,true,true,false,true,true] Z Z (Qa (Qt Xo Z h1.at Z) Z (Qv Tryz.call111 Z (c_NodeOk [.int .i64 x.kind,.int .i64 x.a,.int .i64 x.b,o1] x _ (Node.mkR x (RdD.any (hd1.ext E)))) Z (fun _ w2 e2 hv=>?_)))))))))
 subst hv
 replace E:=E.trans e2;replace h1:=h1.ext e2
 have z2:=e2.size
 refine Qa (Yq Z) Z (Qa (Qc Z) Z (Y7 5 [(0,.agg [.int .i64 x.kind,.int .i64 x.a,.int .i64 x.b,o1].toArray),(1,.int .i64 a),(2,.int .i64 b),(3,.pointer (some ⟨b1,0,none⟩)),(6,.int .i64 0),(7,.int .i64 0),(8,.bool false),(17,.bool ((!(Xb x)) || (!(Yw a 0 99 && Yw b 0 999))))] (fun w'=>Ext w w' ∧ w2.heap.size ≤ w'.heap.size ∧ Blk w' b1 ([.int .i64 x.kind,.int .i64 x.a,.int .i64 x.b,o1])) ?_ ?_))
 ·refine Y3 (gd:=12) Z Z (fun hg1=>?_) (fun hg1=>?_)
  ·refine Qg Z Z Z Z (Qg Z Z Z Z ?_)
   refine Yp Z Z Z Z ?_
   refine Qg Z Z Z Z (Qa (Qx Z Z) Z (Qp ⟨Z,Z,Z,Z,Z,Z,Z,congrArg (fun b=>some (Value.bool b)) (show true = ((!(Xb x)) || (!(Yw a 0 99 && Yw b 0 999))) by first | (rw [hg1] <;> rfl) | (simp [hg1];done) | (simp only [Qo] <;> simp)),trivial⟩ ⟨E,(by omega),h1⟩))
  ·refine Qm Z Z (Qc Z) Z (Qm Z Z (Qc Z) Z ?_)
   refine Xp Z Z ?_
   refine Qv Tryz.call140 Z (c_itemOk a b _ ) Z (fun _ w4 e3 hv=>?_)
   subst hv
   replace E:=E.trans e3;replace h1:=h1.ext e3
   have z3:=e3.size
   refine Qm Z Z (Yq Z) Z (Qa (Qy Z Z) Z (Qp ⟨Z,Z,Z,Z,Z,Z,Z,congrArg (fun b=>some (Value.bool b)) (show (!(Yw a 0 99 && Yw b 0 999)) = ((!(Xb x)) || (!(Yw a 0 99 && Yw b 0 999))) by first | (rw [hg1] <;> rfl) | (simp [hg1];done) | (simp only [Qo] <;> simp)),trivial⟩ ⟨E,(by omega),h1⟩))
 clear E h1
 rintro w3 ⟨E,z4,h1⟩
 refine Qd (Qs Z (fun hc1=>?_) (fun hc1=>?_))
 ·refine Qf (Qh [true,true,true,true,true] Z Z (Qa (Qc Z) Z (Qa (Qc Z) Z (Qa (Qe Z) Z (Qa (Qe Z) Z (Qa (Qe Z) Z (Qd (Qw (Y5 (l:=[.tmp 6,.tmp 7,.tmp 8]) (vs:=[.int .i64 a,.int .i64 b,.bool false]) Z ⟨.tmp Z,.tmp Z,.tmp Z,trivial⟩ Z E ?_)))))))))
  rw [ch_0 (by assumption)]
 ·have hno:=ch_ok hc1
  refine Qn (Qf (Qf (Qh [true,true] Z Z (Qa (Qb Xk Z) Z (Qa (Qj Yo Z (h1.one 0 Z)) Z (Qd (Q0 (Qf (Qh [true,true] Z Z (Qa (Y6 Z Z) Z (Qa (Qe Z) Z (Qd (Qs Z (fun hc2=>?_) (fun hc2=>?_))))))))))))))
  ·refine Qf (Xj Xi [(0,true),(1,true),(2,true),(3,true),(4,true),(5,true),(6,true),(7,true),(8,true)] (by decide +kernel) Z (fun w5 e4=>?_))
   replace E:=E.trans e4;replace h1:=h1.ext e4
   have z5:=e4.size
   refine Qa (Qc Z) Z (Qa (Qc Z) Z (Qa (Qb X2 Z) Z (Qa (Qj Yo Z (h1.one 1 Z)) Z (Qa (Q8 Z Z Z) Z (Qa (R_min Z Z) Z (Qa (Qe Z) Z (Qa (Qe Z) Z (Qa (Qe Z) Z (Qd (Qw (Q2 (Y5 (l:=[.tmp 6,.tmp 7,.tmp 8]) (vs:=[.int .i64 a,.int .i64 (if (IntKind.i64.wrap (b + x.a)) < 999 then (IntKind.i64.wrap (b + x.a)) else 999),.bool true]) Z ⟨.tmp Z,.tmp Z,.tmp Z,trivial⟩ Z E ?_))))))))))))
   rw [ch_2 (by assumption) (by assumption)]
  ·refine Qf (Qh [true,true] Z Z (Qa (Y6 Z Z) Z (Qa (Qe Z) Z (Qd (Qs Z (fun hc3=>?_) (fun hc3=>?_))))))
   ·refine Qf (Qh [true,true,true,true,true,true,true,true,true] Z Z (Qa (Qc Z) Z (Qa (Qb X2 Z) Z (Qa (Qj Yo Z (h1.one 1 Z)) Z (Qa (Q8 Z Z Z) Z (Qa (Gd Z Z (by decide) Z) Z (Qa (Qc Z) Z (Qa (Qe Z) Z (Qa (Qe Z) Z (Qa (Qe Z) Z (Qd (Qw (Q2 (Y5 (l:=[.tmp 6,.tmp 7,.tmp 8]) (vs:=[.int .i64 (Int.tmod (IntKind.i64.wrap (a + x.a)) 100),.int .i64 b,.bool true]) Z ⟨.tmp Z,.tmp Z,.tmp Z,trivial⟩ Z E ?_))))))))))))))
    rw [ch_4 (by assumption) (by assumption)]
   ·refine Qf (Qh [true,true] Z Z (Qa (Y6 Z Z) Z (Qa (Qe Z) Z (Qd (Qs Z (fun hc4=>?_) (fun hc4=>?_))))))
    ·have hna:=node_a3 hno hc4
     refine Qf (Xj Xi [(0,true),(1,true),(2,true),(3,true),(4,true),(5,true),(6,true),(7,true),(8,true),(9,true),(10,true),(11,true)] (by decide +kernel) Z (fun w6 e5=>?_))
     replace E:=E.trans e5;replace h1:=h1.ext e5
     have z6:=e5.size
     refine Qa (Qc Z) Z (Qa (Qc Z) Z (Qa (Qc Z) Z (Qa (Qb X2 Z) Z (Qa (Qj Yo Z (h1.one 1 Z)) Z (Qa (Gd Z Z (by omega) Z) Z (Qa (Qb Uf Z) Z (Qa (Qj Yo Z (h1.one 2 Z)) Z (Qa (Y6 Z Z) Z (Qa (Qe Z) Z (Qa (Qe Z) Z (Qa (Qe Z) Z (Qd (Qw (Q2 (Y5 (l:=[.tmp 6,.tmp 7,.tmp 8]) (vs:=[.int .i64 a,.int .i64 b,.bool ((Int.tmod a x.a) == x.b)]) Z ⟨.tmp Z,.tmp Z,.tmp Z,trivial⟩ Z E ?_)))))))))))))))
     rw [ch_3 (by assumption) (by assumption)]
    ·refine Qn (Q4 (Yr (Qf (Xj Xi [(0,true),(1,true),(2,true),(3,true),(4,true),(5,true),(6,true),(7,true)] (by decide +kernel) Z (fun w7 e6=>?_)))))
     replace E:=E.trans e6;replace h1:=h1.ext e6
     have z7:=e6.size
     refine Qa (Qc Z) Z (Qa (Qc Z) Z (Qa (Qb Xk Z) Z (Qa (Qj Yo Z (h1.one 0 Z)) Z (Qa (Yu Z Z) Z (Qa (Qe Z) Z (Qa (Qe Z) Z (Qa (Qe Z) Z (Qd (Qw (Y5 (l:=[.tmp 6,.tmp 7,.tmp 8]) (vs:=[.int .i64 a,.int .i64 b,.bool (x.kind != 8)]) Z ⟨.tmp Z,.tmp Z,.tmp Z,trivial⟩ Z E ?_))))))))))
     rw [ch_o (by assumption) (by assumption) (by assumption) (by assumption)]

set_option maxRecDepth 20000 in
theorem s_Changed (cx : List Value) (x : Node) (a : Int) (b : Int) (w : World) (hx : Dat.R w 0 w.heap.size cx x) : Ct Tryz.prog 96 [.agg cx.toArray,.int .i64 a,.int .i64 b] w (fun v _=>v = .tuple [.int .i64 ((Qq x a b).1),.int .i64 ((Qq x a b).2.1),.bool ((Qq x a b).2.2)].toArray):=by
 refine Yh Tryz.func96 Z Tryz.ntmps96 Z ?_
 obtain ⟨o1,rfl,hd1⟩:=Node.op hx
 refine Q7 [(0,.agg [.int .i64 x.kind,.int .i64 x.a,.int .i64 x.b,o1].toArray),(1,.int .i64 a),(2,.int .i64 b)] ⟨Z,Z,Z,trivial⟩ ?_
 have E : Ext w w:=Ext.refl w
 refine Qf (Qh [false,true,true,true] Z Z (Y1 Z Z (fun b1 w1 e1 s1 h1=>?_)))
 have g_b1 : w.heap.size ≤ b1:=by have:=E.size;omega
 have y_b1:=h1.lt
 replace E:=E.trans e1
 have z1:=e1.size
 refine Qa (Qe Z) Z (Qa (Qe Z) Z (Qa (Qe Z) Z (Qd (Qf (Qf (Qh [true,false,true,true,true,false,true,true,true,true,false,true,true] Z Z (Qa (Qt Xo Z h1.at Z) Z (Qv Tryz.call125 Z (s_NodeOk [.int .i64 x.kind,.int .i64 x.a,.int .i64 x.b,o1] x _ (Node.mkR x (RdD.any (hd1.ext E)))) Z (fun _ w2 e2 hv=>?_)))))))))
 subst hv
 replace E:=E.trans e2;replace h1:=h1.ext e2
 have z2:=e2.size
 refine Qa (Yq Z) Z (Qa (Qc Z) Z (Y7 9 [(0,.agg [.int .i64 x.kind,.int .i64 x.a,.int .i64 x.b,o1].toArray),(1,.int .i64 a),(2,.int .i64 b),(3,.pointer (some ⟨b1,0,none⟩)),(6,.int .i64 0),(7,.int .i64 0),(8,.bool false),(21,.bool (((!(Xb x)) || (!(Yw a 0 99))) || (!(Yw b 0 999))))] (fun w'=>Ext w w' ∧ w2.heap.size ≤ w'.heap.size ∧ Blk w' b1 ([.int .i64 x.kind,.int .i64 x.a,.int .i64 x.b,o1])) ?_ ?_))
 ·refine Y3 (gd:=12) Z Z (fun hg1=>?_) (fun hg1=>?_)
  ·refine Qg Z Z Z Z ?_
   refine Yp Z Z Z Z ?_
   refine Qg Z Z Z Z (Qa (Qx Z Z) Z (Qa (Qc Z) Z (Qg Z Z Z Z ?_)))
   refine Yp Z Z Z Z ?_
   refine Qg Z Z Z Z (Qa (Qx Z Z) Z (Qp ⟨Z,Z,Z,Z,Z,Z,Z,congrArg (fun b=>some (Value.bool b)) (show true = (((!(Xb x)) || (!(Yw a 0 99))) || (!(Yw b 0 999))) by first | (rw [hg1] <;> rfl) | (simp [hg1];done) | (simp only [Qo] <;> simp)),trivial⟩ ⟨E,(by omega),h1⟩))
  ·refine Qm Z Z (Qc Z) Z ?_
   refine Xp Z Z ?_
   refine Qv Tryz.call93 Z (s_l01In a 0 99 _ ) Z (fun _ w4 e3 hv=>?_)
   subst hv
   replace E:=E.trans e3;replace h1:=h1.ext e3
   have z3:=e3.size
   refine Qm Z Z (Yq Z) Z (Qa (Qy Z Z) Z (Qa (Qc Z) Z ?_))
   refine Y3 (gd:=17) Z Z (fun hg2=>?_) (fun hg2=>?_)
   ·refine Qg Z Z Z Z ?_
    refine Yp Z Z Z Z ?_
    refine Qg Z Z Z Z (Qa (Qx Z Z) Z (Qp ⟨Z,Z,Z,Z,Z,Z,Z,congrArg (fun b=>some (Value.bool b)) (show true = (((!(Xb x)) || (!(Yw a 0 99))) || (!(Yw b 0 999))) by first | (rw [hg1,hg2] <;> rfl) | (simp [hg1,hg2];done) | (simp only [Qo] <;> simp)),trivial⟩ ⟨E,(by omega),h1⟩))
   ·refine Qm Z Z (Qc Z) Z ?_
    refine Xp Z Z ?_
    refine Qv Tryz.call93 Z (s_l01In b 0 999 _ ) Z (fun _ w5 e4 hv=>?_)
    subst hv
    replace E:=E.trans e4;replace h1:=h1.ext e4
    have z4:=e4.size
    refine Qm Z Z (Yq Z) Z (Qa (Qy Z Z) Z (Qp ⟨Z,Z,Z,Z,Z,Z,Z,congrArg (fun b=>some (Value.bool b)) (show (!(Yw b 0 999)) = (((!(Xb x)) || (!(Yw a 0 99))) || (!(Yw b 0 999))) by first | (rw [hg1,hg2] <;> rfl) | (simp [hg1,hg2];done) | (simp only [Qo] <;> simp)),trivial⟩ ⟨E,(by omega),h1⟩))
 clear E h1
 rintro w3 ⟨E,z5,h1⟩
 refine Qd (Qs Z (fun hc1=>?_) (fun hc1=>?_))
 ·replace hc1:=ch_st hc1
  refine Qf (Qh [true,true,true,true,true] Z Z (Qa (Qc Z) Z (Qa (Qc Z) Z (Qa (Qe Z) Z (Qa (Qe Z) Z (Qa (Qe Z) Z (Qd (Qw (Y5 (l:=[.tmp 6,.tmp 7,.tmp 8]) (vs:=[.int .i64 a,.int .i64 b,.bool false]) Z ⟨.tmp Z,.tmp Z,.tmp Z,trivial⟩ Z E ?_)))))))))
  rw [ch_0 (by assumption)]
 ·replace hc1:=ch_s hc1
  have hno:=ch_ok hc1
  refine Qn (Qf (Qf (Qh [true,true] Z Z (Qa (Qb Xk Z) Z (Qa (Qj Yo Z (h1.one 0 Z)) Z (Qd (Q0 (Qf (Qh [true,true] Z Z (Qa (Y6 Z Z) Z (Qa (Qe Z) Z (Qd (Qs Z (fun hc2=>?_) (fun hc2=>?_))))))))))))))
  ·refine Qf (Qh [true,true,true,true,true,false,true,true,true] Z Z (Qa (Qc Z) Z (Qa (Qc Z) Z (Qa (Qb X2 Z) Z (Qa (Qj Yo Z (h1.one 1 Z)) Z (Qa (Q8 Z Z Z) Z (Qv Tryz.call128 Z (s_l02Less (IntKind.i64.wrap (b + x.a)) 999 _ ) Z (fun _ w6 e5 hv=>?_))))))))
   subst hv
   replace E:=E.trans e5;replace h1:=h1.ext e5
   have z6:=e5.size
   refine Qa (Qe Z) Z (Qa (Qe Z) Z (Qa (Qe Z) Z (Qd (Qw (Q2 (Y5 (l:=[.tmp 6,.tmp 7,.tmp 8]) (vs:=[.int .i64 a,.int .i64 (if 999 < (IntKind.i64.wrap (b + x.a)) then 999 else (IntKind.i64.wrap (b + x.a))),.bool true]) Z ⟨.tmp Z,.tmp Z,.tmp Z,trivial⟩ Z E ?_))))))
   rw [ch_2 (by assumption) (by assumption),min_999]
  ·refine Qf (Qh [true,true] Z Z (Qa (Y6 Z Z) Z (Qa (Qe Z) Z (Qd (Qs Z (fun hc3=>?_) (fun hc3=>?_))))))
   ·refine Qf (Qh [true,true,true,true,true,true,true,true,true] Z Z (Qa (Qc Z) Z (Qa (Qb X2 Z) Z (Qa (Qj Yo Z (h1.one 1 Z)) Z (Qa (Q8 Z Z Z) Z (Qa (Gd Z Z (by decide) Z) Z (Qa (Qc Z) Z (Qa (Qe Z) Z (Qa (Qe Z) Z (Qa (Qe Z) Z (Qd (Qw (Q2 (Y5 (l:=[.tmp 6,.tmp 7,.tmp 8]) (vs:=[.int .i64 (Int.tmod (IntKind.i64.wrap (a + x.a)) 100),.int .i64 b,.bool true]) Z ⟨.tmp Z,.tmp Z,.tmp Z,trivial⟩ Z E ?_))))))))))))))
    rw [ch_4 (by assumption) (by assumption)]
   ·refine Qf (Qh [true,true] Z Z (Qa (Y6 Z Z) Z (Qa (Qe Z) Z (Qd (Qs Z (fun hc4=>?_) (fun hc4=>?_))))))
    ·have hna:=node_a3 hno hc4
     refine Qf (Xj Xi [(0,true),(1,true),(2,true),(3,true),(4,true),(5,true),(6,true),(7,true),(8,true),(9,true),(10,true),(11,true)] (by decide +kernel) Z (fun w7 e6=>?_))
     replace E:=E.trans e6;replace h1:=h1.ext e6
     have z7:=e6.size
     refine Qa (Qc Z) Z (Qa (Qc Z) Z (Qa (Qc Z) Z (Qa (Qb X2 Z) Z (Qa (Qj Yo Z (h1.one 1 Z)) Z (Qa (Gd Z Z (by omega) Z) Z (Qa (Qb Uf Z) Z (Qa (Qj Yo Z (h1.one 2 Z)) Z (Qa (Y6 Z Z) Z (Qa (Qe Z) Z (Qa (Qe Z) Z (Qa (Qe Z) Z (Qd (Qw (Q2 (Y5 (l:=[.tmp 6,.tmp 7,.tmp 8]) (vs:=[.int .i64 a,.int .i64 b,.bool ((Int.tmod a x.a) == x.b)]) Z ⟨.tmp Z,.tmp Z,.tmp Z,trivial⟩ Z E ?_)))))))))))))))
     rw [ch_3 (by assumption) (by assumption)]
    ·refine Qn (Q4 (Yr (Qf (Xj Xi [(0,true),(1,true),(2,true),(3,true),(4,true),(5,true),(6,true),(7,true)] (by decide +kernel) Z (fun w8 e7=>?_)))))
     replace E:=E.trans e7;replace h1:=h1.ext e7
     have z8:=e7.size
     refine Qa (Qc Z) Z (Qa (Qc Z) Z (Qa (Qb Xk Z) Z (Qa (Qj Yo Z (h1.one 0 Z)) Z (Qa (Yu Z Z) Z (Qa (Qe Z) Z (Qa (Qe Z) Z (Qa (Qe Z) Z (Qd (Qw (Y5 (l:=[.tmp 6,.tmp 7,.tmp 8]) (vs:=[.int .i64 a,.int .i64 b,.bool (x.kind != 8)]) Z ⟨.tmp Z,.tmp Z,.tmp Z,trivial⟩ Z E ?_))))))))))
     rw [ch_o (by assumption) (by assumption) (by assumption) (by assumption)]

set_option maxRecDepth 20000 in
theorem s_Remembers (k : Int) (w : World)  : Ct Tryz.prog 97 [.int .i64 k] w (fun v _=>v = .bool (((k == 5) || (k == 6)) || (k == 8))):=by
 refine Yh Tryz.func97 Z Tryz.ntmps97 Z ?_
 refine Q7 [(0,.int .i64 k)] ⟨Z,trivial⟩ ?_
 have E : Ext w w:=Ext.refl w
 refine Qf (Qh [true] Z Z (Qa (Qe Z) Z (Qd (Qf (Qh [true,true,true,true,true,true,true,true,true,true,true] Z Z (Qa (Qc Z) Z (Qa (Y6 Z Z) Z (Qa (Qc Z) Z (Y7 7 [(0,.int .i64 k),(2,.bool false),(12,.bool (((k == 5) || (k == 6)) || (k == 8)))] (fun w'=>w = w') ?_ ?_)))))))))
 ·refine Y3 (gd:=5) Z Z (fun hg1=>?_) (fun hg1=>?_)
  ·refine Qg Z Z Z Z (Qg Z Z Z Z (Qa (Qx Z Z) Z (Qa (Qc Z) Z (Qg Z Z Z Z (Qg Z Z Z Z (Qa (Qx Z Z) Z (Qp ⟨Z,Z,congrArg (fun b=>some (Value.bool b)) (show true = (((k == 5) || (k == 6)) || (k == 8)) by first | (rw [hg1] <;> rfl) | (simp [hg1];done) | (simp only [Qo] <;> simp)),trivial⟩ Z)))))))
  ·refine Qm Z Z (Qc Z) Z (Qm Z Z (Y6 Z Z) Z (Qa (Qy Z Z) Z (Qa (Qc Z) Z ?_)))
   refine Y3 (gd:=9) Z Z (fun hg2=>?_) (fun hg2=>?_)
   ·refine Qg Z Z Z Z (Qg Z Z Z Z (Qa (Qx Z Z) Z (Qp ⟨Z,Z,congrArg (fun b=>some (Value.bool b)) (show true = (((k == 5) || (k == 6)) || (k == 8)) by first | (rw [hg1,hg2] <;> rfl) | (simp [hg1,hg2];done) | (simp only [Qo] <;> simp)),trivial⟩ Z)))
   ·refine Qm Z Z (Qc Z) Z (Qm Z Z (Y6 Z Z) Z (Qa (Qy Z Z) Z (Qp ⟨Z,Z,congrArg (fun b=>some (Value.bool b)) (show (k == 8) = (((k == 5) || (k == 6)) || (k == 8)) by first | (rw [hg1,hg2] <;> rfl) | (simp [hg1,hg2];done) | (simp only [Qo] <;> simp)),trivial⟩ Z)))
 rintro _ rfl
 refine Qa (Qe Z) Z (Qd (Qw (Ql Z Z E ?_)))
 rfl

set_option maxHeartbeats 4000000 in
set_option maxRecDepth 20000 in
theorem c_StepOp (cg : List Value) (g : Graph) (vcs : Value) (cs : List Cell) (r : Record) (w : World) (hg : Dat.R w 0 w.heap.size cg g) (hcs : RdS w vcs cs) (hb : cs.length ≤ 4194304) : Ct Tryz.prog 61 [.agg cg.toArray,vcs,.agg (Enc.enc r).toArray] w (fun v w'=>∃ u0 u1,v = .tuple [u0,u1,.bool ((Xw g cs r).2.2)].toArray ∧ Own w' w.heap.size w'.heap.size 4 u0 (List.flatMap (Enc.enc (α:=Cell)) ((Xw g cs r).1)) ∧ Own w' w.heap.size w'.heap.size 5 u1 (List.flatMap (Enc.enc (α:=Record)) ((Xw g cs r).2.1)) ∧ SepL [u0,u1]):=by
 refine Yh Tryz.func61 Z Tryz.ntmps61 Z ?_
 obtain ⟨o1,rfl,hd1⟩:=Graph.op hg
 refine Q7 [(0,.agg [o1,.int .i64 g.workers,.int .i64 g.cap].toArray),(1,vcs),(2,.agg (Enc.enc r).toArray)] ⟨Z,Z,Z,trivial⟩ ?_
 have E : Ext w w:=Ext.refl w
 refine Qf (Qh [false,false,true,true,true] Z Z (Y1 Z Z (fun b1 w1 e1 s1 h1=>?_)))
 have g_b1 : w.heap.size ≤ b1:=by have:=E.size;omega
 have y_b1:=h1.lt
 replace E:=E.trans e1
 have z1:=e1.size
 refine Y1 Z Z (fun b2 w2 e2 s2 h2=>?_)
 have g_b2 : w.heap.size ≤ b2:=by have:=E.size;omega
 have y_b2:=h2.lt
 replace E:=E.trans e2;replace h1:=h1.ext e2
 have z2:=e2.size
 refine Qa (Qe Z) Z (Qa (Qe Z) Z (Qa (Qe Z) Z (Qd (Qf (Qf (Qh [true,false,true,true,true,false,true,true,true,true,true,true,false,true,true] Z Z (Qa (Qt Km Z h1.at Z) Z (Qv Tryz.call59 Z (c_GraphOk [o1,.int .i64 g.workers,.int .i64 g.cap] g _ (Graph.mkR g (RdD.any (hd1.ext E)))) Z (fun _ w3 e3 hv=>?_)))))))))
 subst hv
 replace E:=E.trans e3;replace h1:=h1.ext e3;replace h2:=h2.ext e3
 have z3:=e3.size
 refine Qa (Yq Z) Z (Qa (Qc Z) Z (Y7 11 [(0,.agg [o1,.int .i64 g.workers,.int .i64 g.cap].toArray),(1,vcs),(2,.agg (Enc.enc r).toArray),(3,.pointer (some ⟨b1,0,none⟩)),(5,.pointer (some ⟨b2,0,none⟩)),(6,.slice none 0 0),(7,.slice none 0 0),(8,.bool false),(33,.bool (((!(Ys g)) || (!(Yx r))) || (!(Y9 g r.op))))] (fun w'=>Ext w w' ∧ w3.heap.size ≤ w'.heap.size ∧ Blk w' b1 ([o1,.int .i64 g.workers,.int .i64 g.cap]) ∧ Blk w' b2 (Enc.enc r)) ?_ ?_))
 ·refine Y3 (gd:=22) Z Z (fun hg1=>?_) (fun hg1=>?_)
  ·refine Qg Z Z Z Z ?_
   refine Yp Z Z Z Z ?_
   refine Qg Z Z Z Z (Qa (Qx Z Z) Z (Qa (Qc Z) Z (Qg Z Z Z Z (Qg Z Z Z Z (Qg Z Z Z Z ?_)))))
   refine Yp Z Z Z Z ?_
   refine Qg Z Z Z Z (Qa (Qx Z Z) Z (Qp ⟨Z,Z,Z,Z,Z,Z,Z,Z,congrArg (fun b=>some (Value.bool b)) (show true = (((!(Ys g)) || (!(Yx r))) || (!(Y9 g r.op))) by first | (rw [hg1] <;> rfl) | (simp [hg1];done) | (simp only [Qo] <;> simp)),trivial⟩ ⟨E,(by omega),h1,h2⟩))
  ·refine Qm Z Z (Qt Va Z h2.at Z) Z ?_
   refine Xp Z Z ?_
   refine Qv Tryz.call114 Z (c_RecordOk r _ ) Z (fun _ w5 e4 hv=>?_)
   subst hv
   replace E:=E.trans e4;replace h1:=h1.ext e4;replace h2:=h2.ext e4
   have z4:=e4.size
   refine Qm Z Z (Yq Z) Z (Qa (Qy Z Z) Z (Qa (Qc Z) Z ?_))
   refine Y3 (gd:=27) Z Z (fun hg2=>?_) (fun hg2=>?_)
   ·refine Qg Z Z Z Z (Qg Z Z Z Z (Qg Z Z Z Z ?_))
    refine Yp Z Z Z Z ?_
    refine Qg Z Z Z Z (Qa (Qx Z Z) Z (Qp ⟨Z,Z,Z,Z,Z,Z,Z,Z,congrArg (fun b=>some (Value.bool b)) (show true = (((!(Ys g)) || (!(Yx r))) || (!(Y9 g r.op))) by first | (rw [hg1,hg2] <;> rfl) | (simp [hg1,hg2];done) | (simp only [Qo] <;> simp)),trivial⟩ ⟨E,(by omega),h1,h2⟩))
   ·refine Qm Z Z (Qt Km Z h1.at Z) Z (Qm Z Z (Qb Uy Z) Z (Qm Z Z (Qj Yo Z (h2.one 0 Z)) Z ?_))
    refine Xp Z Z ?_
    refine Qv Tryz.call115 Z (c_isNode [o1,.int .i64 g.workers,.int .i64 g.cap] g r.op _ (Graph.mkR g (RdD.any (hd1.ext E)))) Z (fun _ w6 e5 hv=>?_)
    subst hv
    replace E:=E.trans e5;replace h1:=h1.ext e5;replace h2:=h2.ext e5
    have z5:=e5.size
    refine Qm Z Z (Yq Z) Z (Qa (Qy Z Z) Z (Qp ⟨Z,Z,Z,Z,Z,Z,Z,Z,congrArg (fun b=>some (Value.bool b)) (show (!(Y9 g r.op)) = (((!(Ys g)) || (!(Yx r))) || (!(Y9 g r.op))) by first | (rw [hg1,hg2] <;> rfl) | (simp [hg1,hg2];done) | (simp only [Qo] <;> simp)),trivial⟩ ⟨E,(by omega),h1,h2⟩))
 clear E h1 h2
 rintro w4 ⟨E,z6,h1,h2⟩
 refine Qd (Qs Z (fun hc1=>?_) (fun hc1=>?_))
 ·refine Qf (Qh [true,false,true,true,true] Z Z (Qa (Qc Z) Z (Qv Tryz.call108 Z (c_copyCells vcs cs _ (hcs.ext E) (by first | omega | (simp only [Qi];omega) | (rw [Qi];done) | (simp only [Qi];done))) Z (fun v1 w7 e6 ho1=>?_))))
  have g_ho1 : w.heap.size ≤ w4.heap.size:=E.size
  replace E:=E.trans e6;replace h1:=h1.ext e6;replace h2:=h2.ext e6
  have z7:=e6.size
  refine Qa (Qe Z) Z (Qa (Qe Z) Z (Qa (Qe Z) Z (Qd (Qw (Y5 (l:=[.tmp 6,.tmp 7,.tmp 8]) (vs:=[v1,.slice none 0 0,.bool false]) Z ⟨.tmp Z,.tmp Z,.tmp Z,trivial⟩ Z E ?_)))))
  rw [st_0 hc1]
  exact ⟨_,_,Z,Own.fin ho1 (by omega) (by omega) (by first | rfl | (simp only [List.nil_append];done)),Own.finNil Z,⟨⟨(Sep.nilR _),trivial⟩,⟨trivial,trivial⟩⟩⟩
 ·have hq:=st_of hc1
  have hop:=Vx hq.2
  have hx : (g.nodes[Int.toNat r.op]'hop.2.2) = U9 g r:=(Ki hop.2.2).symm
  have hol : (g.nodes[Int.toNat r.op]'hop.2.2).outs.length ≤ 2:=hx ▸ Aj (i:=Int.toNat r.op) hq.1 (by omega)
  refine Qn (Qf (Qh [true,true,true,true,true,true,false,false] Z Z (Qa (Qb Kd Z) Z (Qa (Qj Gc Z (h1.one 0 Z)) Z (Qa (Qb Uy Z) Z (Qa (Qj Yo Z (h2.one 0 Z)) Z ?_))))))
  have hi1 : (Int.toNat r.op) < g.nodes.length:=(by first | assumption | omega | (simp only [List.length_set];first | assumption | omega))
  obtain ⟨_,hr1,ha1⟩:=RdD.get hd1 hi1
  obtain ⟨o2,rfl,hd2⟩:=Node.op hr1
  replace ha1 : At w (Xf o1) (Xm o1 + (Int.toNat r.op) * 4) [.int .i64 ((g.nodes[(Int.toNat r.op)]'hi1).kind),.int .i64 ((g.nodes[(Int.toNat r.op)]'hi1).a),.int .i64 ((g.nodes[(Int.toNat r.op)]'hi1).b),o2]:=ha1
  refine Qa (U3 (i:=(Int.toNat r.op)) Gv Z Z (hd1.ext E).1 (by omega) hi1) Z (Qa (Qt Xo Z (ha1.ext E) Z) Z (Yk Xo Z (fun b3 w8 e7 s3 h3=>?_)))
  have g_b3 : w.heap.size ≤ b3:=by have:=E.size;omega
  have y_b3:=h3.lt
  replace E:=E.trans e7;replace h1:=h1.ext e7;replace h2:=h2.ext e7
  have z8:=e7.size
  refine Q6 (cs':=[.int .i64 ((g.nodes[(Int.toNat r.op)]'hi1).kind),.int .i64 ((g.nodes[(Int.toNat r.op)]'hi1).a),.int .i64 ((g.nodes[(Int.toNat r.op)]'hi1).b),o2]) Xo Z Z Z (Qk Z (Qk Z (Qk Z (Qk (RdD.one (hd2.ext E)) Z)))) h3 (Nat.le_of_ble_eq_true Z) Z (fun w9 m1 h3'=>?_)
  replace h3:=h3'
  replace E:=E.step m1 (fun g hg=>by cases hg;omega);replace h1:=h1.mod m1 (fun g hg=>by cases hg;omega);replace h2:=h2.mod m1 (fun g hg=>by cases hg;omega)
  have z9:=m1.size
  refine Qd (Qf (Qh [true,true,true,true,true,false,true,true,true,true,true,true,true] Z Z (Qa (Qt Xo Z h3.at Z) Z (Qa (Qb Hk Z) Z (Qa (Qj Yo Z (h2.one 3 Z)) Z (Qa (Qb Hj Z) Z (Qa (Qj Yo Z (h2.one 4 Z)) Z (Qv Tryz.call116 Z (c_Changed [.int .i64 ((g.nodes[(Int.toNat r.op)]'hi1).kind),.int .i64 ((g.nodes[(Int.toNat r.op)]'hi1).a),.int .i64 ((g.nodes[(Int.toNat r.op)]'hi1).b),o2] (g.nodes[(Int.toNat r.op)]'hi1) r.key r.val _ (Node.mkR (g.nodes[(Int.toNat r.op)]'hi1) (RdD.any (hd2.ext E)))) Z (fun _ w10 e8 hv=>?_)))))))))
  subst hv
  replace E:=E.trans e8;replace h1:=h1.ext e8;replace h2:=h2.ext e8;replace h3:=h3.ext e8
  have z10:=e8.size
  refine Qa (Qc Z) Z (Qa (Yv Z Z) Z (Qa (Yv Z Z) Z (Qa (Yv Z Z) Z (Qa (Qe Z) Z (Qa (Qe Z) Z (Qa (Qe Z) Z (Qd (Qf (Qf (Qh [true,true,true,true,true,true,true] Z Z (Qa (Qc Z) Z (Qa (Yq Z) Z (Qa (Qc Z) Z (Y7 4 [(0,.agg [o1,.int .i64 g.workers,.int .i64 g.cap].toArray),(1,vcs),(2,.agg (Enc.enc r).toArray),(3,.pointer (some ⟨b1,0,none⟩)),(5,.pointer (some ⟨b2,0,none⟩)),(6,.slice none 0 0),(7,.slice none 0 0),(8,.bool false),(9,.pointer (some ⟨b3,0,none⟩)),(10,.int .i64 ((Qq (g.nodes[(Int.toNat r.op)]'hi1) r.key r.val).1)),(11,.int .i64 ((Qq (g.nodes[(Int.toNat r.op)]'hi1) r.key r.val).2.1)),(12,.bool ((Qq (g.nodes[(Int.toNat r.op)]'hi1) r.key r.val).2.2)),(33,.bool (((!(Ys g)) || (!(Yx r))) || (!(Y9 g r.op)))),(36,.pointer (some ⟨b1,0,none⟩)),(37,o1),(38,.pointer (some ⟨b2,0,none⟩)),(39,.int .i64 r.op),(40,.pointer (some ⟨Xf o1,Xm o1 + (Int.toNat r.op) * 4,none⟩)),(41,.agg [.int .i64 ((g.nodes[(Int.toNat r.op)]'hi1).kind),.int .i64 ((g.nodes[(Int.toNat r.op)]'hi1).a),.int .i64 ((g.nodes[(Int.toNat r.op)]'hi1).b),o2].toArray),(42,.tuple [.int .i64 ((Qq (g.nodes[(Int.toNat r.op)]'hi1) r.key r.val).1),.int .i64 ((Qq (g.nodes[(Int.toNat r.op)]'hi1) r.key r.val).2.1),.bool ((Qq (g.nodes[(Int.toNat r.op)]'hi1) r.key r.val).2.2)].toArray),(43,.agg [.int .i64 ((g.nodes[(Int.toNat r.op)]'hi1).kind),.int .i64 ((g.nodes[(Int.toNat r.op)]'hi1).a),.int .i64 ((g.nodes[(Int.toNat r.op)]'hi1).b),o2].toArray),(44,.pointer (some ⟨b2,3,none⟩)),(45,.int .i64 r.key),(46,.pointer (some ⟨b2,4,none⟩)),(47,.int .i64 r.val),(48,.tuple [.int .i64 ((Qq (g.nodes[(Int.toNat r.op)]'hi1) r.key r.val).1),.int .i64 ((Qq (g.nodes[(Int.toNat r.op)]'hi1) r.key r.val).2.1),.bool ((Qq (g.nodes[(Int.toNat r.op)]'hi1) r.key r.val).2.2)].toArray),(49,.int .i64 ((Qq (g.nodes[(Int.toNat r.op)]'hi1) r.key r.val).1)),(50,.int .i64 ((Qq (g.nodes[(Int.toNat r.op)]'hi1) r.key r.val).2.1)),(51,.bool ((Qq (g.nodes[(Int.toNat r.op)]'hi1) r.key r.val).2.2)),(58,.bool ((!((Qq (g.nodes[(Int.toNat r.op)]'hi1) r.key r.val).2.2)) && (((g.nodes[(Int.toNat r.op)]'hi1).kind) != 8)))] (fun w'=>w10 = w') ?_ ?_))))))))))))))
  ·refine Y3 (gd:=54) Z Z (fun hg3=>?_) (fun hg3=>?_)
   ·refine Qm Z Z (Qb Xk Z) Z (Qm Z Z (Qj Yo Z (h3.one 0 Z)) Z (Qm Z Z (Yu Z Z) Z (Qa (Qx Z Z) Z (Qp ⟨Z,Z,Z,Z,Z,Z,Z,Z,Z,Z,Z,Z,Z,Z,Z,Z,Z,Z,Z,Z,Z,Z,Z,Z,Z,Z,Z,Z,Z,congrArg (fun b=>some (Value.bool b)) (show (((g.nodes[(Int.toNat r.op)]'hi1).kind) != 8) = ((!((Qq (g.nodes[(Int.toNat r.op)]'hi1) r.key r.val).2.2)) && (((g.nodes[(Int.toNat r.op)]'hi1).kind) != 8)) by first | (rw [hg3] <;> rfl) | (simp [hg3];done) | (simp only [Qo] <;> simp)),trivial⟩ Z))))
   ·refine Qg Z Z Z Z (Qg Z Z Z Z (Qg Z Z Z Z (Qa (Qy Z Z) Z (Qp ⟨Z,Z,Z,Z,Z,Z,Z,Z,Z,Z,Z,Z,Z,Z,Z,Z,Z,Z,Z,Z,Z,Z,Z,Z,Z,Z,Z,Z,Z,congrArg (fun b=>some (Value.bool b)) (show false = ((!((Qq (g.nodes[(Int.toNat r.op)]'hi1) r.key r.val).2.2)) && (((g.nodes[(Int.toNat r.op)]'hi1).kind) != 8)) by first | (rw [hg3] <;> rfl) | (simp [hg3];done) | (simp only [Qo] <;> simp)),trivial⟩ Z))))
  rintro _ rfl
  refine Qd (Qs Z (fun hc2=>?_) (fun hc2=>?_))
  ·refine Qf (Qh [true,false,true,true,true] Z Z (Qa (Qc Z) Z (Qv Tryz.call108 Z (c_copyCells vcs cs _ (hcs.ext E) (by first | omega | (simp only [Qi];omega) | (rw [Qi];done) | (simp only [Qi];done))) Z (fun v2 w12 e9 ho2=>?_))))
   have g_ho2 : w.heap.size ≤ w10.heap.size:=E.size
   replace E:=E.trans e9;replace h1:=h1.ext e9;replace h2:=h2.ext e9;replace h3:=h3.ext e9
   have z11:=e9.size
   refine Qa (Qe Z) Z (Qa (Qe Z) Z (Qa (Qe Z) Z (Qd (Qw (Y5 (l:=[.tmp 6,.tmp 7,.tmp 8]) (vs:=[v2,.slice none 0 0,.bool true]) Z ⟨.tmp Z,.tmp Z,.tmp Z,trivial⟩ Z E ?_)))))
   rw [st_1 hc1 hx hc2]
   exact ⟨_,_,Z,Own.fin ho2 (by omega) (by omega) (by first | rfl | (simp only [List.nil_append];done)),Own.finNil Z,⟨⟨(Sep.nilR _),trivial⟩,⟨trivial,trivial⟩⟩⟩
  ·refine Qn (Qf (Qh [true,true,true,true,true,true,true,true,true,true,true,true,true,false,true,true,true,true,true] Z Z (Qa (Qb Xk Z) Z (Qa (Qj Yo Z (h3.one 0 Z)) Z (Qa (Qc Z) Z (Qa (Qb Uy Z) Z (Qa (Qj Yo Z (h2.one 0 Z)) Z (Qa (Qb Kx Z) Z (Qa (Qz Vi Z) Z (Qa (Qj Yo Z (h2.one 1 Z)) Z (Qa (Qb Hk Z) Z (Qa (Qj Yo Z (h2.one 3 Z)) Z (Qa (Qb Hj Z) Z (Qa (Qj Yo Z (h2.one 4 Z)) Z (Qa (Gs (⟨r.op,r.stamp.epoch,r.key,r.val⟩ : Cell) Z (fun _=>by kernel_rfl)) Z (Qv Tryz.call117 Z (c_Recall ((g.nodes[(Int.toNat r.op)]'hi1).kind) vcs cs (⟨r.op,r.stamp.epoch,r.key,r.val⟩ : Cell) _ (hcs.ext E) (by first | omega | (simp only [Qi];omega) | (rw [Qi];done) | (simp only [Qi];done))) Z (fun _ w13 e10 ho3=>?_)))))))))))))))))
   obtain ⟨v3,rfl,ho4⟩:=ho3
   have g_ho3 : w.heap.size ≤ w10.heap.size:=E.size
   replace E:=E.trans e10;replace h1:=h1.ext e10;replace h2:=h2.ext e10;replace h3:=h3.ext e10
   have z12:=e10.size
   refine Qa (Qc Z) Z (Qa (Yv Z Z) Z (Qa (Yv Z Z) Z (Qa (Qe Z) Z (Qa (Qe Z) Z (Qd (Qf (Qf (Qh [true,true] Z Z (Qa (Qc Z) Z (Qa (Yq Z) Z (Qd (Qs Z (fun hc3=>?_) (fun hc3=>?_)))))))))))))
   ·refine Qf (Qh [true,true,true,true] Z Z (Qa (Qc Z) Z (Qa (Qe Z) Z (Qa (Qe Z) Z (Qa (Qe Z) Z (Qd (Qw (Y5 (l:=[.tmp 6,.tmp 7,.tmp 8]) (vs:=[v3,.slice none 0 0,.bool true]) Z ⟨.tmp Z,.tmp Z,.tmp Z,trivial⟩ Z E ?_))))))))
    rw [st_2 hc1 hx hc2 hc3]
    exact ⟨_,_,Z,Own.fin ho4 (by omega) (by omega) (by first | rfl | (simp only [List.nil_append];done)),Own.finNil Z,⟨⟨(Sep.nilR _),trivial⟩,⟨trivial,trivial⟩⟩⟩
   ·refine Qn (Qf (Qh [true,true,false,false,true] Z Z (Qa (Qb Kx Z) Z (Qa (Qt Kb Z (h2.part 1 [.int .i64 r.stamp.epoch,.int .i64 r.stamp.turn] Z) Z) Z (Yk Kb Z (fun b4 w14 e11 s4 h4=>?_))))))
    have g_b4 : w.heap.size ≤ b4:=by have:=E.size;omega
    have y_b4:=h4.lt
    replace E:=E.trans e11;replace h1:=h1.ext e11;replace h2:=h2.ext e11;replace h3:=h3.ext e11;replace ho4:=ho4.ext e11
    have z13:=e11.size
    refine Q6 (cs':=[.int .i64 r.stamp.epoch,.int .i64 r.stamp.turn]) Kb Z Z Z Z h4 (Nat.le_of_ble_eq_true Z) Z (fun w15 m2 h4'=>?_)
    replace h4:=h4'
    replace E:=E.step m2 (fun g hg=>by cases hg;omega);replace h1:=h1.mod m2 (fun g hg=>by cases hg;omega);replace h2:=h2.mod m2 (fun g hg=>by cases hg;omega);replace h3:=h3.mod m2 (fun g hg=>by cases hg;omega);replace ho4:=ho4.mod m2 (fun g hg=>by cases hg;omega)
    have z14:=m2.size
    refine Qa (Qe Z) Z (Qd (Qf (Qf (Qh [true,true,true] Z Z (Qa (Qb Xk Z) Z (Qa (Qj Yo Z (h3.one 0 Z)) Z (Qa (Y6 Z Z) Z (Qd (Qs Z (fun hc4=>?_) (fun hc4=>?_))))))))))
    ·have hstm:=stamp_7 hx hc4
     refine Qh [true,true,false,true,true,true,false,true] Z Z (Qa (Qb Kx Z) Z (Qa (Qt Kb Z (h2.part 1 [.int .i64 r.stamp.epoch,.int .i64 r.stamp.turn] Z) Z) Z (Qv Tryz.call118 Z (c_NextTurn r.stamp _ ) Z (fun _ w16 e12 hv=>?_))))
     subst hv
     replace E:=E.trans e12;replace h1:=h1.ext e12;replace h2:=h2.ext e12;replace h3:=h3.ext e12;replace ho4:=ho4.ext e12;replace h4:=h4.ext e12
     have z15:=e12.size
     refine Qa (Qc Z) Z (Qa (Yv Z Z) Z (Qa (Yv Z Z) Z (Q6 (cs':=[.int .i64 (((Y2 r.stamp).1).epoch),.int .i64 (((Y2 r.stamp).1).turn)]) Kb Z Z Z Z h4 (Nat.le_of_ble_eq_true Z) Z (fun w17 m3 h4'=>?_))))
     replace h4:=h4'
     replace E:=E.step m3 (fun g hg=>by cases hg;omega);replace h1:=h1.mod m3 (fun g hg=>by cases hg;omega);replace h2:=h2.mod m3 (fun g hg=>by cases hg;omega);replace h3:=h3.mod m3 (fun g hg=>by cases hg;omega);replace ho4:=ho4.mod m3 (fun g hg=>by cases hg;omega)
     have z16:=m3.size
     refine Qa (Qe Z) Z (Qd (Qf (Qh [true] Z Z (Qa (Qe Z) Z (Qd (Qf (Qf (Qh [true,true,true,true] Z Z (Qa (Qb Y8 Z) Z (Qa (Qj Ke Z (h3.one 3 Z)) Z (Qa (Ya Tryz.underlying66 Z (hd2.ext E).len) Z (Qa (Qc Z) Z (Qd (Q0 (Ym (fun (xq : Nat × Value)=>let ⟨k,vo⟩:=xq;[(6,.slice none 0 0),(7,.slice none 0 0),(8,.bool false),(10,.int .i64 ((Qq (g.nodes[(Int.toNat r.op)]'hi1) r.key r.val).1)),(11,.int .i64 ((Qq (g.nodes[(Int.toNat r.op)]'hi1) r.key r.val).2.1)),(13,v3),(14,.pointer (some ⟨b4,0,none⟩)),(15,.bool ((Y2 r.stamp).2)),(16,vo),(93,o2),(94,.int .i64 ((((g.nodes[(Int.toNat r.op)]'hi1).outs).length : Nat) : Int)),(95,.int .i64 ((k : Nat) : Int))]) (fun (xq : Nat × Value) w'=>let ⟨k,vo⟩:=xq;Ext w w' ∧ w17.heap.size ≤ w'.heap.size ∧ Blk w' b1 ([o1,.int .i64 g.workers,.int .i64 g.cap]) ∧ Blk w' b2 (Enc.enc r) ∧ Blk w' b3 [.int .i64 ((g.nodes[(Int.toNat r.op)]'hi1).kind),.int .i64 ((g.nodes[(Int.toNat r.op)]'hi1).a),.int .i64 ((g.nodes[(Int.toNat r.op)]'hi1).b),o2] ∧ Own w' w10.heap.size w13.heap.size 4 v3 (List.flatMap (Enc.enc (α:=Cell)) ((X4 ((g.nodes[(Int.toNat r.op)]'hi1).kind) cs (⟨r.op,r.stamp.epoch,r.key,r.val⟩ : Cell)).1)) ∧ Blk w' b4 [.int .i64 (((Y2 r.stamp).1).epoch),.int .i64 (((Y2 r.stamp).1).turn)] ∧ k ≤ (g.nodes[Int.toNat r.op]'hop.2.2).outs.length ∧ Own w' w17.heap.size w'.heap.size 5 vo (List.flatMap (Enc.enc (α:=Record)) (V4 g r k))) (fun (xq : Nat × Value)=>let ⟨k,vo⟩:=xq;(g.nodes[Int.toNat r.op]'hop.2.2).outs.length - k) (0,.slice none 0 0) ⟨Z,Z,Z,Z,Z,Z,Z,Z,Z,Z,Z,Z,trivial⟩ ⟨E,Nat.le_refl _,h1,h2,h3,ho4,h4,Nat.zero_le _,Own.fin (Own.nil w17 w17.heap.size w17.heap.size 5) (by omega) (by omega) out_zero.symm⟩ ?_)))))))))))))))
     clear E h1 h2 h3 ho4 h4
     rintro ⟨k,vo⟩ w18 ⟨E,z17,h1,h2,h3,ho4,h4,hk,hvo⟩
     refine Q7 [(6,.slice none 0 0),(7,.slice none 0 0),(8,.bool false),(10,.int .i64 ((Qq (g.nodes[(Int.toNat r.op)]'hi1) r.key r.val).1)),(11,.int .i64 ((Qq (g.nodes[(Int.toNat r.op)]'hi1) r.key r.val).2.1)),(13,v3),(14,.pointer (some ⟨b4,0,none⟩)),(15,.bool ((Y2 r.stamp).2)),(16,vo),(93,o2),(94,.int .i64 ((((g.nodes[(Int.toNat r.op)]'hi1).outs).length : Nat) : Int)),(95,.int .i64 ((k : Nat) : Int))] ⟨Z,Z,Z,Z,Z,Z,Z,Z,Z,Z,Z,Z,trivial⟩ ?_
     refine Qf (Qh [true] Z Z (Qa (Yf Z Z) Z (Qd (Qf (Qs Z (fun hc5=>?_) (fun hc5=>?_))))))
     ·have hc5n : k < ((g.nodes[(Int.toNat r.op)]'hi1).outs).length:=by first | (have h:=of_decide_eq_true hc5;omega) | (have h:=hc5;simp at h;omega)
      refine Qn (Qf (Q0 (Qf (Qh [true,true,true] Z Z ?_))))
      have hi2 : k < ((g.nodes[(Int.toNat r.op)]'hi1).outs).length:=(by first | assumption | omega | (simp only [List.length_set];first | assumption | omega))
      refine Qa (Q1 (i:=k) Uv Z Z (hd2.rd.ext E) hi2) Z (Qa (Qj Yo Z (((hd2.rd.ext E).get hi2).one 0 Z)) Z (Qa (Qe Z) Z (Qd (Qf (Qh [true] Z Z (Qa (Qc Z) Z (Qd (Qs Z (fun hc6=>?_) (fun hc6=>?_)))))))))
      ·refine Qh [true,true,true,true,true,true,false,false,true] Z Z (Qa (Qc Z) Z (Qa (Qc Z) Z (Qa (Qt Kb Z h4.at Z) Z (Qa (Qc Z) Z (Qa (Qc Z) Z (Qa (Gs (⟨(((g.nodes[(Int.toNat r.op)]'hi1).outs)[k]'hi2),((Y2 r.stamp).1),(Qq (g.nodes[(Int.toNat r.op)]'hi1) r.key r.val).1,(Qq (g.nodes[(Int.toNat r.op)]'hi1) r.key r.val).2.1⟩ : Record) Z (fun _=>by kernel_rfl)) Z (Yz (vs:=[.agg (Enc.enc (⟨(((g.nodes[(Int.toNat r.op)]'hi1).outs)[k]'hi2),((Y2 r.stamp).1),(Qq (g.nodes[(Int.toNat r.op)]'hi1) r.key r.val).1,(Qq (g.nodes[(Int.toNat r.op)]'hi1) r.key r.val).2.1⟩ : Record)).toArray]) (css:=[[.int .i64 ((⟨(((g.nodes[(Int.toNat r.op)]'hi1).outs)[k]'hi2),((Y2 r.stamp).1),(Qq (g.nodes[(Int.toNat r.op)]'hi1) r.key r.val).1,(Qq (g.nodes[(Int.toNat r.op)]'hi1) r.key r.val).2.1⟩ : Record).op),.int .i64 (((⟨(((g.nodes[(Int.toNat r.op)]'hi1).outs)[k]'hi2),((Y2 r.stamp).1),(Qq (g.nodes[(Int.toNat r.op)]'hi1) r.key r.val).1,(Qq (g.nodes[(Int.toNat r.op)]'hi1) r.key r.val).2.1⟩ : Record).stamp).epoch),.int .i64 (((⟨(((g.nodes[(Int.toNat r.op)]'hi1).outs)[k]'hi2),((Y2 r.stamp).1),(Qq (g.nodes[(Int.toNat r.op)]'hi1) r.key r.val).1,(Qq (g.nodes[(Int.toNat r.op)]'hi1) r.key r.val).2.1⟩ : Record).stamp).turn),.int .i64 ((⟨(((g.nodes[(Int.toNat r.op)]'hi1).outs)[k]'hi2),((Y2 r.stamp).1),(Qq (g.nodes[(Int.toNat r.op)]'hi1) r.key r.val).1,(Qq (g.nodes[(Int.toNat r.op)]'hi1) r.key r.val).2.1⟩ : Record).key),.int .i64 ((⟨(((g.nodes[(Int.toNat r.op)]'hi1).outs)[k]'hi2),((Y2 r.stamp).1),(Qq (g.nodes[(Int.toNat r.op)]'hi1) r.key r.val).1,(Qq (g.nodes[(Int.toNat r.op)]'hi1) r.key r.val).2.1⟩ : Record).val)]]) Kn Z Z ⟨⟨Z,Z⟩,trivial⟩ Z Z (fun b5 w19 e13 s5 h5=>?_))))))))
       replace h5 : Blk w19 b5 [.int .i64 ((⟨(((g.nodes[(Int.toNat r.op)]'hi1).outs)[k]'hi2),((Y2 r.stamp).1),(Qq (g.nodes[(Int.toNat r.op)]'hi1) r.key r.val).1,(Qq (g.nodes[(Int.toNat r.op)]'hi1) r.key r.val).2.1⟩ : Record).op),.int .i64 (((⟨(((g.nodes[(Int.toNat r.op)]'hi1).outs)[k]'hi2),((Y2 r.stamp).1),(Qq (g.nodes[(Int.toNat r.op)]'hi1) r.key r.val).1,(Qq (g.nodes[(Int.toNat r.op)]'hi1) r.key r.val).2.1⟩ : Record).stamp).epoch),.int .i64 (((⟨(((g.nodes[(Int.toNat r.op)]'hi1).outs)[k]'hi2),((Y2 r.stamp).1),(Qq (g.nodes[(Int.toNat r.op)]'hi1) r.key r.val).1,(Qq (g.nodes[(Int.toNat r.op)]'hi1) r.key r.val).2.1⟩ : Record).stamp).turn),.int .i64 ((⟨(((g.nodes[(Int.toNat r.op)]'hi1).outs)[k]'hi2),((Y2 r.stamp).1),(Qq (g.nodes[(Int.toNat r.op)]'hi1) r.key r.val).1,(Qq (g.nodes[(Int.toNat r.op)]'hi1) r.key r.val).2.1⟩ : Record).key),.int .i64 ((⟨(((g.nodes[(Int.toNat r.op)]'hi1).outs)[k]'hi2),((Y2 r.stamp).1),(Qq (g.nodes[(Int.toNat r.op)]'hi1) r.key r.val).1,(Qq (g.nodes[(Int.toNat r.op)]'hi1) r.key r.val).2.1⟩ : Record).val)]:=h5
       have g_b5 : w.heap.size ≤ b5:=by have:=E.size;omega
       have y_b5:=h5.lt
       replace E:=E.trans e13;replace h1:=h1.ext e13;replace h2:=h2.ext e13;replace h3:=h3.ext e13;replace ho4:=ho4.ext e13;replace h4:=h4.ext e13;replace hvo:=hvo.ext e13
       have z18:=e13.size
       refine K8 Kn Z Z hvo (Src.ofBlk h5 Z) Z (by first | (simp only [Yb,List.length_nil,List.length_cons];simp only [Enc.sz];omega) | (have h:=Hv g r k;rw [Yb];simp only [show Enc.sz Record = 5 from Z,List.length_cons,List.length_nil];omega)) (by decide) (by omega) (by omega) Z Z (fun v4 w20 m4 ho5=>?_)
       replace E:=E.step m4 (fun g hg=>by have:=Own.blk hvo g hg;omega);replace h1:=h1.mod m4 (fun g hg=>by have:=Own.blk hvo g hg;omega);replace h2:=h2.mod m4 (fun g hg=>by have:=Own.blk hvo g hg;omega);replace h3:=h3.mod m4 (fun g hg=>by have:=Own.blk hvo g hg;omega);replace ho4:=ho4.mod m4 (fun g hg=>by have:=Own.blk hvo g hg;omega);replace h4:=h4.mod m4 (fun g hg=>by have:=Own.blk hvo g hg;omega)
       have z19:=m4.size
       refine Qa (Qe Z) Z (Qd (Q4 (Yr (Qh [true,true] Z Z (Qa (Q8 Z Z (Yt hc5n (hd2.ext E).1.1)) Z (Qa (Qc Z) Z (Qd (Q4 (Yc (k + 1,v4) (by dsimp only;omega) ⟨Z,Z,Z,Z,Z,Z,Z,Z,Z,Z,Z,Z,trivial⟩ ⟨E,(by omega),h1,h2,h3,ho4,h4,(by omega),Own.fin ho5 (Nat.le_refl _) (by omega) (Tc (by rw [hstm]) (by rw [hstm];exact hc6) hx (by omega))⟩)))))))))
      ·refine Qn (Q4 (Yr (Qh [true,true] Z Z (Qa (Q8 Z Z (Yt hc5n (hd2.ext E).1.1)) Z (Qa (Qc Z) Z (Qd (Q4 (Yc (k + 1,vo) (by dsimp only;omega) ⟨Z,Z,Z,Z,Z,Z,Z,Z,Z,Z,Z,Z,trivial⟩ ⟨E,(by omega),h1,h2,h3,ho4,h4,(by omega),Own.fin hvo (Nat.le_refl _) (by omega) (out_skip (by rw [hstm];exact hc6))⟩))))))))
     ·have hc5n : ¬ k < ((g.nodes[(Int.toNat r.op)]'hi1).outs).length:=by first | (have h:=of_decide_eq_false hc5;omega) | (have h:=hc5;simp at h;omega)
      refine Yn (Q5 (Q3 ?_))
      refine Qf (Qh [true,true,true,true,true] Z Z (Qa (Qc Z) Z (Qa (Qc Z) Z (Qa (Qe Z) Z (Qa (Qe Z) Z (Qa (Qe Z) Z (Qd (Qw (Y5 (l:=[.tmp 6,.tmp 7,.tmp 8]) (vs:=[v3,vo,.bool true]) Z ⟨.tmp Z,.tmp Z,.tmp Z,trivial⟩ Z E ?_)))))))))
      rw [st_3 hc1 hx hc2 hc3]
      exact ⟨_,_,Z,Own.fin ho4 (by omega) (by omega) (by first | rfl | (simp only [List.nil_append];done)),Own.fin hvo (by omega) (by omega) (by rw [show (g.nodes[Int.toNat r.op]'hop.2.2).outs.length = k from by omega]),⟨⟨(Own.sep ho4 hvo (by omega)),trivial⟩,⟨trivial,trivial⟩⟩⟩
    ·have hstm:=stamp_o hx hc4
     refine Qn (Qf (Qh [true] Z Z (Qa (Qe Z) Z (Qd (Qf (Qf (Qh [true,true,true,true] Z Z (Qa (Qb Y8 Z) Z (Qa (Qj Ke Z (h3.one 3 Z)) Z (Qa (Ya Tryz.underlying66 Z (hd2.ext E).len) Z (Qa (Qc Z) Z (Qd (Q0 (Ym (fun (xq : Nat × Value)=>let ⟨k,vo⟩:=xq;[(6,.slice none 0 0),(7,.slice none 0 0),(8,.bool false),(10,.int .i64 ((Qq (g.nodes[(Int.toNat r.op)]'hi1) r.key r.val).1)),(11,.int .i64 ((Qq (g.nodes[(Int.toNat r.op)]'hi1) r.key r.val).2.1)),(13,v3),(14,.pointer (some ⟨b4,0,none⟩)),(15,.bool true),(16,vo),(93,o2),(94,.int .i64 ((((g.nodes[(Int.toNat r.op)]'hi1).outs).length : Nat) : Int)),(95,.int .i64 ((k : Nat) : Int))]) (fun (xq : Nat × Value) w'=>let ⟨k,vo⟩:=xq;Ext w w' ∧ w15.heap.size ≤ w'.heap.size ∧ Blk w' b1 ([o1,.int .i64 g.workers,.int .i64 g.cap]) ∧ Blk w' b2 (Enc.enc r) ∧ Blk w' b3 [.int .i64 ((g.nodes[(Int.toNat r.op)]'hi1).kind),.int .i64 ((g.nodes[(Int.toNat r.op)]'hi1).a),.int .i64 ((g.nodes[(Int.toNat r.op)]'hi1).b),o2] ∧ Own w' w10.heap.size w13.heap.size 4 v3 (List.flatMap (Enc.enc (α:=Cell)) ((X4 ((g.nodes[(Int.toNat r.op)]'hi1).kind) cs (⟨r.op,r.stamp.epoch,r.key,r.val⟩ : Cell)).1)) ∧ Blk w' b4 [.int .i64 r.stamp.epoch,.int .i64 r.stamp.turn] ∧ k ≤ (g.nodes[Int.toNat r.op]'hop.2.2).outs.length ∧ Own w' w15.heap.size w'.heap.size 5 vo (List.flatMap (Enc.enc (α:=Record)) (V4 g r k))) (fun (xq : Nat × Value)=>let ⟨k,vo⟩:=xq;(g.nodes[Int.toNat r.op]'hop.2.2).outs.length - k) (0,.slice none 0 0) ⟨Z,Z,Z,Z,Z,Z,Z,Z,Z,Z,Z,Z,trivial⟩ ⟨E,Nat.le_refl _,h1,h2,h3,ho4,h4,Nat.zero_le _,Own.fin (Own.nil w15 w15.heap.size w15.heap.size 5) (by omega) (by omega) out_zero.symm⟩ ?_))))))))))))))
     clear E h1 h2 h3 ho4 h4
     rintro ⟨k,vo⟩ w21 ⟨E,z20,h1,h2,h3,ho4,h4,hk,hvo⟩
     refine Q7 [(6,.slice none 0 0),(7,.slice none 0 0),(8,.bool false),(10,.int .i64 ((Qq (g.nodes[(Int.toNat r.op)]'hi1) r.key r.val).1)),(11,.int .i64 ((Qq (g.nodes[(Int.toNat r.op)]'hi1) r.key r.val).2.1)),(13,v3),(14,.pointer (some ⟨b4,0,none⟩)),(15,.bool true),(16,vo),(93,o2),(94,.int .i64 ((((g.nodes[(Int.toNat r.op)]'hi1).outs).length : Nat) : Int)),(95,.int .i64 ((k : Nat) : Int))] ⟨Z,Z,Z,Z,Z,Z,Z,Z,Z,Z,Z,Z,trivial⟩ ?_
     refine Qf (Qh [true] Z Z (Qa (Yf Z Z) Z (Qd (Qf (Qs Z (fun hc7=>?_) (fun hc7=>?_))))))
     ·have hc7n : k < ((g.nodes[(Int.toNat r.op)]'hi1).outs).length:=by first | (have h:=of_decide_eq_true hc7;omega) | (have h:=hc7;simp at h;omega)
      refine Qn (Qf (Q0 (Qf (Qh [true,true,true] Z Z ?_))))
      have hi3 : k < ((g.nodes[(Int.toNat r.op)]'hi1).outs).length:=(by first | assumption | omega | (simp only [List.length_set];first | assumption | omega))
      refine Qa (Q1 (i:=k) Uv Z Z (hd2.rd.ext E) hi3) Z (Qa (Qj Yo Z (((hd2.rd.ext E).get hi3).one 0 Z)) Z (Qa (Qe Z) Z (Qd (Qf (Qh [true] Z Z (Qa (Qc Z) Z (Qd (S_condT Z (Qh [true,true,true,true,true,true,false,false,true] Z Z (Qa (Qc Z) Z (Qa (Qc Z) Z (Qa (Qt Kb Z h4.at Z) Z (Qa (Qc Z) Z (Qa (Qc Z) Z (Qa (Gs (⟨(((g.nodes[(Int.toNat r.op)]'hi1).outs)[k]'hi3),r.stamp,(Qq (g.nodes[(Int.toNat r.op)]'hi1) r.key r.val).1,(Qq (g.nodes[(Int.toNat r.op)]'hi1) r.key r.val).2.1⟩ : Record) Z (fun _=>by kernel_rfl)) Z (Yz (vs:=[.agg (Enc.enc (⟨(((g.nodes[(Int.toNat r.op)]'hi1).outs)[k]'hi3),r.stamp,(Qq (g.nodes[(Int.toNat r.op)]'hi1) r.key r.val).1,(Qq (g.nodes[(Int.toNat r.op)]'hi1) r.key r.val).2.1⟩ : Record)).toArray]) (css:=[[.int .i64 ((⟨(((g.nodes[(Int.toNat r.op)]'hi1).outs)[k]'hi3),r.stamp,(Qq (g.nodes[(Int.toNat r.op)]'hi1) r.key r.val).1,(Qq (g.nodes[(Int.toNat r.op)]'hi1) r.key r.val).2.1⟩ : Record).op),.int .i64 (((⟨(((g.nodes[(Int.toNat r.op)]'hi1).outs)[k]'hi3),r.stamp,(Qq (g.nodes[(Int.toNat r.op)]'hi1) r.key r.val).1,(Qq (g.nodes[(Int.toNat r.op)]'hi1) r.key r.val).2.1⟩ : Record).stamp).epoch),.int .i64 (((⟨(((g.nodes[(Int.toNat r.op)]'hi1).outs)[k]'hi3),r.stamp,(Qq (g.nodes[(Int.toNat r.op)]'hi1) r.key r.val).1,(Qq (g.nodes[(Int.toNat r.op)]'hi1) r.key r.val).2.1⟩ : Record).stamp).turn),.int .i64 ((⟨(((g.nodes[(Int.toNat r.op)]'hi1).outs)[k]'hi3),r.stamp,(Qq (g.nodes[(Int.toNat r.op)]'hi1) r.key r.val).1,(Qq (g.nodes[(Int.toNat r.op)]'hi1) r.key r.val).2.1⟩ : Record).key),.int .i64 ((⟨(((g.nodes[(Int.toNat r.op)]'hi1).outs)[k]'hi3),r.stamp,(Qq (g.nodes[(Int.toNat r.op)]'hi1) r.key r.val).1,(Qq (g.nodes[(Int.toNat r.op)]'hi1) r.key r.val).2.1⟩ : Record).val)]]) Kn Z Z ⟨⟨Z,Z⟩,trivial⟩ Z Z (fun b6 w22 e14 s6 h6=>?_)))))))))))))))))
      replace h6 : Blk w22 b6 [.int .i64 ((⟨(((g.nodes[(Int.toNat r.op)]'hi1).outs)[k]'hi3),r.stamp,(Qq (g.nodes[(Int.toNat r.op)]'hi1) r.key r.val).1,(Qq (g.nodes[(Int.toNat r.op)]'hi1) r.key r.val).2.1⟩ : Record).op),.int .i64 (((⟨(((g.nodes[(Int.toNat r.op)]'hi1).outs)[k]'hi3),r.stamp,(Qq (g.nodes[(Int.toNat r.op)]'hi1) r.key r.val).1,(Qq (g.nodes[(Int.toNat r.op)]'hi1) r.key r.val).2.1⟩ : Record).stamp).epoch),.int .i64 (((⟨(((g.nodes[(Int.toNat r.op)]'hi1).outs)[k]'hi3),r.stamp,(Qq (g.nodes[(Int.toNat r.op)]'hi1) r.key r.val).1,(Qq (g.nodes[(Int.toNat r.op)]'hi1) r.key r.val).2.1⟩ : Record).stamp).turn),.int .i64 ((⟨(((g.nodes[(Int.toNat r.op)]'hi1).outs)[k]'hi3),r.stamp,(Qq (g.nodes[(Int.toNat r.op)]'hi1) r.key r.val).1,(Qq (g.nodes[(Int.toNat r.op)]'hi1) r.key r.val).2.1⟩ : Record).key),.int .i64 ((⟨(((g.nodes[(Int.toNat r.op)]'hi1).outs)[k]'hi3),r.stamp,(Qq (g.nodes[(Int.toNat r.op)]'hi1) r.key r.val).1,(Qq (g.nodes[(Int.toNat r.op)]'hi1) r.key r.val).2.1⟩ : Record).val)]:=h6
      have g_b6 : w.heap.size ≤ b6:=by have:=E.size;omega
      have y_b6:=h6.lt
      replace E:=E.trans e14;replace h1:=h1.ext e14;replace h2:=h2.ext e14;replace h3:=h3.ext e14;replace ho4:=ho4.ext e14;replace h4:=h4.ext e14;replace hvo:=hvo.ext e14
      have z21:=e14.size
      refine K8 Kn Z Z hvo (Src.ofBlk h6 Z) Z (by first | (simp only [Yb,List.length_nil,List.length_cons];simp only [Enc.sz];omega) | (have h:=Hv g r k;rw [Yb];simp only [show Enc.sz Record = 5 from Z,List.length_cons,List.length_nil];omega)) (by decide) (by omega) (by omega) Z Z (fun v5 w23 m5 ho6=>?_)
      replace E:=E.step m5 (fun g hg=>by have:=Own.blk hvo g hg;omega);replace h1:=h1.mod m5 (fun g hg=>by have:=Own.blk hvo g hg;omega);replace h2:=h2.mod m5 (fun g hg=>by have:=Own.blk hvo g hg;omega);replace h3:=h3.mod m5 (fun g hg=>by have:=Own.blk hvo g hg;omega);replace ho4:=ho4.mod m5 (fun g hg=>by have:=Own.blk hvo g hg;omega);replace h4:=h4.mod m5 (fun g hg=>by have:=Own.blk hvo g hg;omega)
      have z22:=m5.size
      refine Qa (Qe Z) Z (Qd (Q4 (Yr (Qh [true,true] Z Z (Qa (Q8 Z Z (Yt hc7n (hd2.ext E).1.1)) Z (Qa (Qc Z) Z (Qd (Q4 (Yc (k + 1,v5) (by dsimp only;omega) ⟨Z,Z,Z,Z,Z,Z,Z,Z,Z,Z,Z,Z,trivial⟩ ⟨E,(by omega),h1,h2,h3,ho4,h4,(by omega),Own.fin ho6 (Nat.le_refl _) (by omega) (Tc (by rw [hstm]) (by rw [hstm]) hx (by omega))⟩)))))))))
     ·have hc7n : ¬ k < ((g.nodes[(Int.toNat r.op)]'hi1).outs).length:=by first | (have h:=of_decide_eq_false hc7;omega) | (have h:=hc7;simp at h;omega)
      refine Yn (Q5 (Q3 ?_))
      refine Qf (Qh [true,true,true,true,true] Z Z (Qa (Qc Z) Z (Qa (Qc Z) Z (Qa (Qe Z) Z (Qa (Qe Z) Z (Qa (Qe Z) Z (Qd (Qw (Y5 (l:=[.tmp 6,.tmp 7,.tmp 8]) (vs:=[v3,vo,.bool true]) Z ⟨.tmp Z,.tmp Z,.tmp Z,trivial⟩ Z E ?_)))))))))
      rw [st_3 hc1 hx hc2 hc3]
      exact ⟨_,_,Z,Own.fin ho4 (by omega) (by omega) (by first | rfl | (simp only [List.nil_append];done)),Own.fin hvo (by omega) (by omega) (by rw [show (g.nodes[Int.toNat r.op]'hop.2.2).outs.length = k from by omega]),⟨⟨(Own.sep ho4 hvo (by omega)),trivial⟩,⟨trivial,trivial⟩⟩⟩

end Go.Proofs.YtaangeddnfnhdaaGreat
