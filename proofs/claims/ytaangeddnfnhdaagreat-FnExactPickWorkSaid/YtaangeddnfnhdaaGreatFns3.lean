/- What the functions that the laws call come to: a contract each; no condition. -/
import Derived.Test.YtaangeddnfnhdaaGreatFns2
namespace Go.Proofs.YtaangeddnfnhdaaGreat
open Go Go.Proofs.YtaangeddnfnhdaaGreat.X Go.Proofs
set_option maxRecDepth 20000 in
theorem c_Capped (cg : List Value) (g : Graph) (r : Record) (w : World) (hg : Dat.R w 0 w.heap.size cg g) : Ct Tryz.prog 62 [.agg cg.toArray,.agg (Enc.enc r).toArray] w (fun v _=>v = .bool (U0 g r)):=by
 refine Yh Tryz.func62 Z Tryz.ntmps62 Z ?_
 obtain ⟨o1,rfl,hd1⟩:=Graph.op hg
 refine Q7 [(0,.agg [o1,.int .i64 g.workers,.int .i64 g.cap].toArray),(1,.agg (Enc.enc r).toArray)] ⟨Z,Z,trivial⟩ ?_
 have E : Ext w w:=Ext.refl w
 refine Qf (Qh [false,false,true] Z Z (Y1 Z Z (fun b1 w1 e1 s1 h1=>?_)))
 have g_b1 : w.heap.size ≤ b1:=by have:=E.size;omega
 have y_b1:=h1.lt
 replace E:=E.trans e1
 have z1:=e1.size
 refine Y1 Z Z (fun b2 w2 e2 s2 h2=>?_)
 have g_b2 : w.heap.size ≤ b2:=by have:=E.size;omega
 have y_b2:=h2.lt
 replace E:=E.trans e2;replace h1:=h1.ext e2
 have z2:=e2.size
 refine Qa (Qe Z) Z (Qd (Qf (Qf (Qh [true,false,true,true,true,false,true,true,true,true,true,true,false,true,true] Z Z (Qa (Qt Km Z h1.at Z) Z (Qv Tryz.call59 Z (c_GraphOk [o1,.int .i64 g.workers,.int .i64 g.cap] g _ (Graph.mkR g (RdD.any (hd1.ext E)))) Z (fun _ w3 e3 hv=>?_)))))))
 subst hv
 replace E:=E.trans e3;replace h1:=h1.ext e3;replace h2:=h2.ext e3
 have z3:=e3.size
 refine Qa (Yq Z) Z (Qa (Qc Z) Z (Y7 11 [(0,.agg [o1,.int .i64 g.workers,.int .i64 g.cap].toArray),(1,.agg (Enc.enc r).toArray),(2,.pointer (some ⟨b1,0,none⟩)),(3,.pointer (some ⟨b2,0,none⟩)),(4,.bool false),(22,.bool (((!(Ys g)) || (!(Yx r))) || (!(Y9 g r.op))))] (fun w'=>Ext w w' ∧ w3.heap.size ≤ w'.heap.size ∧ Blk w' b1 ([o1,.int .i64 g.workers,.int .i64 g.cap]) ∧ Blk w' b2 (Enc.enc r)) ?_ ?_))
 ·refine Y3 (gd:=11) Z Z (fun hg1=>?_) (fun hg1=>?_)
  ·refine Qg Z Z Z Z ?_
   refine Yp Z Z Z Z ?_
   refine Qg Z Z Z Z (Qa (Qx Z Z) Z (Qa (Qc Z) Z (Qg Z Z Z Z (Qg Z Z Z Z (Qg Z Z Z Z ?_)))))
   refine Yp Z Z Z Z ?_
   refine Qg Z Z Z Z (Qa (Qx Z Z) Z (Qp ⟨Z,Z,Z,Z,Z,congrArg (fun b=>some (Value.bool b)) (show true = (((!(Ys g)) || (!(Yx r))) || (!(Y9 g r.op))) by first | (rw [hg1] <;> rfl) | (simp [hg1];done) | (simp only [Qo] <;> simp)),trivial⟩ ⟨E,(by omega),h1,h2⟩))
  ·refine Qm Z Z (Qt Va Z h2.at Z) Z ?_
   refine Xp Z Z ?_
   refine Qv Tryz.call114 Z (c_RecordOk r _ ) Z (fun _ w5 e4 hv=>?_)
   subst hv
   replace E:=E.trans e4;replace h1:=h1.ext e4;replace h2:=h2.ext e4
   have z4:=e4.size
   refine Qm Z Z (Yq Z) Z (Qa (Qy Z Z) Z (Qa (Qc Z) Z ?_))
   refine Y3 (gd:=16) Z Z (fun hg2=>?_) (fun hg2=>?_)
   ·refine Qg Z Z Z Z (Qg Z Z Z Z (Qg Z Z Z Z ?_))
    refine Yp Z Z Z Z ?_
    refine Qg Z Z Z Z (Qa (Qx Z Z) Z (Qp ⟨Z,Z,Z,Z,Z,congrArg (fun b=>some (Value.bool b)) (show true = (((!(Ys g)) || (!(Yx r))) || (!(Y9 g r.op))) by first | (rw [hg1,hg2] <;> rfl) | (simp [hg1,hg2];done) | (simp only [Qo] <;> simp)),trivial⟩ ⟨E,(by omega),h1,h2⟩))
   ·refine Qm Z Z (Qt Km Z h1.at Z) Z (Qm Z Z (Qb Uy Z) Z (Qm Z Z (Qj Yo Z (h2.one 0 Z)) Z ?_))
    refine Xp Z Z ?_
    refine Qv Tryz.call115 Z (c_isNode [o1,.int .i64 g.workers,.int .i64 g.cap] g r.op _ (Graph.mkR g (RdD.any (hd1.ext E)))) Z (fun _ w6 e5 hv=>?_)
    subst hv
    replace E:=E.trans e5;replace h1:=h1.ext e5;replace h2:=h2.ext e5
    have z5:=e5.size
    refine Qm Z Z (Yq Z) Z (Qa (Qy Z Z) Z (Qp ⟨Z,Z,Z,Z,Z,congrArg (fun b=>some (Value.bool b)) (show (!(Y9 g r.op)) = (((!(Ys g)) || (!(Yx r))) || (!(Y9 g r.op))) by first | (rw [hg1,hg2] <;> rfl) | (simp [hg1,hg2];done) | (simp only [Qo] <;> simp)),trivial⟩ ⟨E,(by omega),h1,h2⟩))
 clear E h1 h2
 rintro w4 ⟨E,z6,h1,h2⟩
 refine Qd (Qs Z (fun hc1=>?_) (fun hc1=>?_))
 ·refine Qf (Qh [true] Z Z (Qa (Qe Z) Z (Qd (Qw (Ql Z Z E ?_)))))
  exact bf fun h=>capped_no h hc1
 ·have hq3:=or3 hc1
  have hop:=Vx hq3.2.2
  refine Qn (Qf (Qh [true,true,true,true,true,true,false,false] Z Z (Qa (Qb Kd Z) Z (Qa (Qj Gc Z (h1.one 0 Z)) Z (Qa (Qb Uy Z) Z (Qa (Qj Yo Z (h2.one 0 Z)) Z ?_))))))
  have hi1 : (Int.toNat r.op) < g.nodes.length:=(by first | assumption | omega | (simp only [List.length_set];first | assumption | omega))
  obtain ⟨_,hr1,ha1⟩:=RdD.get hd1 hi1
  obtain ⟨o2,rfl,hd2⟩:=Node.op hr1
  replace ha1 : At w (Xf o1) (Xm o1 + (Int.toNat r.op) * 4) [.int .i64 ((g.nodes[(Int.toNat r.op)]'hi1).kind),.int .i64 ((g.nodes[(Int.toNat r.op)]'hi1).a),.int .i64 ((g.nodes[(Int.toNat r.op)]'hi1).b),o2]:=ha1
  refine Qa (U3 (i:=(Int.toNat r.op)) Gv Z Z (hd1.ext E).1 (by omega) hi1) Z (Qa (Qt Xo Z (ha1.ext E) Z) Z (Yk Xo Z (fun b3 w7 e6 s3 h3=>?_)))
  have g_b3 : w.heap.size ≤ b3:=by have:=E.size;omega
  have y_b3:=h3.lt
  replace E:=E.trans e6;replace h1:=h1.ext e6;replace h2:=h2.ext e6
  have z7:=e6.size
  refine Q6 (cs':=[.int .i64 ((g.nodes[(Int.toNat r.op)]'hi1).kind),.int .i64 ((g.nodes[(Int.toNat r.op)]'hi1).a),.int .i64 ((g.nodes[(Int.toNat r.op)]'hi1).b),o2]) Xo Z Z Z (Qk Z (Qk Z (Qk Z (Qk (RdD.one (hd2.ext E)) Z)))) h3 (Nat.le_of_ble_eq_true Z) Z (fun w8 m1 h3'=>?_)
  replace h3:=h3'
  replace E:=E.step m1 (fun g hg=>by cases hg;omega);replace h1:=h1.mod m1 (fun g hg=>by cases hg;omega);replace h2:=h2.mod m1 (fun g hg=>by cases hg;omega)
  have z8:=m1.size
  refine Qd (Qf (Qh [true,true,false,true,true,true,false,false,true] Z Z (Qa (Qb Kx Z) Z (Qa (Qt Kb Z (h2.part 1 [.int .i64 r.stamp.epoch,.int .i64 r.stamp.turn] Z) Z) Z (Qv Tryz.call118 Z (c_NextTurn r.stamp _ ) Z (fun _ w9 e7 hv=>?_))))))
  subst hv
  replace E:=E.trans e7;replace h1:=h1.ext e7;replace h2:=h2.ext e7;replace h3:=h3.ext e7
  have z9:=e7.size
  refine Qa (Qc Z) Z (Qa (Yv Z Z) Z (Qa (Yv Z Z) Z (Yk Kb Z (fun b4 w10 e8 s4 h4=>?_))))
  have g_b4 : w.heap.size ≤ b4:=by have:=E.size;omega
  have y_b4:=h4.lt
  replace E:=E.trans e8;replace h1:=h1.ext e8;replace h2:=h2.ext e8;replace h3:=h3.ext e8
  have z10:=e8.size
  refine Q6 (cs':=[.int .i64 (((Y2 r.stamp).1).epoch),.int .i64 (((Y2 r.stamp).1).turn)]) Kb Z Z Z Z h4 (Nat.le_of_ble_eq_true Z) Z (fun w11 m2 h4'=>?_)
  replace h4:=h4'
  replace E:=E.step m2 (fun g hg=>by cases hg;omega);replace h1:=h1.mod m2 (fun g hg=>by cases hg;omega);replace h2:=h2.mod m2 (fun g hg=>by cases hg;omega);replace h3:=h3.mod m2 (fun g hg=>by cases hg;omega)
  have z11:=m2.size
  refine Qa (Qe Z) Z (Qd (Qf (Qh [true,true,true,true,true,true,true,true,true,true,true,true,true,true] Z Z (Qa (Qb Xk Z) Z (Qa (Qj Yo Z (h3.one 0 Z)) Z (Qa (Y6 Z Z) Z (Qa (Qc Z) Z (Y7 9 [(0,.agg [o1,.int .i64 g.workers,.int .i64 g.cap].toArray),(1,.agg (Enc.enc r).toArray),(2,.pointer (some ⟨b1,0,none⟩)),(3,.pointer (some ⟨b2,0,none⟩)),(4,.bool false),(5,.pointer (some ⟨b3,0,none⟩)),(6,.pointer (some ⟨b4,0,none⟩)),(7,.bool ((Y2 r.stamp).2)),(22,.bool (((!(Ys g)) || (!(Yx r))) || (!(Y9 g r.op)))),(23,.pointer (some ⟨b1,0,none⟩)),(24,o1),(25,.pointer (some ⟨b2,0,none⟩)),(26,.int .i64 r.op),(27,.pointer (some ⟨Xf o1,Xm o1 + (Int.toNat r.op) * 4,none⟩)),(28,.agg [.int .i64 ((g.nodes[(Int.toNat r.op)]'hi1).kind),.int .i64 ((g.nodes[(Int.toNat r.op)]'hi1).a),.int .i64 ((g.nodes[(Int.toNat r.op)]'hi1).b),o2].toArray),(29,.tuple [.agg (Enc.enc ((Y2 r.stamp).1)).toArray,.bool ((Y2 r.stamp).2)].toArray),(30,.pointer (some ⟨b2,1,none⟩)),(31,.agg (Enc.enc r.stamp).toArray),(32,.tuple [.agg (Enc.enc ((Y2 r.stamp).1)).toArray,.bool ((Y2 r.stamp).2)].toArray),(33,.agg (Enc.enc ((Y2 r.stamp).1)).toArray),(34,.bool ((Y2 r.stamp).2)),(47,.bool (((((g.nodes[(Int.toNat r.op)]'hi1).kind) == 7) && (decide (0 < ((((g.nodes[(Int.toNat r.op)]'hi1).outs).length : Nat) : Int)))) && (!((Y2 r.stamp).2))))] (fun w'=>w11 = w') ?_ ?_))))))))
  ·refine Y3 (gd:=38) Z Z (fun hg3=>?_) (fun hg3=>?_)
   ·refine Qm Z Z (Qb Y8 Z) Z (Qm Z Z (Qj Ke Z (h3.one 3 Z)) Z (Qm Z Z (Ya Tryz.underlying66 Z (hd2.ext E).len) Z (Qm Z Z (V0 Z Z) Z (Qa (Qx Z Z) Z (Qa (Qc Z) Z ?_)))))
    refine Y3 (gd:=44) Z Z (fun hg4=>?_) (fun hg4=>?_)
    ·have hg4n : ((g.nodes[(Int.toNat r.op)]'hi1).outs).length > 0:=by first | (have h:=of_decide_eq_true hg4;omega) | (have h:=hg4;simp at h;omega)
     refine Qm Z Z (Qc Z) Z (Qm Z Z (Yq Z) Z (Qa (Qx Z Z) Z (Qp ⟨Z,Z,Z,Z,Z,Z,Z,Z,Z,Z,Z,Z,Z,Z,Z,Z,Z,Z,Z,Z,Z,congrArg (fun b=>some (Value.bool b)) (show (!((Y2 r.stamp).2)) = (((((g.nodes[(Int.toNat r.op)]'hi1).kind) == 7) && (decide (0 < ((((g.nodes[(Int.toNat r.op)]'hi1).outs).length : Nat) : Int)))) && (!((Y2 r.stamp).2))) by first | (rw [hg3,hg4] <;> rfl) | (simp [hg3,hg4];done) | (simp only [Qo] <;> simp)),trivial⟩ Z)))
    ·have hg4n : ¬ ((g.nodes[(Int.toNat r.op)]'hi1).outs).length > 0:=by first | (have h:=of_decide_eq_false hg4;omega) | (have h:=hg4;simp at h;omega)
     refine Qg Z Z Z Z (Qg Z Z Z Z (Qa (Qy Z Z) Z (Qp ⟨Z,Z,Z,Z,Z,Z,Z,Z,Z,Z,Z,Z,Z,Z,Z,Z,Z,Z,Z,Z,Z,congrArg (fun b=>some (Value.bool b)) (show false = (((((g.nodes[(Int.toNat r.op)]'hi1).kind) == 7) && (decide (0 < ((((g.nodes[(Int.toNat r.op)]'hi1).outs).length : Nat) : Int)))) && (!((Y2 r.stamp).2))) by first | (rw [hg3,hg4] <;> rfl) | (simp [hg3,hg4];done) | (simp only [Qo] <;> simp)),trivial⟩ Z)))
   ·refine Qg Z Z Z Z (Qg Z Z Z Z (Qg Z Z Z Z (Qg Z Z Z Z (Qa (Qy Z Z) Z (Qa (Qc Z) Z (Qg Z Z Z Z (Qg Z Z Z Z (Qa (Qy Z Z) Z (Qp ⟨Z,Z,Z,Z,Z,Z,Z,Z,Z,Z,Z,Z,Z,Z,Z,Z,Z,Z,Z,Z,Z,congrArg (fun b=>some (Value.bool b)) (show false = (((((g.nodes[(Int.toNat r.op)]'hi1).kind) == 7) && (decide (0 < ((((g.nodes[(Int.toNat r.op)]'hi1).outs).length : Nat) : Int)))) && (!((Y2 r.stamp).2))) by first | (rw [hg3] <;> rfl) | (simp [hg3];done) | (simp only [Qo] <;> simp)),trivial⟩ Z)))))))))
  rintro _ rfl
  refine Qa (Qe Z) Z (Qd (Qw (Ql Z Z E ?_)))
  exact congrArg Value.bool (capped_yes hq3 (by omega)).symm

set_option maxRecDepth 20000 in
theorem s_Capped (cg : List Value) (g : Graph) (r : Record) (w : World) (hg : Dat.R w 0 w.heap.size cg g) (hb : Xa g ≤ 1048576) : Ct Tryz.prog 48 [.agg cg.toArray,.agg (Enc.enc r).toArray] w (fun v _=>v = .bool (U0 g r)):=by
 refine Yh Tryz.func48 Z Tryz.ntmps48 Z ?_
 obtain ⟨o1,rfl,hd1⟩:=Graph.op hg
 refine Q7 [(0,.agg [o1,.int .i64 g.workers,.int .i64 g.cap].toArray),(1,.agg (Enc.enc r).toArray)] ⟨Z,Z,trivial⟩ ?_
 have E : Ext w w:=Ext.refl w
 refine Qf (Qh [false,false,true] Z Z (Y1 Z Z (fun b1 w1 e1 s1 h1=>?_)))
 have g_b1 : w.heap.size ≤ b1:=by have:=E.size;omega
 have y_b1:=h1.lt
 replace E:=E.trans e1
 have z1:=e1.size
 refine Y1 Z Z (fun b2 w2 e2 s2 h2=>?_)
 have g_b2 : w.heap.size ≤ b2:=by have:=E.size;omega
 have y_b2:=h2.lt
 replace E:=E.trans e2;replace h1:=h1.ext e2
 have z2:=e2.size
 refine Qa (Qe Z) Z (Qd (Qf (Qh [true,true,true,false,true,true,true,false,false,true] Z Z (Qa (Qt Km Z h1.at Z) Z (Qa (Qb Uy Z) Z (Qa (Qj Yo Z (h2.one 0 Z)) Z (Qv Tryz.call94 Z (s_NodeOf [o1,.int .i64 g.workers,.int .i64 g.cap] g r.op _ (Graph.mkR g (RdD.any (hd1.ext E))) (by first | omega | (simp only [Qi];omega) | (rw [Qi];done) | (simp only [Qi];done))) Z (fun _ w3 e3 ho1=>?_))))))))
 obtain ⟨_,rfl,ho2⟩:=ho1
 have g_ho1 : w.heap.size ≤ w2.heap.size:=E.size
 replace E:=E.trans e3;replace h1:=h1.ext e3;replace h2:=h2.ext e3
 have z3:=e3.size
 obtain ⟨o2,rfl,sp1,hw1⟩:=Node.opO ho2
 refine Qa (Qc Z) Z (Qa (Yv Z Z) Z (Qa (Yv Z Z) Z (Yk Xo Z (fun b3 w4 e4 s3 h3=>?_))))
 have g_b3 : w.heap.size ≤ b3:=by have:=E.size;omega
 have y_b3:=h3.lt
 replace E:=E.trans e4;replace h1:=h1.ext e4;replace h2:=h2.ext e4;replace hw1:=hw1.ext e4
 have z4:=e4.size
 refine Q6 (cs':=[.int .i64 (((Qr g r.op).1).kind),.int .i64 (((Qr g r.op).1).a),.int .i64 (((Qr g r.op).1).b),o2]) Xo Z Z Z (Qk Z (Qk Z (Qk Z (Qk hw1.one Z)))) h3 (Nat.le_of_ble_eq_true Z) Z (fun w5 m1 h3'=>?_)
 replace h3:=h3'
 replace E:=E.step m1 (fun g hg=>by cases hg;omega);replace h1:=h1.mod m1 (fun g hg=>by cases hg;omega);replace h2:=h2.mod m1 (fun g hg=>by cases hg;omega);replace hw1:=hw1.mod m1 (fun g hg=>by cases hg;omega)
 have z5:=m1.size
 refine Qa (Qe Z) Z (Qd (Qf (Qh [true,true,false,true,true,true,false,false,true] Z Z (Qa (Qb Kx Z) Z (Qa (Qt Kb Z (h2.part 1 [.int .i64 r.stamp.epoch,.int .i64 r.stamp.turn] Z) Z) Z (Qv Tryz.call99 Z (s_NextTurn r.stamp _ ) Z (fun _ w6 e5 hv=>?_)))))))
 subst hv
 replace E:=E.trans e5;replace h1:=h1.ext e5;replace h2:=h2.ext e5;replace hw1:=hw1.ext e5;replace h3:=h3.ext e5
 have z6:=e5.size
 refine Qa (Qc Z) Z (Qa (Yv Z Z) Z (Qa (Yv Z Z) Z (Yk Kb Z (fun b4 w7 e6 s4 h4=>?_))))
 have g_b4 : w.heap.size ≤ b4:=by have:=E.size;omega
 have y_b4:=h4.lt
 replace E:=E.trans e6;replace h1:=h1.ext e6;replace h2:=h2.ext e6;replace hw1:=hw1.ext e6;replace h3:=h3.ext e6
 have z7:=e6.size
 refine Q6 (cs':=[.int .i64 (((Y2 r.stamp).1).epoch),.int .i64 (((Y2 r.stamp).1).turn)]) Kb Z Z Z Z h4 (Nat.le_of_ble_eq_true Z) Z (fun w8 m2 h4'=>?_)
 replace h4:=h4'
 replace E:=E.step m2 (fun g hg=>by cases hg;omega);replace h1:=h1.mod m2 (fun g hg=>by cases hg;omega);replace h2:=h2.mod m2 (fun g hg=>by cases hg;omega);replace hw1:=hw1.mod m2 (fun g hg=>by cases hg;omega);replace h3:=h3.mod m2 (fun g hg=>by cases hg;omega)
 have z8:=m2.size
 refine Qa (Qe Z) Z (Qd (Qf (Qh [true,true,true,false,true,true,true,false,true,true,true,true,true,true,true,true,true,true,true,true,true,true,true,true,true] Z Z (Qa (Qc Z) Z (Qa (Qc Z) Z (Y7 22 [(0,.agg [o1,.int .i64 g.workers,.int .i64 g.cap].toArray),(1,.agg (Enc.enc r).toArray),(2,.pointer (some ⟨b1,0,none⟩)),(3,.pointer (some ⟨b2,0,none⟩)),(4,.bool false),(5,.pointer (some ⟨b3,0,none⟩)),(6,.bool ((Qr g r.op).2)),(7,.pointer (some ⟨b4,0,none⟩)),(8,.bool ((Y2 r.stamp).2)),(9,.tuple [.agg [.int .i64 (((Qr g r.op).1).kind),.int .i64 (((Qr g r.op).1).a),.int .i64 (((Qr g r.op).1).b),o2].toArray,.bool ((Qr g r.op).2)].toArray),(10,.agg [o1,.int .i64 g.workers,.int .i64 g.cap].toArray),(11,.pointer (some ⟨b2,0,none⟩)),(12,.int .i64 r.op),(13,.tuple [.agg [.int .i64 (((Qr g r.op).1).kind),.int .i64 (((Qr g r.op).1).a),.int .i64 (((Qr g r.op).1).b),o2].toArray,.bool ((Qr g r.op).2)].toArray),(14,.agg [.int .i64 (((Qr g r.op).1).kind),.int .i64 (((Qr g r.op).1).a),.int .i64 (((Qr g r.op).1).b),o2].toArray),(15,.bool ((Qr g r.op).2)),(16,.tuple [.agg (Enc.enc ((Y2 r.stamp).1)).toArray,.bool ((Y2 r.stamp).2)].toArray),(17,.pointer (some ⟨b2,1,none⟩)),(18,.agg (Enc.enc r.stamp).toArray),(19,.tuple [.agg (Enc.enc ((Y2 r.stamp).1)).toArray,.bool ((Y2 r.stamp).2)].toArray),(20,.agg (Enc.enc ((Y2 r.stamp).1)).toArray),(21,.bool ((Y2 r.stamp).2)),(45,.bool (((((((Qr g r.op).2) && (Ys g)) && (Yx r)) && ((((Qr g r.op).1).kind) == 7)) && (decide (0 < (((((Qr g r.op).1).outs).length : Nat) : Int)))) && (!((Y2 r.stamp).2))))] (fun w'=>Ext w w' ∧ w8.heap.size ≤ w'.heap.size ∧ Blk w' b1 ([o1,.int .i64 g.workers,.int .i64 g.cap]) ∧ Blk w' b2 (Enc.enc r) ∧ Own w' w2.heap.size w3.heap.size 1 o2 (List.flatMap (Enc.enc (α:=Int)) (((Qr g r.op).1).outs)) ∧ Blk w' b3 [.int .i64 (((Qr g r.op).1).kind),.int .i64 (((Qr g r.op).1).a),.int .i64 (((Qr g r.op).1).b),o2] ∧ Blk w' b4 [.int .i64 (((Y2 r.stamp).1).epoch),.int .i64 (((Y2 r.stamp).1).turn)]) ?_ ?_))))))
 ·refine Y3 (gd:=23) Z Z (fun hg1=>?_) (fun hg1=>?_)
  ·refine Qm Z Z (Qt Km Z h1.at Z) Z ?_
   refine Xp Z Z ?_
   refine Qv Tryz.call89 Z (s_GraphOk [o1,.int .i64 g.workers,.int .i64 g.cap] g _ (Graph.mkR g (RdD.any (hd1.ext E)))) Z (fun _ w10 e7 hv=>?_)
   subst hv
   replace E:=E.trans e7;replace h1:=h1.ext e7;replace h2:=h2.ext e7;replace hw1:=hw1.ext e7;replace h3:=h3.ext e7;replace h4:=h4.ext e7
   have z9:=e7.size
   refine Qa (Qx Z Z) Z (Qa (Qc Z) Z (Y3 (gd:=27) Z Z (fun hg2=>?_) (fun hg2=>?_)))
   ·refine Qm Z Z (Qt Va Z h2.at Z) Z ?_
    refine Xp Z Z ?_
    refine Qv Tryz.call95 Z (s_RecordOk r _ ) Z (fun _ w11 e8 hv=>?_)
    subst hv
    replace E:=E.trans e8;replace h1:=h1.ext e8;replace h2:=h2.ext e8;replace hw1:=hw1.ext e8;replace h3:=h3.ext e8;replace h4:=h4.ext e8
    have z10:=e8.size
    refine Qa (Qx Z Z) Z (Qa (Qc Z) Z (Y3 (gd:=31) Z Z (fun hg3=>?_) (fun hg3=>?_)))
    ·refine Qm Z Z (Qb Xk Z) Z (Qm Z Z (Qj Yo Z (h3.one 0 Z)) Z (Qm Z Z (Y6 Z Z) Z (Qa (Qx Z Z) Z (Qa (Qc Z) Z ?_))))
     refine Y3 (gd:=36) Z Z (fun hg4=>?_) (fun hg4=>?_)
     ·refine Qm Z Z (Qb Y8 Z) Z (Qm Z Z (Qj Ke Z (h3.one 3 Z)) Z (Qm Z Z (Ya Tryz.underlying66 Z (Own.len (by decide) hw1)) Z (Qm Z Z (V0 Z Z) Z (Qa (Qx Z Z) Z (Qa (Qc Z) Z ?_)))))
      refine Y3 (gd:=42) Z Z (fun hg5=>?_) (fun hg5=>?_)
      ·have hg5n : (((Qr g r.op).1).outs).length > 0:=by first | (have h:=of_decide_eq_true hg5;omega) | (have h:=hg5;simp at h;omega)
       refine Qm Z Z (Qc Z) Z (Qm Z Z (Yq Z) Z (Qa (Qx Z Z) Z (Qp ⟨Z,Z,Z,Z,Z,Z,Z,Z,Z,Z,Z,Z,Z,Z,Z,Z,Z,Z,Z,Z,Z,Z,congrArg (fun b=>some (Value.bool b)) (show (!((Y2 r.stamp).2)) = (((((((Qr g r.op).2) && (Ys g)) && (Yx r)) && ((((Qr g r.op).1).kind) == 7)) && (decide (0 < (((((Qr g r.op).1).outs).length : Nat) : Int)))) && (!((Y2 r.stamp).2))) by first | (rw [hg1,hg2,hg3,hg4,hg5] <;> rfl) | (simp [hg1,hg2,hg3,hg4,hg5];done) | (simp only [Qo] <;> simp)),trivial⟩ ⟨E,(by omega),h1,h2,hw1,h3,h4⟩)))
      ·have hg5n : ¬ (((Qr g r.op).1).outs).length > 0:=by first | (have h:=of_decide_eq_false hg5;omega) | (have h:=hg5;simp at h;omega)
       refine Qg Z Z Z Z (Qg Z Z Z Z (Qa (Qy Z Z) Z (Qp ⟨Z,Z,Z,Z,Z,Z,Z,Z,Z,Z,Z,Z,Z,Z,Z,Z,Z,Z,Z,Z,Z,Z,congrArg (fun b=>some (Value.bool b)) (show false = (((((((Qr g r.op).2) && (Ys g)) && (Yx r)) && ((((Qr g r.op).1).kind) == 7)) && (decide (0 < (((((Qr g r.op).1).outs).length : Nat) : Int)))) && (!((Y2 r.stamp).2))) by first | (rw [hg1,hg2,hg3,hg4,hg5] <;> rfl) | (simp [hg1,hg2,hg3,hg4,hg5];done) | (simp only [Qo] <;> simp)),trivial⟩ ⟨E,(by omega),h1,h2,hw1,h3,h4⟩)))
     ·refine Qg Z Z Z Z (Qg Z Z Z Z (Qg Z Z Z Z (Qg Z Z Z Z (Qa (Qy Z Z) Z (Qa (Qc Z) Z (Qg Z Z Z Z (Qg Z Z Z Z (Qa (Qy Z Z) Z (Qp ⟨Z,Z,Z,Z,Z,Z,Z,Z,Z,Z,Z,Z,Z,Z,Z,Z,Z,Z,Z,Z,Z,Z,congrArg (fun b=>some (Value.bool b)) (show false = (((((((Qr g r.op).2) && (Ys g)) && (Yx r)) && ((((Qr g r.op).1).kind) == 7)) && (decide (0 < (((((Qr g r.op).1).outs).length : Nat) : Int)))) && (!((Y2 r.stamp).2))) by first | (rw [hg1,hg2,hg3,hg4] <;> rfl) | (simp [hg1,hg2,hg3,hg4];done) | (simp only [Qo] <;> simp)),trivial⟩ ⟨E,(by omega),h1,h2,hw1,h3,h4⟩)))))))))
    ·refine Qg Z Z Z Z (Qg Z Z Z Z (Qg Z Z Z Z (Qa (Qy Z Z) Z (Qa (Qc Z) Z (Qg Z Z Z Z (Qg Z Z Z Z (Qg Z Z Z Z (Qg Z Z Z Z (Qa (Qy Z Z) Z (Qa (Qc Z) Z (Qg Z Z Z Z (Qg Z Z Z Z (Qa (Qy Z Z) Z (Qp ⟨Z,Z,Z,Z,Z,Z,Z,Z,Z,Z,Z,Z,Z,Z,Z,Z,Z,Z,Z,Z,Z,Z,congrArg (fun b=>some (Value.bool b)) (show false = (((((((Qr g r.op).2) && (Ys g)) && (Yx r)) && ((((Qr g r.op).1).kind) == 7)) && (decide (0 < (((((Qr g r.op).1).outs).length : Nat) : Int)))) && (!((Y2 r.stamp).2))) by first | (rw [hg1,hg2,hg3] <;> rfl) | (simp [hg1,hg2,hg3];done) | (simp only [Qo] <;> simp)),trivial⟩ ⟨E,(by omega),h1,h2,hw1,h3,h4⟩))))))))))))))
   ·refine Qg Z Z Z Z ?_
    refine Yp Z Z Z Z ?_
    refine Qa (Qy Z Z) Z (Qa (Qc Z) Z (Qg Z Z Z Z (Qg Z Z Z Z (Qg Z Z Z Z (Qa (Qy Z Z) Z (Qa (Qc Z) Z (Qg Z Z Z Z (Qg Z Z Z Z (Qg Z Z Z Z (Qg Z Z Z Z (Qa (Qy Z Z) Z (Qa (Qc Z) Z (Qg Z Z Z Z (Qg Z Z Z Z (Qa (Qy Z Z) Z (Qp ⟨Z,Z,Z,Z,Z,Z,Z,Z,Z,Z,Z,Z,Z,Z,Z,Z,Z,Z,Z,Z,Z,Z,congrArg (fun b=>some (Value.bool b)) (show false = (((((((Qr g r.op).2) && (Ys g)) && (Yx r)) && ((((Qr g r.op).1).kind) == 7)) && (decide (0 < (((((Qr g r.op).1).outs).length : Nat) : Int)))) && (!((Y2 r.stamp).2))) by first | (rw [hg1,hg2] <;> rfl) | (simp [hg1,hg2];done) | (simp only [Qo] <;> simp)),trivial⟩ ⟨E,(by omega),h1,h2,hw1,h3,h4⟩))))))))))))))))
  ·refine Qg Z Z Z Z ?_
   refine Yp Z Z Z Z ?_
   refine Qa (Qy Z Z) Z (Qa (Qc Z) Z (Qg Z Z Z Z (Yp Z Z Z Z (Qa (Qy Z Z) Z (Qa (Qc Z) Z (Qg Z Z Z Z (Qg Z Z Z Z (Qg Z Z Z Z (Qa (Qy Z Z) Z (Qa (Qc Z) Z (Qg Z Z Z Z (Qg Z Z Z Z (Qg Z Z Z Z (Qg Z Z Z Z (Qa (Qy Z Z) Z (Qa (Qc Z) Z (Qg Z Z Z Z (Qg Z Z Z Z (Qa (Qy Z Z) Z (Qp ⟨Z,Z,Z,Z,Z,Z,Z,Z,Z,Z,Z,Z,Z,Z,Z,Z,Z,Z,Z,Z,Z,Z,congrArg (fun b=>some (Value.bool b)) (show false = (((((((Qr g r.op).2) && (Ys g)) && (Yx r)) && ((((Qr g r.op).1).kind) == 7)) && (decide (0 < (((((Qr g r.op).1).outs).length : Nat) : Int)))) && (!((Y2 r.stamp).2))) by first | (rw [hg1] <;> rfl) | (simp [hg1];done) | (simp only [Qo] <;> simp)),trivial⟩ ⟨E,(by omega),h1,h2,hw1,h3,h4⟩))))))))))))))))))))
 clear E h1 h2 hw1 h3 h4
 rintro w9 ⟨E,z11,h1,h2,hw1,h3,h4⟩
 refine Qa (Qe Z) Z (Qd (Qw (Ql Z Z E ?_)))
 rfl

set_option maxRecDepth 20000 in
theorem markRecordS (vxs : Value) (lo hi : Nat) (xs : List Record) (k : Nat) (w : World) (hxs : Own w lo hi 5 vxs (List.flatMap (Enc.enc (α:=Record)) xs)) (hb : k + xs.length * 5 ≤ 1099511627776) : CtR Tryz.prog 69 [vxs,.int .i64 ((k : Nat) : Int)] w lo hi (fun v w'=>v = .int .i64 ((k + 5 * xs.length : Nat) : Int) ∧ Own w' lo hi 5 vxs (List.flatMap (Enc.enc (α:=Record)) (V2 5 Ky k xs.length))):=by
 refine Vs Tryz.func69 Z Tryz.ntmps69 Z ?_
 refine Q7 [(0,vxs),(1,.int .i64 ((k : Nat) : Int))] ⟨Z,Z,trivial⟩ ?_
 have E : ModR w w lo hi:=ModR.refl w lo hi
 refine Qf (Qh [true] Z Z (Qa (Qe Z) Z (Qd (Qf (Qf (Qh [true] Z Z (Qa (Qe Z) Z (Qd (Q0 (Ym (fun (xq : Nat × Nat × List Record)=>let ⟨i,q,bs⟩:=xq;[(0,vxs),(1,.int .i64 ((q : Nat) : Int)),(4,.int .i64 0),(5,.int .i64 ((i : Nat) : Int))]) (fun (xq : Nat × Nat × List Record) w'=>let ⟨i,q,bs⟩:=xq;ModR w w' lo hi ∧ w.heap.size ≤ w'.heap.size ∧ i + bs.length = xs.length ∧ q = k + 5 * i ∧ Own w' lo hi 5 vxs (List.flatMap (Enc.enc (α:=Record)) (V2 5 Ky k i ++ bs))) (fun (xq : Nat × Nat × List Record)=>let ⟨i,q,bs⟩:=xq;xs.length - i) (0,k,xs) ⟨Z,Z,Z,Z,trivial⟩ ⟨E,Nat.le_refl _,(by simp),(by simp),(by simpa [V2] using hxs)⟩ ?_))))))))))
 clear E hxs
 rintro ⟨i,q,bs⟩ w1 ⟨E,z1,hi,hq,hxs⟩
 refine Q7 [(0,vxs),(1,.int .i64 ((q : Nat) : Int)),(4,.int .i64 0),(5,.int .i64 ((i : Nat) : Int))] ⟨Z,Z,Z,Z,trivial⟩ ?_
 refine Qf (Qf (Qh [true,true,true,true] Z Z (Qa (Qc Z) Z (Qa (Qc Z) Z (Qa (Ya Tryz.underlying64 Z (Own.lenE (by decide) hxs (by simp only [List.length_append,Qi,List.length_cons];omega))) Z (Qa (Yf Z Z) Z (Qd (Qs Z (fun hc1=>?_) (fun hc1=>?_)))))))))
 ·rcases bs with _ | ⟨x,bs⟩
  ·exact absurd hi (by have h:=hc1;simp at h ⊢;omega)
  simp only [List.length_cons] at hi
  have hc1n : i < xs.length:=by first | (have h:=of_decide_eq_true hc1;omega) | (have h:=hc1;simp at h;omega)
  refine Qn (Qf (Q0 (Qf (Qh [true,true,true,true,true,false] Z Z (Qa (Qc Z) Z (Qa (Qc Z) Z (Qa (Qc Z) Z (Qa (Q1 Kn Z Z (Own.rd (by decide) hxs) (by simp only [List.length_append,Qi,List.length_cons];omega)) Z (Qa (Qz Uy Z) Z (Xh (α:=Record) (i:=i) (f:=0) (⟨((q : Nat) : Int),x.stamp,x.key,x.val⟩ : Record) Yo Z Z Z Z hxs (Qi _ _ _ _) (by decide) Z (fun w2 m1 hxs'=>?_)))))))))))
  have hq:=hxs.blk
  replace hxs:=hxs'
  replace E:=E.mod m1 (fun g hg=>by have:=hq g hg;omega)
  have z2:=m1.size
  clear hq
  refine Qd (Qf (Qh [true,true,true] Z Z (Qa (Qc Z) Z (Qa (Q8 Z Z (Ye (by unfold maxLen;omega))) Z (Qa (Qe Z) Z (Qd (Qf (Qh [true,true,true,true,true,true,false] Z Z (Qa (Qc Z) Z (Qa (Qc Z) Z (Qa (Qc Z) Z (Qa (Q1 Kn Z Z (Own.rd (by decide) hxs) (by simp only [List.length_append,Qi,List.length_cons];omega)) Z (Qa (Qz Kx Z) Z (Qa (Qz Vi Z) Z (Xh (α:=Record) (i:=i) (f:=1) (⟨((q : Nat) : Int),(⟨((q + 1 : Nat) : Int),x.stamp.turn⟩ : Stamp),x.key,x.val⟩ : Record) Yo Z Z Z Z hxs (Qi _ _ _ _) (by decide) Z (fun w3 m2 hxs'=>?_))))))))))))))))
  have hq:=hxs.blk
  replace hxs:=hxs'
  replace E:=E.mod m2 (fun g hg=>by have:=hq g hg;omega)
  have z3:=m2.size
  clear hq
  refine Qd (Qf (Qh [true,true,true] Z Z (Qa (Qc Z) Z (Qa (Q8 Z Z (Ye (by unfold maxLen;omega))) Z (Qa (Qe Z) Z (Qd (Qf (Qh [true,true,true,true,true,true,false] Z Z (Qa (Qc Z) Z (Qa (Qc Z) Z (Qa (Qc Z) Z (Qa (Q1 Kn Z Z (Own.rd (by decide) hxs) (by simp only [List.length_append,Qi,List.length_cons];omega)) Z (Qa (Qz Kx Z) Z (Qa (Qz V8 Z) Z (Xh (α:=Record) (i:=i) (f:=2) (⟨((q : Nat) : Int),(⟨((q + 1 : Nat) : Int),((q + 1 + 1 : Nat) : Int)⟩ : Stamp),x.key,x.val⟩ : Record) Yo Z Z Z Z hxs (Qi _ _ _ _) (by decide) Z (fun w4 m3 hxs'=>?_))))))))))))))))
  have hq:=hxs.blk
  replace hxs:=hxs'
  replace E:=E.mod m3 (fun g hg=>by have:=hq g hg;omega)
  have z4:=m3.size
  clear hq
  refine Qd (Qf (Qh [true,true,true] Z Z (Qa (Qc Z) Z (Qa (Q8 Z Z (Ye (by unfold maxLen;omega))) Z (Qa (Qe Z) Z (Qd (Qf (Qh [true,true,true,true,true,false] Z Z (Qa (Qc Z) Z (Qa (Qc Z) Z (Qa (Qc Z) Z (Qa (Q1 Kn Z Z (Own.rd (by decide) hxs) (by simp only [List.length_append,Qi,List.length_cons];omega)) Z (Qa (Qz Hk Z) Z (Xh (α:=Record) (i:=i) (f:=3) (⟨((q : Nat) : Int),(⟨((q + 1 : Nat) : Int),((q + 1 + 1 : Nat) : Int)⟩ : Stamp),((q + 1 + 1 + 1 : Nat) : Int),x.val⟩ : Record) Yo Z Z Z Z hxs (Qi _ _ _ _) (by decide) Z (fun w5 m4 hxs'=>?_)))))))))))))))
  have hq:=hxs.blk
  replace hxs:=hxs'
  replace E:=E.mod m4 (fun g hg=>by have:=hq g hg;omega)
  have z5:=m4.size
  clear hq
  refine Qd (Qf (Qh [true,true,true] Z Z (Qa (Qc Z) Z (Qa (Q8 Z Z (Ye (by unfold maxLen;omega))) Z (Qa (Qe Z) Z (Qd (Qf (Qh [true,true,true,true,true,false] Z Z (Qa (Qc Z) Z (Qa (Qc Z) Z (Qa (Qc Z) Z (Qa (Q1 Kn Z Z (Own.rd (by decide) hxs) (by simp only [List.length_append,Qi,List.length_cons];omega)) Z (Qa (Qz Hj Z) Z (Xh (α:=Record) (i:=i) (f:=4) (⟨((q : Nat) : Int),(⟨((q + 1 : Nat) : Int),((q + 1 + 1 : Nat) : Int)⟩ : Stamp),((q + 1 + 1 + 1 : Nat) : Int),((q + 1 + 1 + 1 + 1 : Nat) : Int)⟩ : Record) Yo Z Z Z Z hxs (Qi _ _ _ _) (by decide) Z (fun w6 m5 hxs'=>?_)))))))))))))))
  have hq:=hxs.blk
  replace hxs:=hxs'
  replace E:=E.mod m5 (fun g hg=>by have:=hq g hg;omega)
  have z6:=m5.size
  clear hq
  refine Qd (Qh [true,true,true] Z Z (Qa (Qc Z) Z (Qa (Q8 Z Z (Ye (by unfold maxLen;omega))) Z (Qa (Qe Z) Z (Qd (Q4 (Yr (Qh [true,true,true] Z Z (Qa (Qc Z) Z (Qa (Q8 Z Z (Ye (by unfold maxLen;omega))) Z (Qa (Qe Z) Z (Qd (Q4 (Yc (i + 1,q + 1 + 1 + 1 + 1 + 1,bs) (by simp;omega) ⟨rfl,rfl,rfl,rfl,trivial⟩ ⟨E,(by omega),(by omega),(by omega),(by subst hq;rw [← Hi];exact hxs)⟩))))))))))))))
 ·have hc1n : ¬ i < xs.length:=by first | (have h:=of_decide_eq_false hc1;omega) | (have h:=hc1;simp at h;omega)
  refine Yn (Q5 (Q3 ?_))
  refine Qf (Qh [true,true] Z Z (Qa (Qc Z) Z (Qa (Qe Z) Z (Qd (Qw (Ql Z Z E ?_))))))
  exact ⟨by subst hq;rw [show i = xs.length from by omega],by obtain rfl : bs = []:=List.eq_nil_of_length_eq_zero (by omega);rw [show xs.length = i from by simp at hi;omega];simpa using hxs⟩

set_option maxRecDepth 20000 in
theorem heldRecordS (vxs : Value) (xs : List Record) (k : Nat) (w : World) (hxs : RdS w vxs xs) (hm : xs = V2 5 Ky k xs.length) (hb : k + xs.length * 5 ≤ 1099511627776) : Ct Tryz.prog 75 [vxs,.int .i64 ((k : Nat) : Int)] w (fun v _=>v = .int .i64 ((k + 5 * xs.length : Nat) : Int)):=by
 refine Yh Tryz.func75 Z Tryz.ntmps75 Z ?_
 refine Q7 [(0,vxs),(1,.int .i64 ((k : Nat) : Int))] ⟨Z,Z,trivial⟩ ?_
 have E : Ext w w:=Ext.refl w
 refine Qf (Qh [true] Z Z (Qa (Qe Z) Z (Qd (Qf (Qf (Qh [true] Z Z (Qa (Qe Z) Z (Qd (Q0 (Ym (fun (xq : Nat × Nat)=>let ⟨i,q⟩:=xq;[(0,vxs),(1,.int .i64 ((q : Nat) : Int)),(4,.int .i64 0),(5,.int .i64 ((i : Nat) : Int))]) (fun (xq : Nat × Nat) w'=>let ⟨i,q⟩:=xq;Ext w w' ∧ w.heap.size ≤ w'.heap.size ∧ i ≤ xs.length ∧ q = k + 5 * i) (fun (xq : Nat × Nat)=>let ⟨i,q⟩:=xq;xs.length - i) (0,k) ⟨Z,Z,Z,Z,trivial⟩ ⟨E,Nat.le_refl _,Nat.zero_le _,(by simp)⟩ ?_))))))))))
 clear E
 rintro ⟨i,q⟩ w1 ⟨E,z1,hi,hq⟩
 refine Q7 [(0,vxs),(1,.int .i64 ((q : Nat) : Int)),(4,.int .i64 0),(5,.int .i64 ((i : Nat) : Int))] ⟨Z,Z,Z,Z,trivial⟩ ?_
 refine Qf (Qf (Qh [true,true,true,true] Z Z (Qa (Qc Z) Z (Qa (Qc Z) Z (Qa (Ya Tryz.underlying64 Z (hxs.ext E).len) Z (Qa (Yf Z Z) Z (Qd (Qs Z (fun hc1=>?_) (fun hc1=>?_)))))))))
 ·have hc1n : i < xs.length:=by first | (have h:=of_decide_eq_true hc1;omega) | (have h:=hc1;simp at h;omega)
  refine Qn (Qf (Q0 (Qf (Qf (Qh [true,true,true,true,true,true,true] Z Z (Qa (Qc Z) Z (Qa (Qc Z) Z ?_)))))))
  have hi1 : i < xs.length:=(by first | assumption | omega | (simp only [List.length_set];first | assumption | omega))
  refine Qa (Q1 (i:=i) Kn Z Z (hxs.ext E) hi1) Z (Qa (Qz Uy Z) Z (Qa (Qj Yo Z (((hxs.ext E).get hi1).one 0 Z)) Z (Qa (Qc Z) Z (Qa (Yu Z Z) Z (Qd (Yy rfl (by subst hq;rw [Ui hm (by omega)];simp [Ky]) (Qn (Qf (Qh [true,true,true] Z Z (Qa (Qc Z) Z (Qa (Q8 Z Z (Ye (by unfold maxLen;omega))) Z (Qa (Qe Z) Z (Qd (Qf (Qf (Qh [true,true,true,true,true,true,true,true] Z Z (Qa (Qc Z) Z (Qa (Qc Z) Z (Qa (Q1 (i:=i) Kn Z Z (hxs.ext E) hi1) Z (Qa (Qz Kx Z) Z (Qa (Qz Vi Z) Z (Qa (Qj Yo Z (((hxs.ext E).get hi1).one 1 Z)) Z (Qa (Qc Z) Z (Qa (Yu Z Z) Z (Qd (Yy rfl (by subst hq;rw [Ui hm (by omega)];simp [Ky]) (Qn (Qf (Qh [true,true,true] Z Z (Qa (Qc Z) Z (Qa (Q8 Z Z (Ye (by unfold maxLen;omega))) Z (Qa (Qe Z) Z (Qd (Qf (Qf (Qh [true,true,true,true,true,true,true,true] Z Z (Qa (Qc Z) Z (Qa (Qc Z) Z (Qa (Q1 (i:=i) Kn Z Z (hxs.ext E) hi1) Z (Qa (Qz Kx Z) Z (Qa (Qz V8 Z) Z (Qa (Qj Yo Z (((hxs.ext E).get hi1).one 2 Z)) Z (Qa (Qc Z) Z (Qa (Yu Z Z) Z (Qd (Yy rfl (by subst hq;rw [Ui hm (by omega)];simp [Ky]) (Qn (Qf (Qh [true,true,true] Z Z (Qa (Qc Z) Z (Qa (Q8 Z Z (Ye (by unfold maxLen;omega))) Z (Qa (Qe Z) Z (Qd (Qf (Qf (Qh [true,true,true,true,true,true,true] Z Z (Qa (Qc Z) Z (Qa (Qc Z) Z (Qa (Q1 (i:=i) Kn Z Z (hxs.ext E) hi1) Z (Qa (Qz Hk Z) Z (Qa (Qj Yo Z (((hxs.ext E).get hi1).one 3 Z)) Z (Qa (Qc Z) Z (Qa (Yu Z Z) Z (Qd (Yy rfl (by subst hq;rw [Ui hm (by omega)];simp [Ky]) (Qn (Qf (Qh [true,true,true] Z Z (Qa (Qc Z) Z (Qa (Q8 Z Z (Ye (by unfold maxLen;omega))) Z (Qa (Qe Z) Z (Qd (Qf (Qf (Qh [true,true,true,true,true,true,true] Z Z (Qa (Qc Z) Z (Qa (Qc Z) Z (Qa (Q1 (i:=i) Kn Z Z (hxs.ext E) hi1) Z (Qa (Qz Hj Z) Z (Qa (Qj Yo Z (((hxs.ext E).get hi1).one 4 Z)) Z (Qa (Qc Z) Z (Qa (Yu Z Z) Z (Qd (Yy rfl (by subst hq;rw [Ui hm (by omega)];simp [Ky]) (Qn (Qh [true,true,true] Z Z (Qa (Qc Z) Z (Qa (Q8 Z Z (Ye (by unfold maxLen;omega))) Z (Qa (Qe Z) Z (Qd (Q4 (Yr (Qh [true,true,true] Z Z (Qa (Qc Z) Z (Qa (Q8 Z Z (Ye (by unfold maxLen;omega))) Z (Qa (Qe Z) Z (Qd (Q4 (Yc (i + 1,q + 1 + 1 + 1 + 1 + 1) (by simp;omega) ⟨Z,Z,Z,Z,trivial⟩ ⟨E,(by omega),(by omega),(by omega)⟩)))))))))))))))))))))))))))))))))))))))))))))))))))))))))))))))))))))))))))))))))))))))))))))))))))
 ·have hc1n : ¬ i < xs.length:=by first | (have h:=of_decide_eq_false hc1;omega) | (have h:=hc1;simp at h;omega)
  refine Yn (Q5 (Q3 ?_))
  refine Qf (Qh [true,true] Z Z (Qa (Qc Z) Z (Qa (Qe Z) Z (Qd (Qw (Ql Z Z E ?_))))))
  subst hq;rw [show i = xs.length from by omega]

set_option maxRecDepth 20000 in
theorem markIntS (vxs : Value) (lo hi : Nat) (xs : List Int) (k : Nat) (w : World) (hxs : Own w lo hi 1 vxs (List.flatMap (Enc.enc (α:=Int)) xs)) (hb : k + xs.length * 1 ≤ 1099511627776) : CtR Tryz.prog 71 [vxs,.int .i64 ((k : Nat) : Int)] w lo hi (fun v w'=>v = .int .i64 ((k + 1 * xs.length : Nat) : Int) ∧ Own w' lo hi 1 vxs (List.flatMap (Enc.enc (α:=Int)) (V2 1 An k xs.length))):=by
 refine Vs Tryz.func71 Z Tryz.ntmps71 Z ?_
 refine Q7 [(0,vxs),(1,.int .i64 ((k : Nat) : Int))] ⟨Z,Z,trivial⟩ ?_
 have E : ModR w w lo hi:=ModR.refl w lo hi
 refine Qf (Qh [true] Z Z (Qa (Qe Z) Z (Qd (Qf (Qf (Qh [true] Z Z (Qa (Qe Z) Z (Qd (Q0 (Ym (fun (xq : Nat × Nat × List Int)=>let ⟨i,q,bs⟩:=xq;[(0,vxs),(1,.int .i64 ((q : Nat) : Int)),(4,.int .i64 0),(5,.int .i64 ((i : Nat) : Int))]) (fun (xq : Nat × Nat × List Int) w'=>let ⟨i,q,bs⟩:=xq;ModR w w' lo hi ∧ w.heap.size ≤ w'.heap.size ∧ i + bs.length = xs.length ∧ q = k + 1 * i ∧ Own w' lo hi 1 vxs (List.flatMap (Enc.enc (α:=Int)) (V2 1 An k i ++ bs))) (fun (xq : Nat × Nat × List Int)=>let ⟨i,q,bs⟩:=xq;xs.length - i) (0,k,xs) ⟨Z,Z,Z,Z,trivial⟩ ⟨E,Nat.le_refl _,(by simp),(by simp),(by simpa [V2] using hxs)⟩ ?_))))))))))
 clear E hxs
 rintro ⟨i,q,bs⟩ w1 ⟨E,z1,hi,hq,hxs⟩
 refine Q7 [(0,vxs),(1,.int .i64 ((q : Nat) : Int)),(4,.int .i64 0),(5,.int .i64 ((i : Nat) : Int))] ⟨Z,Z,Z,Z,trivial⟩ ?_
 refine Qf (Qf (Qh [true,true,true,true] Z Z (Qa (Qc Z) Z (Qa (Qc Z) Z (Qa (Ya Tryz.underlying66 Z (Own.lenE (by decide) hxs (by simp only [List.length_append,Qi,List.length_cons];omega))) Z (Qa (Yf Z Z) Z (Qd (Qs Z (fun hc1=>?_) (fun hc1=>?_)))))))))
 ·rcases bs with _ | ⟨x,bs⟩
  ·exact absurd hi (by have h:=hc1;simp at h ⊢;omega)
  simp only [List.length_cons] at hi
  have hc1n : i < xs.length:=by first | (have h:=of_decide_eq_true hc1;omega) | (have h:=hc1;simp at h;omega)
  refine Qn (Qf (Q0 (Qf (Qh [true,true,true,true,false] Z Z (Qa (Qc Z) Z (Qa (Qc Z) Z (Qa (Qc Z) Z (Qa (Q1 Uv Z Z (Own.rd (by decide) hxs) (by simp only [List.length_append,Qi,List.length_cons];omega)) Z (Xh (α:=Int) (i:=i) (f:=0) ((q : Nat) : Int) Yo Z Z Z Z hxs (Qi _ _ _ _) (by decide) Z (fun w2 m1 hxs'=>?_))))))))))
  have hq:=hxs.blk
  replace hxs:=hxs'
  replace E:=E.mod m1 (fun g hg=>by have:=hq g hg;omega)
  have z2:=m1.size
  clear hq
  refine Qd (Qh [true,true,true] Z Z (Qa (Qc Z) Z (Qa (Q8 Z Z (Ye (by unfold maxLen;omega))) Z (Qa (Qe Z) Z (Qd (Q4 (Yr (Qh [true,true,true] Z Z (Qa (Qc Z) Z (Qa (Q8 Z Z (Ye (by unfold maxLen;omega))) Z (Qa (Qe Z) Z (Qd (Q4 (Yc (i + 1,q + 1,bs) (by simp;omega) ⟨rfl,rfl,rfl,rfl,trivial⟩ ⟨E,(by omega),(by omega),(by omega),(by subst hq;rw [← Hi];exact hxs)⟩))))))))))))))
 ·have hc1n : ¬ i < xs.length:=by first | (have h:=of_decide_eq_false hc1;omega) | (have h:=hc1;simp at h;omega)
  refine Yn (Q5 (Q3 ?_))
  refine Qf (Qh [true,true] Z Z (Qa (Qc Z) Z (Qa (Qe Z) Z (Qd (Qw (Ql Z Z E ?_))))))
  exact ⟨by subst hq;rw [show i = xs.length from by omega],by obtain rfl : bs = []:=List.eq_nil_of_length_eq_zero (by omega);rw [show xs.length = i from by simp at hi;omega];simpa using hxs⟩

set_option maxRecDepth 20000 in
theorem heldIntS (vxs : Value) (xs : List Int) (k : Nat) (w : World) (hxs : RdS w vxs xs) (hm : xs = V2 1 An k xs.length) (hb : k + xs.length * 1 ≤ 1099511627776) : Ct Tryz.prog 77 [vxs,.int .i64 ((k : Nat) : Int)] w (fun v _=>v = .int .i64 ((k + 1 * xs.length : Nat) : Int)):=by
 refine Yh Tryz.func77 Z Tryz.ntmps77 Z ?_
 refine Q7 [(0,vxs),(1,.int .i64 ((k : Nat) : Int))] ⟨Z,Z,trivial⟩ ?_
 have E : Ext w w:=Ext.refl w
 refine Qf (Qh [true] Z Z (Qa (Qe Z) Z (Qd (Qf (Qf (Qh [true] Z Z (Qa (Qe Z) Z (Qd (Q0 (Ym (fun (xq : Nat × Nat)=>let ⟨i,q⟩:=xq;[(0,vxs),(1,.int .i64 ((q : Nat) : Int)),(4,.int .i64 0),(5,.int .i64 ((i : Nat) : Int))]) (fun (xq : Nat × Nat) w'=>let ⟨i,q⟩:=xq;Ext w w' ∧ w.heap.size ≤ w'.heap.size ∧ i ≤ xs.length ∧ q = k + 1 * i) (fun (xq : Nat × Nat)=>let ⟨i,q⟩:=xq;xs.length - i) (0,k) ⟨Z,Z,Z,Z,trivial⟩ ⟨E,Nat.le_refl _,Nat.zero_le _,(by simp)⟩ ?_))))))))))
 clear E
 rintro ⟨i,q⟩ w1 ⟨E,z1,hi,hq⟩
 refine Q7 [(0,vxs),(1,.int .i64 ((q : Nat) : Int)),(4,.int .i64 0),(5,.int .i64 ((i : Nat) : Int))] ⟨Z,Z,Z,Z,trivial⟩ ?_
 refine Qf (Qf (Qh [true,true,true,true] Z Z (Qa (Qc Z) Z (Qa (Qc Z) Z (Qa (Ya Tryz.underlying66 Z (hxs.ext E).len) Z (Qa (Yf Z Z) Z (Qd (Qs Z (fun hc1=>?_) (fun hc1=>?_)))))))))
 ·have hc1n : i < xs.length:=by first | (have h:=of_decide_eq_true hc1;omega) | (have h:=hc1;simp at h;omega)
  refine Qn (Qf (Q0 (Qf (Qf (Qh [true,true,true,true,true,true] Z Z (Qa (Qc Z) Z (Qa (Qc Z) Z ?_)))))))
  have hi1 : i < xs.length:=(by first | assumption | omega | (simp only [List.length_set];first | assumption | omega))
  refine Qa (Q1 (i:=i) Uv Z Z (hxs.ext E) hi1) Z (Qa (Qj Yo Z (((hxs.ext E).get hi1).one 0 Z)) Z (Qa (Qc Z) Z (Qa (Yu Z Z) Z (Qd (Yy rfl (by subst hq;rw [Ui hm (by omega)];simp [An]) (Qn (Qh [true,true,true] Z Z (Qa (Qc Z) Z (Qa (Q8 Z Z (Ye (by unfold maxLen;omega))) Z (Qa (Qe Z) Z (Qd (Q4 (Yr (Qh [true,true,true] Z Z (Qa (Qc Z) Z (Qa (Q8 Z Z (Ye (by unfold maxLen;omega))) Z (Qa (Qe Z) Z (Qd (Q4 (Yc (i + 1,q + 1) (by simp;omega) ⟨Z,Z,Z,Z,trivial⟩ ⟨E,(by omega),(by omega),(by omega)⟩))))))))))))))))))))
 ·have hc1n : ¬ i < xs.length:=by first | (have h:=of_decide_eq_false hc1;omega) | (have h:=hc1;simp at h;omega)
  refine Yn (Q5 (Q3 ?_))
  refine Qf (Qh [true,true] Z Z (Qa (Qc Z) Z (Qa (Qe Z) Z (Qd (Qw (Ql Z Z E ?_))))))
  subst hq;rw [show i = xs.length from by omega]

set_option maxRecDepth 20000 in
theorem markBoolS (vxs : Value) (lo hi : Nat) (xs : List Bool) (k : Nat) (w : World) (hxs : Own w lo hi 1 vxs (List.flatMap (Enc.enc (α:=Bool)) xs)) (hb : k + xs.length * 1 ≤ 1099511627776) : CtR Tryz.prog 72 [vxs,.int .i64 ((k : Nat) : Int)] w lo hi (fun v w'=>v = .int .i64 ((k + 1 * xs.length : Nat) : Int) ∧ Own w' lo hi 1 vxs (List.flatMap (Enc.enc (α:=Bool)) (V2 1 Ce k xs.length))):=by
 refine Vs Tryz.func72 Z Tryz.ntmps72 Z ?_
 refine Q7 [(0,vxs),(1,.int .i64 ((k : Nat) : Int))] ⟨Z,Z,trivial⟩ ?_
 have E : ModR w w lo hi:=ModR.refl w lo hi
 refine Qf (Qh [true] Z Z (Qa (Qe Z) Z (Qd (Qf (Qf (Qh [true] Z Z (Qa (Qe Z) Z (Qd (Q0 (Ym (fun (xq : Nat × Nat × List Bool)=>let ⟨i,q,bs⟩:=xq;[(0,vxs),(1,.int .i64 ((q : Nat) : Int)),(4,.int .i64 0),(5,.int .i64 ((i : Nat) : Int))]) (fun (xq : Nat × Nat × List Bool) w'=>let ⟨i,q,bs⟩:=xq;ModR w w' lo hi ∧ w.heap.size ≤ w'.heap.size ∧ i + bs.length = xs.length ∧ q = k + 1 * i ∧ Own w' lo hi 1 vxs (List.flatMap (Enc.enc (α:=Bool)) (V2 1 Ce k i ++ bs))) (fun (xq : Nat × Nat × List Bool)=>let ⟨i,q,bs⟩:=xq;xs.length - i) (0,k,xs) ⟨Z,Z,Z,Z,trivial⟩ ⟨E,Nat.le_refl _,(by simp),(by simp),(by simpa [V2] using hxs)⟩ ?_))))))))))
 clear E hxs
 rintro ⟨i,q,bs⟩ w1 ⟨E,z1,hi,hq,hxs⟩
 refine Q7 [(0,vxs),(1,.int .i64 ((q : Nat) : Int)),(4,.int .i64 0),(5,.int .i64 ((i : Nat) : Int))] ⟨Z,Z,Z,Z,trivial⟩ ?_
 refine Qf (Qf (Qh [true,true,true,true] Z Z (Qa (Qc Z) Z (Qa (Qc Z) Z (Qa (Ya Tryz.underlying67 Z (Own.lenE (by decide) hxs (by simp only [List.length_append,Qi,List.length_cons];omega))) Z (Qa (Yf Z Z) Z (Qd (Qs Z (fun hc1=>?_) (fun hc1=>?_)))))))))
 ·rcases bs with _ | ⟨x,bs⟩
  ·exact absurd hi (by have h:=hc1;simp at h ⊢;omega)
  simp only [List.length_cons] at hi
  have hc1n : i < xs.length:=by first | (have h:=of_decide_eq_true hc1;omega) | (have h:=hc1;simp at h;omega)
  refine Qn (Qf (Q0 (Qf (Qh [true,true,true,true,true,true,false] Z Z (Qa (Qc Z) Z (Qa (Qc Z) Z (Qa (Qc Z) Z (Qa (Gd Z Z (by decide) Z) Z (Qa (Y6 Z Z) Z (Qa (Q1 C1 Z Z (Own.rd (by decide) hxs) (by simp only [List.length_append,Qi,List.length_cons];omega)) Z (Xh (α:=Bool) (i:=i) (f:=0) ((Int.tmod ((q : Nat) : Int) 3) == 0) Tb Z Z Z Z hxs (Qi _ _ _ _) (by decide) Z (fun w2 m1 hxs'=>?_))))))))))))
  have hq:=hxs.blk
  replace hxs:=hxs'
  replace E:=E.mod m1 (fun g hg=>by have:=hq g hg;omega)
  have z2:=m1.size
  clear hq
  refine Qd (Qh [true,true,true] Z Z (Qa (Qc Z) Z (Qa (Q8 Z Z (Ye (by unfold maxLen;omega))) Z (Qa (Qe Z) Z (Qd (Q4 (Yr (Qh [true,true,true] Z Z (Qa (Qc Z) Z (Qa (Q8 Z Z (Ye (by unfold maxLen;omega))) Z (Qa (Qe Z) Z (Qd (Q4 (Yc (i + 1,q + 1,bs) (by simp;omega) ⟨rfl,rfl,rfl,rfl,trivial⟩ ⟨E,(by omega),(by omega),(by omega),(by subst hq;rw [← Hi];exact hxs)⟩))))))))))))))
 ·have hc1n : ¬ i < xs.length:=by first | (have h:=of_decide_eq_false hc1;omega) | (have h:=hc1;simp at h;omega)
  refine Yn (Q5 (Q3 ?_))
  refine Qf (Qh [true,true] Z Z (Qa (Qc Z) Z (Qa (Qe Z) Z (Qd (Qw (Ql Z Z E ?_))))))
  exact ⟨by subst hq;rw [show i = xs.length from by omega],by obtain rfl : bs = []:=List.eq_nil_of_length_eq_zero (by omega);rw [show xs.length = i from by simp at hi;omega];simpa using hxs⟩

set_option maxRecDepth 20000 in
theorem heldBoolS (vxs : Value) (xs : List Bool) (k : Nat) (w : World) (hxs : RdS w vxs xs) (hm : xs = V2 1 Ce k xs.length) (hb : k + xs.length * 1 ≤ 1099511627776) : Ct Tryz.prog 78 [vxs,.int .i64 ((k : Nat) : Int)] w (fun v _=>v = .int .i64 ((k + 1 * xs.length : Nat) : Int)):=by
 refine Yh Tryz.func78 Z Tryz.ntmps78 Z ?_
 refine Q7 [(0,vxs),(1,.int .i64 ((k : Nat) : Int))] ⟨Z,Z,trivial⟩ ?_
 have E : Ext w w:=Ext.refl w
 refine Qf (Qh [true] Z Z (Qa (Qe Z) Z (Qd (Qf (Qf (Qh [true] Z Z (Qa (Qe Z) Z (Qd (Q0 (Ym (fun (xq : Nat × Nat)=>let ⟨i,q⟩:=xq;[(0,vxs),(1,.int .i64 ((q : Nat) : Int)),(4,.int .i64 0),(5,.int .i64 ((i : Nat) : Int))]) (fun (xq : Nat × Nat) w'=>let ⟨i,q⟩:=xq;Ext w w' ∧ w.heap.size ≤ w'.heap.size ∧ i ≤ xs.length ∧ q = k + 1 * i) (fun (xq : Nat × Nat)=>let ⟨i,q⟩:=xq;xs.length - i) (0,k) ⟨Z,Z,Z,Z,trivial⟩ ⟨E,Nat.le_refl _,Nat.zero_le _,(by simp)⟩ ?_))))))))))
 clear E
 rintro ⟨i,q⟩ w1 ⟨E,z1,hi,hq⟩
 refine Q7 [(0,vxs),(1,.int .i64 ((q : Nat) : Int)),(4,.int .i64 0),(5,.int .i64 ((i : Nat) : Int))] ⟨Z,Z,Z,Z,trivial⟩ ?_
 refine Qf (Qf (Qh [true,true,true,true] Z Z (Qa (Qc Z) Z (Qa (Qc Z) Z (Qa (Ya Tryz.underlying67 Z (hxs.ext E).len) Z (Qa (Yf Z Z) Z (Qd (Qs Z (fun hc1=>?_) (fun hc1=>?_)))))))))
 ·have hc1n : i < xs.length:=by first | (have h:=of_decide_eq_true hc1;omega) | (have h:=hc1;simp at h;omega)
  refine Qn (Qf (Q0 (Qf (Qf (Qh [true,true,true,true,true,true,true,true] Z Z (Qa (Qc Z) Z (Qa (Qc Z) Z ?_)))))))
  have hi1 : i < xs.length:=(by first | assumption | omega | (simp only [List.length_set];first | assumption | omega))
  refine Qa (Q1 (i:=i) C1 Z Z (hxs.ext E) hi1) Z (Qa (Qj Tb Z (((hxs.ext E).get hi1).one 0 Z)) Z (Qa (Qc Z) Z (Qa (Gd Z Z (by decide) Z) Z (Qa (Y6 Z Z) Z (Qa (Vf (Tryz.underlying4) Z Z) Z (Qd (Yy rfl (by subst hq;rw [Ui hm (by omega)];simp [Ce]) (Qn (Qh [true,true,true] Z Z (Qa (Qc Z) Z (Qa (Q8 Z Z (Ye (by unfold maxLen;omega))) Z (Qa (Qe Z) Z (Qd (Q4 (Yr (Qh [true,true,true] Z Z (Qa (Qc Z) Z (Qa (Q8 Z Z (Ye (by unfold maxLen;omega))) Z (Qa (Qe Z) Z (Qd (Q4 (Yc (i + 1,q + 1) (by simp;omega) ⟨Z,Z,Z,Z,trivial⟩ ⟨E,(by omega),(by omega),(by omega)⟩))))))))))))))))))))))
 ·have hc1n : ¬ i < xs.length:=by first | (have h:=of_decide_eq_false hc1;omega) | (have h:=hc1;simp at h;omega)
  refine Yn (Q5 (Q3 ?_))
  refine Qf (Qh [true,true] Z Z (Qa (Qc Z) Z (Qa (Qe Z) Z (Qd (Qw (Ql Z Z E ?_))))))
  subst hq;rw [show i = xs.length from by omega]

set_option maxRecDepth 20000 in
theorem markDoneS (vxs : Value) (lo hi : Nat) (xs : List Done) (k : Nat) (w : World) (hxs : Own w lo hi 2 vxs (List.flatMap (Enc.enc (α:=Done)) xs)) (hb : k + xs.length * 2 ≤ 1099511627776) : CtR Tryz.prog 73 [vxs,.int .i64 ((k : Nat) : Int)] w lo hi (fun v w'=>v = .int .i64 ((k + 2 * xs.length : Nat) : Int) ∧ Own w' lo hi 2 vxs (List.flatMap (Enc.enc (α:=Done)) (V2 2 C9 k xs.length))):=by
 refine Vs Tryz.func73 Z Tryz.ntmps73 Z ?_
 refine Q7 [(0,vxs),(1,.int .i64 ((k : Nat) : Int))] ⟨Z,Z,trivial⟩ ?_
 have E : ModR w w lo hi:=ModR.refl w lo hi
 refine Qf (Qh [true] Z Z (Qa (Qe Z) Z (Qd (Qf (Qf (Qh [true] Z Z (Qa (Qe Z) Z (Qd (Q0 (Ym (fun (xq : Nat × Nat × List Done)=>let ⟨i,q,bs⟩:=xq;[(0,vxs),(1,.int .i64 ((q : Nat) : Int)),(4,.int .i64 0),(5,.int .i64 ((i : Nat) : Int))]) (fun (xq : Nat × Nat × List Done) w'=>let ⟨i,q,bs⟩:=xq;ModR w w' lo hi ∧ w.heap.size ≤ w'.heap.size ∧ i + bs.length = xs.length ∧ q = k + 2 * i ∧ Own w' lo hi 2 vxs (List.flatMap (Enc.enc (α:=Done)) (V2 2 C9 k i ++ bs))) (fun (xq : Nat × Nat × List Done)=>let ⟨i,q,bs⟩:=xq;xs.length - i) (0,k,xs) ⟨Z,Z,Z,Z,trivial⟩ ⟨E,Nat.le_refl _,(by simp),(by simp),(by simpa [V2] using hxs)⟩ ?_))))))))))
 clear E hxs
 rintro ⟨i,q,bs⟩ w1 ⟨E,z1,hi,hq,hxs⟩
 refine Q7 [(0,vxs),(1,.int .i64 ((q : Nat) : Int)),(4,.int .i64 0),(5,.int .i64 ((i : Nat) : Int))] ⟨Z,Z,Z,Z,trivial⟩ ?_
 refine Qf (Qf (Qh [true,true,true,true] Z Z (Qa (Qc Z) Z (Qa (Qc Z) Z (Qa (Ya Tryz.underlying68 Z (Own.lenE (by decide) hxs (by simp only [List.length_append,Qi,List.length_cons];omega))) Z (Qa (Yf Z Z) Z (Qd (Qs Z (fun hc1=>?_) (fun hc1=>?_)))))))))
 ·rcases bs with _ | ⟨x,bs⟩
  ·exact absurd hi (by have h:=hc1;simp at h ⊢;omega)
  simp only [List.length_cons] at hi
  have hc1n : i < xs.length:=by first | (have h:=of_decide_eq_true hc1;omega) | (have h:=hc1;simp at h;omega)
  refine Qn (Qf (Q0 (Qf (Qh [true,true,true,true,true,false] Z Z (Qa (Qc Z) Z (Qa (Qc Z) Z (Qa (Qc Z) Z (Qa (Q1 Cc Z Z (Own.rd (by decide) hxs) (by simp only [List.length_append,Qi,List.length_cons];omega)) Z (Qa (Qz V9 Z) Z (Xh (α:=Done) (i:=i) (f:=0) (⟨((q : Nat) : Int),x.capped⟩ : Done) Yo Z Z Z Z hxs (Qi _ _ _ _) (by decide) Z (fun w2 m1 hxs'=>?_)))))))))))
  have hq:=hxs.blk
  replace hxs:=hxs'
  replace E:=E.mod m1 (fun g hg=>by have:=hq g hg;omega)
  have z2:=m1.size
  clear hq
  refine Qd (Qf (Qh [true,true,true] Z Z (Qa (Qc Z) Z (Qa (Q8 Z Z (Ye (by unfold maxLen;omega))) Z (Qa (Qe Z) Z (Qd (Qf (Qh [true,true,true,true,true,true,true,false] Z Z (Qa (Qc Z) Z (Qa (Qc Z) Z (Qa (Qc Z) Z (Qa (Gd Z Z (by decide) Z) Z (Qa (Y6 Z Z) Z (Qa (Q1 Cc Z Z (Own.rd (by decide) hxs) (by simp only [List.length_append,Qi,List.length_cons];omega)) Z (Qa (Qz Aq Z) Z (Xh (α:=Done) (i:=i) (f:=1) (⟨((q : Nat) : Int),(Int.tmod ((q + 1 : Nat) : Int) 3) == 0⟩ : Done) Tb Z Z Z Z hxs (Qi _ _ _ _) (by decide) Z (fun w3 m2 hxs'=>?_)))))))))))))))))
  have hq:=hxs.blk
  replace hxs:=hxs'
  replace E:=E.mod m2 (fun g hg=>by have:=hq g hg;omega)
  have z3:=m2.size
  clear hq
  refine Qd (Qh [true,true,true] Z Z (Qa (Qc Z) Z (Qa (Q8 Z Z (Ye (by unfold maxLen;omega))) Z (Qa (Qe Z) Z (Qd (Q4 (Yr (Qh [true,true,true] Z Z (Qa (Qc Z) Z (Qa (Q8 Z Z (Ye (by unfold maxLen;omega))) Z (Qa (Qe Z) Z (Qd (Q4 (Yc (i + 1,q + 1 + 1,bs) (by simp;omega) ⟨rfl,rfl,rfl,rfl,trivial⟩ ⟨E,(by omega),(by omega),(by omega),(by subst hq;rw [← Hi];exact hxs)⟩))))))))))))))
 ·have hc1n : ¬ i < xs.length:=by first | (have h:=of_decide_eq_false hc1;omega) | (have h:=hc1;simp at h;omega)
  refine Yn (Q5 (Q3 ?_))
  refine Qf (Qh [true,true] Z Z (Qa (Qc Z) Z (Qa (Qe Z) Z (Qd (Qw (Ql Z Z E ?_))))))
  exact ⟨by subst hq;rw [show i = xs.length from by omega],by obtain rfl : bs = []:=List.eq_nil_of_length_eq_zero (by omega);rw [show xs.length = i from by simp at hi;omega];simpa using hxs⟩

set_option maxRecDepth 20000 in
theorem heldDoneS (vxs : Value) (xs : List Done) (k : Nat) (w : World) (hxs : RdS w vxs xs) (hm : xs = V2 2 C9 k xs.length) (hb : k + xs.length * 2 ≤ 1099511627776) : Ct Tryz.prog 79 [vxs,.int .i64 ((k : Nat) : Int)] w (fun v _=>v = .int .i64 ((k + 2 * xs.length : Nat) : Int)):=by
 refine Yh Tryz.func79 Z Tryz.ntmps79 Z ?_
 refine Q7 [(0,vxs),(1,.int .i64 ((k : Nat) : Int))] ⟨Z,Z,trivial⟩ ?_
 have E : Ext w w:=Ext.refl w
 refine Qf (Qh [true] Z Z (Qa (Qe Z) Z (Qd (Qf (Qf (Qh [true] Z Z (Qa (Qe Z) Z (Qd (Q0 (Ym (fun (xq : Nat × Nat)=>let ⟨i,q⟩:=xq;[(0,vxs),(1,.int .i64 ((q : Nat) : Int)),(4,.int .i64 0),(5,.int .i64 ((i : Nat) : Int))]) (fun (xq : Nat × Nat) w'=>let ⟨i,q⟩:=xq;Ext w w' ∧ w.heap.size ≤ w'.heap.size ∧ i ≤ xs.length ∧ q = k + 2 * i) (fun (xq : Nat × Nat)=>let ⟨i,q⟩:=xq;xs.length - i) (0,k) ⟨Z,Z,Z,Z,trivial⟩ ⟨E,Nat.le_refl _,Nat.zero_le _,(by simp)⟩ ?_))))))))))
 clear E
 rintro ⟨i,q⟩ w1 ⟨E,z1,hi,hq⟩
 refine Q7 [(0,vxs),(1,.int .i64 ((q : Nat) : Int)),(4,.int .i64 0),(5,.int .i64 ((i : Nat) : Int))] ⟨Z,Z,Z,Z,trivial⟩ ?_
 refine Qf (Qf (Qh [true,true,true,true] Z Z (Qa (Qc Z) Z (Qa (Qc Z) Z (Qa (Ya Tryz.underlying68 Z (hxs.ext E).len) Z (Qa (Yf Z Z) Z (Qd (Qs Z (fun hc1=>?_) (fun hc1=>?_)))))))))
 ·have hc1n : i < xs.length:=by first | (have h:=of_decide_eq_true hc1;omega) | (have h:=hc1;simp at h;omega)
  refine Qn (Qf (Q0 (Qf (Qf (Qh [true,true,true,true,true,true,true] Z Z (Qa (Qc Z) Z (Qa (Qc Z) Z ?_)))))))
  have hi1 : i < xs.length:=(by first | assumption | omega | (simp only [List.length_set];first | assumption | omega))
  refine Qa (Q1 (i:=i) Cc Z Z (hxs.ext E) hi1) Z (Qa (Qz V9 Z) Z (Qa (Qj Yo Z (((hxs.ext E).get hi1).one 0 Z)) Z (Qa (Qc Z) Z (Qa (Yu Z Z) Z (Qd (Yy rfl (by subst hq;rw [Ui hm (by omega)];simp [C9]) (Qn (Qf (Qh [true,true,true] Z Z (Qa (Qc Z) Z (Qa (Q8 Z Z (Ye (by unfold maxLen;omega))) Z (Qa (Qe Z) Z (Qd (Qf (Qf (Qh [true,true,true,true,true,true,true,true,true] Z Z (Qa (Qc Z) Z (Qa (Qc Z) Z (Qa (Q1 (i:=i) Cc Z Z (hxs.ext E) hi1) Z (Qa (Qz Aq Z) Z (Qa (Qj Tb Z (((hxs.ext E).get hi1).one 1 Z)) Z (Qa (Qc Z) Z (Qa (Gd Z Z (by decide) Z) Z (Qa (Y6 Z Z) Z (Qa (Vf (Tryz.underlying4) Z Z) Z (Qd (Yy rfl (by subst hq;rw [Ui hm (by omega)];simp [C9]) (Qn (Qh [true,true,true] Z Z (Qa (Qc Z) Z (Qa (Q8 Z Z (Ye (by unfold maxLen;omega))) Z (Qa (Qe Z) Z (Qd (Q4 (Yr (Qh [true,true,true] Z Z (Qa (Qc Z) Z (Qa (Q8 Z Z (Ye (by unfold maxLen;omega))) Z (Qa (Qe Z) Z (Qd (Q4 (Yc (i + 1,q + 1 + 1) (by simp;omega) ⟨Z,Z,Z,Z,trivial⟩ ⟨E,(by omega),(by omega),(by omega)⟩))))))))))))))))))))))))))))))))))))))))))
 ·have hc1n : ¬ i < xs.length:=by first | (have h:=of_decide_eq_false hc1;omega) | (have h:=hc1;simp at h;omega)
  refine Yn (Q5 (Q3 ?_))
  refine Qf (Qh [true,true] Z Z (Qa (Qc Z) Z (Qa (Qe Z) Z (Qd (Qw (Ql Z Z E ?_))))))
  subst hq;rw [show i = xs.length from by omega]

set_option maxRecDepth 20000 in
theorem c_copyRecords (vxs : Value) (xs : List Record) (w : World) (hxs : RdS w vxs xs) (hb : xs.length ≤ 4194304) : Ct Tryz.prog 107 [vxs] w (fun v w'=>Own w' w.heap.size w'.heap.size 5 v (List.flatMap (Enc.enc (α:=Record)) xs)):=by
 refine Yh Tryz.func107 Z Tryz.ntmps107 Z ?_
 refine Q7 [(0,vxs)] ⟨Z,trivial⟩ ?_
 have E : Ext w w:=Ext.refl w
 refine Qf (Qh [true] Z Z (Qa (Qe Z) Z (Qd (Qf (Qh [true,false,true] Z Z (Qa (Qc Z) Z (K8 Kn Z Z (Own.nil w w.heap.size w.heap.size 5) (RdS.src (hxs.ext E)) (Xe _) (by simp only [Yb,List.length_nil];simp only [Enc.sz];omega) (by decide) (by omega) (by omega) Z Z (fun v1 w1 m1 ho1=>?_))))))))
 replace E:=E.step m1 (fun g hg=>by have:=Own.blk (Own.nil w w.heap.size w.heap.size 5) g hg;omega)
 have z1:=m1.size
 refine Qa (Qe Z) Z (Qd (Qw (Ql Z Z E ?_)))
 exact Own.fin ho1 (by have:=E.size;omega) (by omega) (by simp [*])

set_option maxRecDepth 20000 in
theorem c_copyCells (vxs : Value) (xs : List Cell) (w : World) (hxs : RdS w vxs xs) (hb : xs.length ≤ 4194304) : Ct Tryz.prog 108 [vxs] w (fun v w'=>Own w' w.heap.size w'.heap.size 4 v (List.flatMap (Enc.enc (α:=Cell)) xs)):=by
 refine Yh Tryz.func108 Z Tryz.ntmps108 Z ?_
 refine Q7 [(0,vxs)] ⟨Z,trivial⟩ ?_
 have E : Ext w w:=Ext.refl w
 refine Qf (Qh [true] Z Z (Qa (Qe Z) Z (Qd (Qf (Qh [true,false,true] Z Z (Qa (Qc Z) Z (K8 Xq Z Z (Own.nil w w.heap.size w.heap.size 4) (RdS.src (hxs.ext E)) (Xe _) (by simp only [Yb,List.length_nil];simp only [Enc.sz];omega) (by decide) (by omega) (by omega) Z Z (fun v1 w1 m1 ho1=>?_))))))))
 replace E:=E.step m1 (fun g hg=>by have:=Own.blk (Own.nil w w.heap.size w.heap.size 4) g hg;omega)
 have z1:=m1.size
 refine Qa (Qe Z) Z (Qd (Qw (Ql Z Z E ?_)))
 exact Own.fin ho1 (by have:=E.size;omega) (by omega) (by simp [*])

set_option maxRecDepth 20000 in
theorem c_copyWorker (cx : List Value) (x : Worker) (w : World) (hx : Dat.R w 0 w.heap.size cx x) (hb : Yd x ≤ 1048576) : Ct Tryz.prog 55 [.agg cx.toArray] w (fun v w'=>∃ cs,v = .agg cs.toArray ∧ Own1.O w' w.heap.size w'.heap.size cs x):=by
 unfold Yd at hb
 refine Yh Tryz.func55 Z Tryz.ntmps55 Z ?_
 obtain ⟨o1,o2,o3,o4,o5,o6,o7,o8,rfl,hd1,hd2,hd3,hd4,hd5,hd6,hd7,hd8⟩:=Worker.op hx
 refine Q7 [(0,.agg [o1,o2,o3,o4,o5,o6,o7,o8].toArray)] ⟨Z,trivial⟩ ?_
 have E : Ext w w:=Ext.refl w
 refine Qf (Qh [false,false] Z Z (Y1 Z Z (fun b1 w1 e1 s1 h1=>?_)))
 have g_b1 : w.heap.size ≤ b1:=by have:=E.size;omega
 have y_b1:=h1.lt
 replace E:=E.trans e1
 have z1:=e1.size
 refine Yk Kw Z (fun b2 w2 e2 s2 h2=>?_)
 have g_b2 : w.heap.size ≤ b2:=by have:=E.size;omega
 have y_b2:=h2.lt
 replace E:=E.trans e2;replace h1:=h1.ext e2
 have z2:=e2.size
 refine Qd (Qf (Xj Xi [(0,true),(1,true),(3,true),(4,true),(6,true),(7,true),(9,true),(10,true),(12,true),(13,true),(15,true),(16,true),(18,true),(19,true),(21,true),(22,true),(2,false),(5,false),(8,false),(11,false),(14,false),(17,false),(20,false),(23,false),(24,true),(25,false)] (by decide +kernel) Z (fun w3 e3=>?_)))
 replace E:=E.trans e3;replace h1:=h1.ext e3;replace h2:=h2.ext e3
 have z3:=e3.size
 refine Qa (Qb Vd Z) Z (Qa (Qj Xy Z (h1.one 0 Z)) Z (Qa (Qb Gm Z) Z (Qa (Qj Xy Z (h1.one 1 Z)) Z (Qa (Qb Vj Z) Z (Qa (Qj Xy Z (h1.one 2 Z)) Z (Qa (Qb Gl Z) Z (Qa (Qj A1 Z (h1.one 3 Z)) Z (Qa (Qb Hm Z) Z (Qa (Qj Ke Z (h1.one 4 Z)) Z (Qa (Qb Ts Z) Z (Qa (Qj G5 Z (h1.one 5 Z)) Z (Qa (Qb Hl Z) Z (Qa (Qj G5 Z (h1.one 6 Z)) Z (Qa (Qb Gk Z) Z (Qa (Qj A0 Z (h1.one 7 Z)) Z (Qv Tryz.call107 Z (c_copyRecords o1 x.queue _ (hd1.rd.ext E) (by first | omega | (simp only [Qi];omega) | (rw [Qi];done) | (simp only [Qi];done))) Z (fun v1 w4 e4 ho1=>?_)))))))))))))))))
 have g_ho1 : w.heap.size ≤ w3.heap.size:=E.size
 replace E:=E.trans e4;replace h1:=h1.ext e4;replace h2:=h2.ext e4
 have z4:=e4.size
 refine Qv Tryz.call107 Z (c_copyRecords o2 x.staged _ (hd2.rd.ext E) (by first | omega | (simp only [Qi];omega) | (rw [Qi];done) | (simp only [Qi];done))) Z (fun v2 w5 e5 ho2=>?_)
 have g_ho2 : w.heap.size ≤ w4.heap.size:=E.size
 replace E:=E.trans e5;replace h1:=h1.ext e5;replace h2:=h2.ext e5;replace ho1:=ho1.ext e5
 have z5:=e5.size
 refine Qv Tryz.call107 Z (c_copyRecords o3 x.inputs _ (hd3.rd.ext E) (by first | omega | (simp only [Qi];omega) | (rw [Qi];done) | (simp only [Qi];done))) Z (fun v3 w6 e6 ho3=>?_)
 have g_ho3 : w.heap.size ≤ w5.heap.size:=E.size
 replace E:=E.trans e6;replace h1:=h1.ext e6;replace h2:=h2.ext e6;replace ho1:=ho1.ext e6;replace ho2:=ho2.ext e6
 have z6:=e6.size
 refine Qv Tryz.call108 Z (c_copyCells o4 x.cells _ (hd4.rd.ext E) (by first | omega | (simp only [Qi];omega) | (rw [Qi];done) | (simp only [Qi];done))) Z (fun v4 w7 e7 ho4=>?_)
 have g_ho4 : w.heap.size ≤ w6.heap.size:=E.size
 replace E:=E.trans e7;replace h1:=h1.ext e7;replace h2:=h2.ext e7;replace ho1:=ho1.ext e7;replace ho2:=ho2.ext e7;replace ho3:=ho3.ext e7
 have z7:=e7.size
 refine Gn Uv Z Z (Own.nil w7 w7.heap.size w7.heap.size 1) ⟨_,_,Z⟩ (RdS.src (hd5.rd.ext E)) (Xe _) (by simp only [Yb,List.length_nil];simp only [Enc.sz];omega) (by decide) (by omega) (by omega) Z (fun v5 w8 e8 ho5 hb_ho5=>?_)
 replace E:=E.trans e8;replace h1:=h1.ext e8;replace h2:=h2.ext e8;replace ho1:=ho1.ext e8;replace ho2:=ho2.ext e8;replace ho3:=ho3.ext e8;replace ho4:=ho4.ext e8
 have z8:=e8.size
 have g_ho5 : w.heap.size ≤ w7.heap.size:=by have:=E.size;omega
 replace ho5 : Own w8 w7.heap.size w8.heap.size 1 v5 (List.flatMap (Enc.enc (α:=Int)) x.sums):=ho5
 refine Gn C1 Z Z (Own.nil w8 w8.heap.size w8.heap.size 1) ⟨_,_,Z⟩ (RdS.src (hd6.rd.ext E)) (Xe _) (by simp only [Yb,List.length_nil];simp only [Enc.sz];omega) (by decide) (by omega) (by omega) Z (fun v6 w9 e9 ho6 hb_ho6=>?_)
 replace E:=E.trans e9;replace h1:=h1.ext e9;replace h2:=h2.ext e9;replace ho1:=ho1.ext e9;replace ho2:=ho2.ext e9;replace ho3:=ho3.ext e9;replace ho4:=ho4.ext e9;replace ho5:=ho5.ext e9
 have z9:=e9.size
 have g_ho6 : w.heap.size ≤ w8.heap.size:=by have:=E.size;omega
 replace ho6 : Own w9 w8.heap.size w9.heap.size 1 v6 (List.flatMap (Enc.enc (α:=Bool)) x.black):=ho6
 refine Gn C1 Z Z (Own.nil w9 w9.heap.size w9.heap.size 1) ⟨_,_,Z⟩ (RdS.src (hd7.rd.ext E)) (Xe _) (by simp only [Yb,List.length_nil];simp only [Enc.sz];omega) (by decide) (by omega) (by omega) Z (fun v7 w10 e10 ho7 hb_ho7=>?_)
 replace E:=E.trans e10;replace h1:=h1.ext e10;replace h2:=h2.ext e10;replace ho1:=ho1.ext e10;replace ho2:=ho2.ext e10;replace ho3:=ho3.ext e10;replace ho4:=ho4.ext e10;replace ho5:=ho5.ext e10;replace ho6:=ho6.ext e10
 have z10:=e10.size
 have g_ho7 : w.heap.size ≤ w9.heap.size:=by have:=E.size;omega
 replace ho7 : Own w10 w9.heap.size w10.heap.size 1 v7 (List.flatMap (Enc.enc (α:=Bool)) x.caps):=ho7
 refine Gn Cc Z Z (Own.nil w10 w10.heap.size w10.heap.size 2) ⟨_,_,Z⟩ (RdS.src (hd8.rd.ext E)) (Xe _) (by simp only [Yb,List.length_nil];simp only [Enc.sz];omega) (by decide) (by omega) (by omega) Z (fun v8 w11 e11 ho8 hb_ho8=>?_)
 replace E:=E.trans e11;replace h1:=h1.ext e11;replace h2:=h2.ext e11;replace ho1:=ho1.ext e11;replace ho2:=ho2.ext e11;replace ho3:=ho3.ext e11;replace ho4:=ho4.ext e11;replace ho5:=ho5.ext e11;replace ho6:=ho6.ext e11;replace ho7:=ho7.ext e11
 have z11:=e11.size
 have g_ho8 : w.heap.size ≤ w10.heap.size:=by have:=E.size;omega
 replace ho8 : Own w11 w10.heap.size w11.heap.size 2 v8 (List.flatMap (Enc.enc (α:=Done)) x.dones):=ho8
 have hbl1 : ∀ w,(Instr.build 70 ([(0,v1),(1,v2),(2,v3),(3,v4),(4,v5),(5,v6),(6,v7),(7,v8)]).toArray).run Tryz.prog w = .ok (.agg [v1,v2,v3,v4,v5,v6,v7,v8].toArray) w:=by clear E;obtain ⟨_,_,_,rfl⟩:=Own.shape ho1;obtain ⟨_,_,_,rfl⟩:=Own.shape ho2;obtain ⟨_,_,_,rfl⟩:=Own.shape ho3;obtain ⟨_,_,_,rfl⟩:=Own.shape ho4;obtain ⟨_,_,_,rfl⟩:=Own.shape ho5;obtain ⟨_,_,_,rfl⟩:=Own.shape ho6;obtain ⟨_,_,_,rfl⟩:=Own.shape ho7;obtain ⟨_,_,_,rfl⟩:=Own.shape ho8;intro w;kernel_rfl
 refine Qa (Gz [v1,v2,v3,v4,v5,v6,v7,v8] Z hbl1) Z (Q6 (cs':=[v1,v2,v3,v4,v5,v6,v7,v8]) Kw Z Z Z (Qk ho1.one (Qk ho2.one (Qk ho3.one (Qk ho4.one (Qk ho5.one (Qk ho6.one (Qk ho7.one (Qk ho8.one Z)))))))) h2 (Nat.le_of_ble_eq_true Z) Z (fun w12 m1 h2'=>?_))
 replace h2:=h2'
 replace E:=E.step m1 (fun g hg=>by cases hg;omega);replace h1:=h1.mod m1 (fun g hg=>by cases hg;omega);replace ho1:=ho1.mod m1 (fun g hg=>by cases hg;omega);replace ho2:=ho2.mod m1 (fun g hg=>by cases hg;omega);replace ho3:=ho3.mod m1 (fun g hg=>by cases hg;omega);replace ho4:=ho4.mod m1 (fun g hg=>by cases hg;omega);replace ho5:=ho5.mod m1 (fun g hg=>by cases hg;omega);replace ho6:=ho6.mod m1 (fun g hg=>by cases hg;omega);replace ho7:=ho7.mod m1 (fun g hg=>by cases hg;omega);replace ho8:=ho8.mod m1 (fun g hg=>by cases hg;omega)
 have z12:=m1.size
 refine Qd (Qw (Kk Z Z (Yi Kw h2.at Z) E ?_))
 exact ⟨_,Z,Worker.mkO x ⟨⟨(Own.sep ho1 ho2 (by omega)),⟨(Own.sep ho1 ho3 (by omega)),⟨(Own.sep ho1 ho4 (by omega)),⟨(Own.sep ho1 ho5 (by omega)),⟨(Own.sep ho1 ho6 (by omega)),⟨(Own.sep ho1 ho7 (by omega)),⟨(Own.sep ho1 ho8 (by omega)),trivial⟩⟩⟩⟩⟩⟩⟩,⟨⟨(Own.sep ho2 ho3 (by omega)),⟨(Own.sep ho2 ho4 (by omega)),⟨(Own.sep ho2 ho5 (by omega)),⟨(Own.sep ho2 ho6 (by omega)),⟨(Own.sep ho2 ho7 (by omega)),⟨(Own.sep ho2 ho8 (by omega)),trivial⟩⟩⟩⟩⟩⟩,⟨⟨(Own.sep ho3 ho4 (by omega)),⟨(Own.sep ho3 ho5 (by omega)),⟨(Own.sep ho3 ho6 (by omega)),⟨(Own.sep ho3 ho7 (by omega)),⟨(Own.sep ho3 ho8 (by omega)),trivial⟩⟩⟩⟩⟩,⟨⟨(Own.sep ho4 ho5 (by omega)),⟨(Own.sep ho4 ho6 (by omega)),⟨(Own.sep ho4 ho7 (by omega)),⟨(Own.sep ho4 ho8 (by omega)),trivial⟩⟩⟩⟩,⟨⟨(Own.sep ho5 ho6 (by omega)),⟨(Own.sep ho5 ho7 (by omega)),⟨(Own.sep ho5 ho8 (by omega)),trivial⟩⟩⟩,⟨⟨(Own.sep ho6 ho7 (by omega)),⟨(Own.sep ho6 ho8 (by omega)),trivial⟩⟩,⟨⟨(Own.sep ho7 ho8 (by omega)),trivial⟩,⟨trivial,trivial⟩⟩⟩⟩⟩⟩⟩⟩ (Own.widen ho1 (by omega) (by omega)) (Own.widen ho2 (by omega) (by omega)) (Own.widen ho3 (by omega) (by omega)) (Own.widen ho4 (by omega) (by omega)) (Own.widen ho5 (by omega) (by omega)) (Own.widen ho6 (by omega) (by omega)) (Own.widen ho7 (by omega) (by omega)) (Own.widen ho8 (by omega) (by omega))⟩

set_option maxHeartbeats 4000000 in
set_option maxRecDepth 20000 in
theorem s_l12Copy (cx : List Value) (x : Worker) (w : World) (hx : Dat.R w 0 w.heap.size cx x) (hb : Yd x ≤ 1048576) : Ct Tryz.prog 87 [.agg cx.toArray] w (fun v w'=>∃ cs,v = .agg cs.toArray ∧ Own1.O w' w.heap.size w'.heap.size cs x):=by
 unfold Yd at hb
 refine Yh Tryz.func87 Z Tryz.ntmps87 Z ?_
 obtain ⟨o1,o2,o3,o4,o5,o6,o7,o8,rfl,hd1,hd2,hd3,hd4,hd5,hd6,hd7,hd8⟩:=Worker.op hx
 refine Q7 [(0,.agg [o1,o2,o3,o4,o5,o6,o7,o8].toArray)] ⟨Z,trivial⟩ ?_
 have E : Ext w w:=Ext.refl w
 refine Qf (Qh [false,false] Z Z (Y1 Z Z (fun b1 w1 e1 s1 h1=>?_)))
 have g_b1 : w.heap.size ≤ b1:=by have:=E.size;omega
 have y_b1:=h1.lt
 replace E:=E.trans e1
 have z1:=e1.size
 refine Yk Kw Z (fun b2 w2 e2 s2 h2=>?_)
 have g_b2 : w.heap.size ≤ b2:=by have:=E.size;omega
 have y_b2:=h2.lt
 replace E:=E.trans e2;replace h1:=h1.ext e2
 have z2:=e2.size
 refine Qd (Qf (S_regP Xi [(1,true),(2,true),(5,true),(6,true),(9,true),(10,true),(13,true),(14,true),(17,true),(18,true),(21,true),(22,true),(25,true),(26,true),(29,true),(30,true)] [⟨0,3,5,[],true,none,none⟩,⟨3,6,5,List.flatMap (Enc.enc (α:=Record)) x.queue,false,some (0,3),none⟩,⟨4,7,5,[],true,none,none⟩,⟨7,10,5,List.flatMap (Enc.enc (α:=Record)) x.staged,false,some (4,7),none⟩,⟨8,11,5,[],true,none,none⟩,⟨11,14,5,List.flatMap (Enc.enc (α:=Record)) x.inputs,false,some (8,11),none⟩,⟨12,15,4,[],true,none,none⟩,⟨15,18,4,List.flatMap (Enc.enc (α:=Cell)) x.cells,false,some (12,15),none⟩,⟨16,19,1,[],true,none,none⟩,⟨19,22,1,List.flatMap (Enc.enc (α:=Int)) x.sums,false,some (16,19),none⟩,⟨20,23,1,[],true,none,none⟩,⟨23,26,1,List.flatMap (Enc.enc (α:=Bool)) x.black,false,some (20,23),none⟩,⟨24,27,1,[],true,none,none⟩,⟨27,30,1,List.flatMap (Enc.enc (α:=Bool)) x.caps,false,some (24,27),none⟩,⟨28,31,2,[],true,none,none⟩,⟨31,34,2,List.flatMap (Enc.enc (α:=Done)) x.dones,false,some (28,31),none⟩] [(32,true),(33,false)] (by kernel_rfl) Z Z [(0,.agg [o1,o2,o3,o4,o5,o6,o7,o8].toArray),(1,.pointer (some ⟨b1,0,none⟩)),(2,.pointer (some ⟨b2,0,none⟩)),(4,.pointer (some ⟨b1,0,none⟩)),(5,o1),(8,.pointer (some ⟨b1,1,none⟩)),(9,o2),(12,.pointer (some ⟨b1,2,none⟩)),(13,o3),(16,.pointer (some ⟨b1,3,none⟩)),(17,o4),(20,.pointer (some ⟨b1,4,none⟩)),(21,o5),(24,.pointer (some ⟨b1,5,none⟩)),(25,o6),(28,.pointer (some ⟨b1,6,none⟩)),(29,o7),(32,.pointer (some ⟨b1,7,none⟩)),(33,o8)] (fun w'=>Ext w w' ∧ w2.heap.size ≤ w'.heap.size ∧ Blk w' b1 ([o1,o2,o3,o4,o5,o6,o7,o8]) ∧ Blk w' b2 [.slice none 0 0,.slice none 0 0,.slice none 0 0,.slice none 0 0,.slice none 0 0,.slice none 0 0,.slice none 0 0,.slice none 0 0]) (fun w3 e3=>?_) (fun w3 hphi_w3=>?_)))
 ·replace E:=E.trans e3;replace h1:=h1.ext e3;replace h2:=h2.ext e3
  have z3:=e3.size
  refine Qa (Qb Vd Z) Z (Qa (Qj Xy Z (h1.one 0 Z)) Z (Qa (Qb Gm Z) Z (Qa (Qj Xy Z (h1.one 1 Z)) Z (Qa (Qb Vj Z) Z (Qa (Qj Xy Z (h1.one 2 Z)) Z (Qa (Qb Gl Z) Z (Qa (Qj A1 Z (h1.one 3 Z)) Z (Qa (Qb Hm Z) Z (Qa (Qj Ke Z (h1.one 4 Z)) Z (Qa (Qb Ts Z) Z (Qa (Qj G5 Z (h1.one 5 Z)) Z (Qa (Qb Hl Z) Z (Qa (Qj G5 Z (h1.one 6 Z)) Z (Qa (Qb Gk Z) Z (Qa (Qj A0 Z (h1.one 7 Z)) Z (Qp ⟨Z,Z,Z,Z,Z,Z,Z,Z,Z,Z,Z,Z,Z,Z,Z,Z,Z,Z,Z,trivial⟩ ⟨E,(by omega),h1,h2⟩))))))))))))))))
 clear E h1 h2
 obtain ⟨E,z4,h1,h2⟩:=hphi_w3
 refine ⟨⟨⟨_,Z,Z,Z,Z,?_⟩,⟨_,Z,Z,Z,Z,?_⟩,⟨_,Z,Z,Z,Z,?_⟩,⟨_,Z,Z,Z,Z,?_⟩,⟨_,Z,Z,Z,Z,?_⟩,⟨_,Z,Z,Z,Z,?_⟩,⟨_,Z,Z,Z,Z,?_⟩,⟨_,Z,Z,Z,Z,?_⟩,⟨_,Z,Z,Z,Z,?_⟩,⟨_,Z,Z,Z,Z,?_⟩,⟨_,Z,Z,Z,Z,?_⟩,⟨_,Z,Z,Z,Z,?_⟩,⟨_,Z,Z,Z,Z,?_⟩,⟨_,Z,Z,Z,Z,?_⟩,⟨_,Z,Z,Z,Z,?_⟩,⟨_,Z,Z,Z,Z,?_⟩,trivial⟩,fun w4 e4=>?_⟩
 ·exact Vl Kn
 ·exact Vm Kn Z (fun _ eX=>RdS.src (RdS.ext (hd1.rd.ext E) eX)) (Xe _) (by simp only [Yb,List.length_nil];simp only [Enc.sz];omega) (by decide)
 ·exact Vl Kn
 ·exact Vm Kn Z (fun _ eX=>RdS.src (RdS.ext (hd2.rd.ext E) eX)) (Xe _) (by simp only [Yb,List.length_nil];simp only [Enc.sz];omega) (by decide)
 ·exact Vl Kn
 ·exact Vm Kn Z (fun _ eX=>RdS.src (RdS.ext (hd3.rd.ext E) eX)) (Xe _) (by simp only [Yb,List.length_nil];simp only [Enc.sz];omega) (by decide)
 ·exact Vl Xq
 ·exact Vm Xq Z (fun _ eX=>RdS.src (RdS.ext (hd4.rd.ext E) eX)) (Xe _) (by simp only [Yb,List.length_nil];simp only [Enc.sz];omega) (by decide)
 ·exact Vl Uv
 ·exact Vm Uv Z (fun _ eX=>RdS.src (RdS.ext (hd5.rd.ext E) eX)) (Xe _) (by simp only [Yb,List.length_nil];simp only [Enc.sz];omega) (by decide)
 ·exact Vl C1
 ·exact Vm C1 Z (fun _ eX=>RdS.src (RdS.ext (hd6.rd.ext E) eX)) (Xe _) (by simp only [Yb,List.length_nil];simp only [Enc.sz];omega) (by decide)
 ·exact Vl C1
 ·exact Vm C1 Z (fun _ eX=>RdS.src (RdS.ext (hd7.rd.ext E) eX)) (Xe _) (by simp only [Yb,List.length_nil];simp only [Enc.sz];omega) (by decide)
 ·exact Vl Cc
 ·exact Vm Cc Z (fun _ eX=>RdS.src (RdS.ext (hd8.rd.ext E) eX)) (Xe _) (by simp only [Yb,List.length_nil];simp only [Enc.sz];omega) (by decide)
 intro v1 f1 ho1 v2 f2 ho2 v3 f3 ho3 v4 f4 ho4 v5 f5 ho5 v6 f6 ho6 v7 f7 ho7 v8 f8 ho8 v9 f9 ho9 v10 f10 ho10 v11 f11 ho11 v12 f12 ho12 v13 f13 ho13 v14 f14 ho14 v15 f15 ho15 v16 f16 ho16 sp1
 obtain ⟨ho1,rfl⟩:=ho1
 obtain ⟨ho2,rfl⟩:=ho2
 obtain ⟨ho3,rfl⟩:=ho3
 obtain ⟨ho4,rfl⟩:=ho4
 obtain ⟨ho5,rfl⟩:=ho5
 obtain ⟨ho6,rfl⟩:=ho6
 obtain ⟨ho7,rfl⟩:=ho7
 obtain ⟨ho8,rfl⟩:=ho8
 obtain ⟨ho9,rfl⟩:=ho9
 obtain ⟨ho10,rfl⟩:=ho10
 obtain ⟨ho11,rfl⟩:=ho11
 obtain ⟨ho12,rfl⟩:=ho12
 obtain ⟨ho13,rfl⟩:=ho13
 obtain ⟨ho14,rfl⟩:=ho14
 obtain ⟨ho15,rfl⟩:=ho15
 obtain ⟨ho16,rfl⟩:=ho16
 replace sp1 : SepL [v2,v4,v6,v8,v10,v12,v14,v16]:=DjL.toSep (vs:=[v2,v4,v6,v8,v10,v12,v14,v16]) sp1
 have g_sp1 : w.heap.size ≤ w3.heap.size:=E.size
 replace E:=E.trans e4;replace h1:=h1.ext e4;replace h2:=h2.ext e4
 have z5:=e4.size
 clear ho1
 replace ho2 : Own w4 w3.heap.size w4.heap.size 5 v2 (List.flatMap (Enc.enc (α:=Record)) x.queue):=ho2
 clear ho3
 replace ho4 : Own w4 w3.heap.size w4.heap.size 5 v4 (List.flatMap (Enc.enc (α:=Record)) x.staged):=ho4
 clear ho5
 replace ho6 : Own w4 w3.heap.size w4.heap.size 5 v6 (List.flatMap (Enc.enc (α:=Record)) x.inputs):=ho6
 clear ho7
 replace ho8 : Own w4 w3.heap.size w4.heap.size 4 v8 (List.flatMap (Enc.enc (α:=Cell)) x.cells):=ho8
 clear ho9
 replace ho10 : Own w4 w3.heap.size w4.heap.size 1 v10 (List.flatMap (Enc.enc (α:=Int)) x.sums):=ho10
 clear ho11
 replace ho12 : Own w4 w3.heap.size w4.heap.size 1 v12 (List.flatMap (Enc.enc (α:=Bool)) x.black):=ho12
 clear ho13
 replace ho14 : Own w4 w3.heap.size w4.heap.size 1 v14 (List.flatMap (Enc.enc (α:=Bool)) x.caps):=ho14
 clear ho15
 replace ho16 : Own w4 w3.heap.size w4.heap.size 2 v16 (List.flatMap (Enc.enc (α:=Done)) x.dones):=ho16
 refine J_sub [(0,.agg [o1,o2,o3,o4,o5,o6,o7,o8].toArray),(1,.pointer (some ⟨b1,0,none⟩)),(2,.pointer (some ⟨b2,0,none⟩)),(4,.pointer (some ⟨b1,0,none⟩)),(5,o1),(6,v2),(8,.pointer (some ⟨b1,1,none⟩)),(9,o2),(10,v4),(12,.pointer (some ⟨b1,2,none⟩)),(13,o3),(14,v6),(16,.pointer (some ⟨b1,3,none⟩)),(17,o4),(18,v8),(20,.pointer (some ⟨b1,4,none⟩)),(21,o5),(22,v10),(24,.pointer (some ⟨b1,5,none⟩)),(25,o6),(26,v12),(28,.pointer (some ⟨b1,6,none⟩)),(29,o7),(30,v14),(32,.pointer (some ⟨b1,7,none⟩)),(33,o8),(34,v16)] ⟨Z,Z,Z,Z,Z,Z,Z,Z,Z,Z,Z,Z,Z,Z,Z,Z,Z,Z,Z,Z,Z,Z,Z,Z,Z,Z,Z,trivial⟩ ?_
 have hbl1 : ∀ w,(Instr.build 70 ([(0,v2),(1,v4),(2,v6),(3,v8),(4,v10),(5,v12),(6,v14),(7,v16)]).toArray).run Tryz.prog w = .ok (.agg [v2,v4,v6,v8,v10,v12,v14,v16].toArray) w:=by clear E;obtain ⟨_,_,_,rfl⟩:=Own.shape ho2;obtain ⟨_,_,_,rfl⟩:=Own.shape ho4;obtain ⟨_,_,_,rfl⟩:=Own.shape ho6;obtain ⟨_,_,_,rfl⟩:=Own.shape ho8;obtain ⟨_,_,_,rfl⟩:=Own.shape ho10;obtain ⟨_,_,_,rfl⟩:=Own.shape ho12;obtain ⟨_,_,_,rfl⟩:=Own.shape ho14;obtain ⟨_,_,_,rfl⟩:=Own.shape ho16;intro w;kernel_rfl
 refine Qa (Gz [v2,v4,v6,v8,v10,v12,v14,v16] Z hbl1) Z (Q6 (cs':=[v2,v4,v6,v8,v10,v12,v14,v16]) Kw Z Z Z (Qk ho2.one (Qk ho4.one (Qk ho6.one (Qk ho8.one (Qk ho10.one (Qk ho12.one (Qk ho14.one (Qk ho16.one Z)))))))) h2 (Nat.le_of_ble_eq_true Z) Z (fun w5 m1 h2'=>?_))
 replace h2:=h2'
 replace E:=E.step m1 (fun g hg=>by cases hg;omega);replace h1:=h1.mod m1 (fun g hg=>by cases hg;omega);replace ho2:=ho2.mod m1 (fun g hg=>by cases hg;omega);replace ho4:=ho4.mod m1 (fun g hg=>by cases hg;omega);replace ho6:=ho6.mod m1 (fun g hg=>by cases hg;omega);replace ho8:=ho8.mod m1 (fun g hg=>by cases hg;omega);replace ho10:=ho10.mod m1 (fun g hg=>by cases hg;omega);replace ho12:=ho12.mod m1 (fun g hg=>by cases hg;omega);replace ho14:=ho14.mod m1 (fun g hg=>by cases hg;omega);replace ho16:=ho16.mod m1 (fun g hg=>by cases hg;omega)
 have z6:=m1.size
 refine Qd (Qw (Kk Z Z (Yi Kw h2.at Z) E ?_))
 exact ⟨_,Z,Worker.mkO x sp1 (Own.widen ho2 (by omega) (by omega)) (Own.widen ho4 (by omega) (by omega)) (Own.widen ho6 (by omega) (by omega)) (Own.widen ho8 (by omega) (by omega)) (Own.widen ho10 (by omega) (by omega)) (Own.widen ho12 (by omega) (by omega)) (Own.widen ho14 (by omega) (by omega)) (Own.widen ho16 (by omega) (by omega))⟩

set_option maxRecDepth 20000 in
theorem markNodeS (vxs : Value) (lo hi : Nat) (fp : List Nat) (xs : List Node) (k : Nat) (w : World) (gxs : OwF w lo hi vxs xs fp) (hhi : hi ≤ w.heap.size) (hb : k + 4 * X1 Xx xs ≤ 1099511627776) : CtR Tryz.prog 68 [vxs,.int .i64 ((k : Nat) : Int)] w lo hi (fun v w'=>v = .int .i64 (((Xv Kc) k xs : Nat) : Int) ∧ OwF w' lo hi vxs ((X0 Kc U4) k xs) fp ∧ Kq w w' fp):=by
 have hxs : OwK w fp w lo hi vxs xs:=⟨gxs,Kq.refl _ _⟩
 have hmx : xs.length ≤ maxLen:=hxs.rd.1.1
 unfold maxLen at hmx
 refine Vs Tryz.func68 Z Tryz.ntmps68 Z ?_
 refine Q7 [(0,vxs),(1,.int .i64 ((k : Nat) : Int))] ⟨Z,Z,trivial⟩ ?_
 have E : ModR w w lo hi:=ModR.refl w lo hi
 refine Qf (Qh [true] Z Z (Qa (Qe Z) Z (Qd (Qf (Qf (Qh [true] Z Z (Qa (Qe Z) Z (Qd (Q0 (Ym (fun (xq : Nat × Nat)=>let ⟨i,q⟩:=xq;[(0,vxs),(1,.int .i64 ((q : Nat) : Int)),(4,.int .i64 0),(5,.int .i64 ((i : Nat) : Int))]) (fun (xq : Nat × Nat) w'=>let ⟨i,q⟩:=xq;ModR w w' lo hi ∧ w.heap.size ≤ w'.heap.size ∧ i ≤ xs.length ∧ q = (Xv Kc) k (xs.take i) ∧ OwK w fp w' lo hi vxs ((X0 Kc U4) k (xs.take i) ++ xs.drop i)) (fun (xq : Nat × Nat)=>let ⟨i,q⟩:=xq;xs.length - i) (0,k) ⟨Z,Z,Z,Z,trivial⟩ ⟨E,Nat.le_refl _,Nat.zero_le _,Z,(by simpa [X0] using hxs)⟩ ?_))))))))))
 clear E hxs
 rintro ⟨i,q⟩ w1 ⟨E,z1,hi0,hq,hxs⟩
 refine Q7 [(0,vxs),(1,.int .i64 ((q : Nat) : Int)),(4,.int .i64 0),(5,.int .i64 ((i : Nat) : Int))] ⟨Z,Z,Z,Z,trivial⟩ ?_
 refine Qf (Qf (Qh [true,true,true,true] Z Z (Qa (Qc Z) Z (Qa (Qc Z) Z (Qa (Ya Tryz.underlying32 Z (OwK.lenE (n:=xs.length) hxs (by simp [Ue];omega))) Z (Qa (Yf Z Z) Z (Qd (Qs Z (fun hc1=>?_) (fun hc1=>?_)))))))))
 ·have hlt : i < xs.length:=by have h:=of_decide_eq_true hc1;omega
  rw [Ac hlt] at hxs
  obtain ⟨_,ho1,hrow⟩:=OwK.focus hxs
  obtain ⟨o1,rfl,sp1,hw1⟩:=Node.opO ho1
  clear hxs
  have hl0 : ((X0 Kc U4) k (xs.take i)).length = i:=by rw [Ue];simp;omega
  have hn0 : i + 1 + (xs.drop (i + 1)).length = xs.length:=by simp;omega
  have hqk:=Ck (k:=k) Ak hlt;rw [← hq] at hqk;unfold Kc at hqk
  have hc1n : i < xs.length:=by first | (have h:=of_decide_eq_true hc1;omega) | (have h:=hc1;simp at h;omega)
  refine Qn (Qf (Q0 (Qf (Qh [true,true,true,true,true,false] Z Z (Qa (Qc Z) Z (Qa (Qc Z) Z (Qa (Qc Z) Z (Qa (Q1 (i:=i) Gv Z Z (RowK.same1 hrow hl0 hn0) (by simp;omega)) Z (Qa (Qz Xk Z) Z ?_)))))))))
  have hq1:=RowK.sep hrow (u:=o1) (by simp)
  have hqb:=RowK.blk hrow
  refine Uw (i:=i) (f:=0) (cs':=[.int .i64 ((q : Nat) : Int),.int .i64 ((xs[i]'hlt).a),.int .i64 ((xs[i]'hlt).b),o1]) Yo Z Z Z Z hrow hl0 (by decide) Z Z (fun w2 m1 hrow'=>?_)
  replace hrow:=hrow'
  replace E:=E.mod m1 (fun g hg=>by have:=hqb g hg;omega);replace hw1:=Own.modS hw1 m1 hq1
  have z2:=m1.size
  clear hqb hq1
  refine Qd (Qf (Qh [true,true,true] Z Z (Qa (Qc Z) Z (Qa (Q8 Z Z (Ye (by unfold maxLen;omega))) Z (Qa (Qe Z) Z (Qd (Qf (Qh [true,true,true,true,true,false] Z Z (Qa (Qc Z) Z (Qa (Qc Z) Z (Qa (Qc Z) Z (Qa (Q1 (i:=i) Gv Z Z (RowK.same1 hrow hl0 hn0) (by simp;omega)) Z (Qa (Qz X2 Z) Z ?_)))))))))))))
  have hq2:=RowK.sep hrow (u:=o1) (by simp)
  have hqb:=RowK.blk hrow
  refine Uw (i:=i) (f:=1) (cs':=[.int .i64 ((q : Nat) : Int),.int .i64 ((q + 1 : Nat) : Int),.int .i64 ((xs[i]'hlt).b),o1]) Yo Z Z Z Z hrow hl0 (by decide) Z Z (fun w3 m2 hrow'=>?_)
  replace hrow:=hrow'
  replace E:=E.mod m2 (fun g hg=>by have:=hqb g hg;omega);replace hw1:=Own.modS hw1 m2 hq2
  have z3:=m2.size
  clear hqb hq2
  refine Qd (Qf (Qh [true,true,true] Z Z (Qa (Qc Z) Z (Qa (Q8 Z Z (Ye (by unfold maxLen;omega))) Z (Qa (Qe Z) Z (Qd (Qf (Qh [true,true,true,true,true,false] Z Z (Qa (Qc Z) Z (Qa (Qc Z) Z (Qa (Qc Z) Z (Qa (Q1 (i:=i) Gv Z Z (RowK.same1 hrow hl0 hn0) (by simp;omega)) Z (Qa (Qz Uf Z) Z ?_)))))))))))))
  have hq3:=RowK.sep hrow (u:=o1) (by simp)
  have hqb:=RowK.blk hrow
  refine Uw (i:=i) (f:=2) (cs':=[.int .i64 ((q : Nat) : Int),.int .i64 ((q + 1 : Nat) : Int),.int .i64 ((q + 1 + 1 : Nat) : Int),o1]) Yo Z Z Z Z hrow hl0 (by decide) Z Z (fun w4 m3 hrow'=>?_)
  replace hrow:=hrow'
  replace E:=E.mod m3 (fun g hg=>by have:=hqb g hg;omega);replace hw1:=Own.modS hw1 m3 hq3
  have z4:=m3.size
  clear hqb hq3
  refine Qd (Qf (Qh [true,true,true] Z Z (Qa (Qc Z) Z (Qa (Q8 Z Z (Ye (by unfold maxLen;omega))) Z (Qa (Qe Z) Z (Qd (Qh [true,true,true,true,true,true,false,true] Z Z (Qa (Qc Z) Z (Qa (Qc Z) Z (Qa (Q1 (i:=i) Gv Z Z (RowK.same1 hrow hl0 hn0) (by simp;omega)) Z (Qa (Qz Y8 Z) Z (Qa (Qj Ke Z ((RowK.at hrow hl0).one 3 Z)) Z (Qa (Qc Z) Z (Kj Tryz.call71 Z Z (markIntS o1 (bl o1) (bh o1) ((xs[i]'hlt).outs) (q + 1 + 1 + 1) _ (Own.tight hw1) (by first | omega | (simp only [Qi];omega) | (rw [Qi];done) | (simp only [Qi];done))) Z (fun _ w5 e1 hv=>?_)))))))))))))))
  obtain ⟨rfl,hw1'⟩:=hv
  have e1c:=ModR.loose e1 (Own.blk hw1)
  replace hw1:=Own.loose hw1' (Own.blk hw1)
  clear hw1'
  replace E:=E.trans e1c (by omega) (by omega);replace hrow:=RowK.modRS hrow e1 (by simp)
  have z5:=e1c.size
  refine Qa (Qe Z) Z (Qd (Q4 (Yr (Qh [true,true,true] Z Z (Qa (Qc Z) Z (Qa (Q8 Z Z (Ye (by unfold maxLen;omega))) Z (Qa (Qe Z) Z (Qd ?_))))))))
  have hxs:=RowK.close hrow (Node.mkO (⟨((q : Nat) : Int),((q + 1 : Nat) : Int),((q + 1 + 1 : Nat) : Int),V2 1 An (q + 1 + 1 + 1) ((xs[i]'hlt).outs).length⟩ : Node) sp1 (Own.widen hw1 (by omega) (by omega)))
  refine Q4 (Yc (i + 1,(q + 1 + 1 + 1) + 1 * ((xs[i]'hlt).outs).length) (by simp;omega) ⟨Z,Z,Z,Z,trivial⟩ ⟨E,(by omega),(by omega),(by rw [Gi hlt,← hq];rfl),(by rw [Tp hlt,← hq];exact hxs)⟩)
 ·have hc1n : ¬ i < xs.length:=by first | (have h:=of_decide_eq_false hc1;omega) | (have h:=hc1;simp at h;omega)
  refine Yn (Q5 (Q3 ?_))
  refine Qf (Qh [true,true] Z Z (Qa (Qc Z) Z (Qa (Qe Z) Z (Qd (Qw (Ql Z Z E ?_))))))
  have hi9 : xs.length ≤ i:=by have h:=of_decide_eq_false hc1;omega
  rw [List.take_of_length_le hi9] at hq hxs
  rw [List.drop_of_length_le hi9,List.append_nil] at hxs
  exact ⟨by rw [hq],hxs.1,hxs.2⟩

set_option maxRecDepth 20000 in
theorem markGraph (ox : Value) (lo hi : Nat) (fp : List Nat) (x : Graph) (k : Nat) (w : World) (hx : OwF w lo hi ox x.nodes fp) (hhi : hi ≤ w.heap.size) (hb : k + 4 * Xa x ≤ 1099511627776) : CtR Tryz.prog 31 [.agg [ox,.int .i64 x.workers,.int .i64 x.cap].toArray,.int .i64 ((k : Nat) : Int)] w lo hi (fun v w'=>v = .int .i64 ((Xv Kc k x.nodes : Nat) : Int) ∧ OwF w' lo hi ox (X0 Kc U4 k x.nodes) fp ∧ Kq w w' fp):=by
 unfold Xa at hb
 refine Vs Tryz.func31 Z Tryz.ntmps31 Z ?_
 refine Q7 [(0,.agg [ox,.int .i64 x.workers,.int .i64 x.cap].toArray),(1,.int .i64 ((k : Nat) : Int))] ⟨Z,Z,trivial⟩ ?_
 have E : ModR w w lo hi:=ModR.refl w lo hi
 refine Qf (Qh [false,true] Z Z (Y1 Z Z (fun b1 w1 e1 s1 h1=>?_)))
 have g_b1 : w.heap.size ≤ b1:=by have:=E.size;omega
 have y_b1:=h1.lt
 replace E:=E.ext e1;replace hx:=hx.ext e1
 have z1:=e1.size
 refine Qa (Qe Z) Z (Qd (Qf (Qh [true,true,true,false,true] Z Z (Qa (Qb Kd Z) Z (Qa (Qj Gc Z (h1.one 0 Z)) Z (Qa (Qc Z) Z (Kj Tryz.call68 Z Z (markNodeS ox lo hi fp x.nodes k _ hx (by omega) (by first | omega | (simp only [Qi];omega) | (rw [Qi];done) | (simp only [Qi];done))) Z (fun _ w2 e2 hv=>?_))))))))
 obtain ⟨rfl,hx',kq1⟩:=hv
 replace hx:=hx'
 replace E:=E.trans e2 (by omega) (by omega);replace h1:=h1.modR e2 (by omega)
 have z2:=e2.size
 refine Qa (Qe Z) Z (Qd (Qf (Qh [true,true] Z Z (Qa (Qc Z) Z (Qa (Qe Z) Z (Qd (Qw (Ql Z Z E ?_))))))))
 exact ⟨Z,hx,(by first | exact kq1 | exact Kq.trans (Ext.kq e1 _) kq1)⟩

set_option maxRecDepth 20000 in
theorem c_toToken (x : Token) (w : World)  : Ct Tryz.prog 52 [.agg (Enc.enc x).toArray] w (fun v _=>v = .agg (Enc.enc x).toArray):=by
 refine Yh Tryz.func52 Z Tryz.ntmps52 Z ?_
 refine Q7 [(0,.agg (Enc.enc x).toArray)] ⟨Z,trivial⟩ ?_
 have E : Ext w w:=Ext.refl w
 refine Qf (Qh [false,false] Z Z (Y1 Z Z (fun b1 w1 e1 s1 h1=>?_)))
 have g_b1 : w.heap.size ≤ b1:=by have:=E.size;omega
 have y_b1:=h1.lt
 replace E:=E.trans e1
 have z1:=e1.size
 refine Yk Ca Z (fun b2 w2 e2 s2 h2=>?_)
 have g_b2 : w.heap.size ≤ b2:=by have:=E.size;omega
 have y_b2:=h2.lt
 replace E:=E.trans e2;replace h1:=h1.ext e2
 have z2:=e2.size
 refine Qd (Qf (Qh [false] Z Z (Yk Ca Z (fun b3 w3 e3 s3 h3=>?_))))
 have g_b3 : w.heap.size ≤ b3:=by have:=E.size;omega
 have y_b3:=h3.lt
 replace E:=E.trans e3;replace h1:=h1.ext e3;replace h2:=h2.ext e3
 have z3:=e3.size
 refine Qd (Qf (Qh [true,true,true,false] Z Z (Qa (Qb fl109_0 Z) Z (Qa (Qj Tb Z (h1.one 0 Z)) Z (Qa (Qb Tv Z) Z (Yj (cs':=[.bool x.going,.int .i64 0,.int .i64 0,.bool false,.bool false]) Tb Z Z Z h3 (Nat.le_of_ble_eq_true Z) Z (fun w4 m1 h3'=>?_)))))))
 replace h3:=h3'
 replace E:=E.step m1 (fun g hg=>by cases hg;omega);replace h1:=h1.mod m1 (fun g hg=>by cases hg;omega);replace h2:=h2.mod m1 (fun g hg=>by cases hg;omega)
 have z4:=m1.size
 refine Qd (Qf (Qh [true,true,true,false] Z Z (Qa (Qb fl109_1 Z) Z (Qa (Qj Yo Z (h1.one 1 Z)) Z (Qa (Qb G9 Z) Z (Yj (cs':=[.bool x.going,.int .i64 x.place,.int .i64 0,.bool false,.bool false]) Yo Z Z Z h3 (Nat.le_of_ble_eq_true Z) Z (fun w5 m2 h3'=>?_)))))))
 replace h3:=h3'
 replace E:=E.step m2 (fun g hg=>by cases hg;omega);replace h1:=h1.mod m2 (fun g hg=>by cases hg;omega);replace h2:=h2.mod m2 (fun g hg=>by cases hg;omega)
 have z5:=m2.size
 refine Qd (Qf (Qh [true,true,true,false] Z Z (Qa (Qb fl109_2 Z) Z (Qa (Qj Yo Z (h1.one 2 Z)) Z (Qa (Qb G8 Z) Z (Yj (cs':=[.bool x.going,.int .i64 x.place,.int .i64 x.sum,.bool false,.bool false]) Yo Z Z Z h3 (Nat.le_of_ble_eq_true Z) Z (fun w6 m3 h3'=>?_)))))))
 replace h3:=h3'
 replace E:=E.step m3 (fun g hg=>by cases hg;omega);replace h1:=h1.mod m3 (fun g hg=>by cases hg;omega);replace h2:=h2.mod m3 (fun g hg=>by cases hg;omega)
 have z6:=m3.size
 refine Qd (Qf (Qh [true,true,true,false] Z Z (Qa (Qb fl109_3 Z) Z (Qa (Qj Tb Z (h1.one 3 Z)) Z (Qa (Qb Au Z) Z (Yj (cs':=[.bool x.going,.int .i64 x.place,.int .i64 x.sum,.bool x.black,.bool false]) Tb Z Z Z h3 (Nat.le_of_ble_eq_true Z) Z (fun w7 m4 h3'=>?_)))))))
 replace h3:=h3'
 replace E:=E.step m4 (fun g hg=>by cases hg;omega);replace h1:=h1.mod m4 (fun g hg=>by cases hg;omega);replace h2:=h2.mod m4 (fun g hg=>by cases hg;omega)
 have z7:=m4.size
 refine Qd (Qf (Qh [true,true,true,false] Z Z (Qa (Qb fl109_4 Z) Z (Qa (Qj Tb Z (h1.one 4 Z)) Z (Qa (Qb As Z) Z (Yj (cs':=[.bool x.going,.int .i64 x.place,.int .i64 x.sum,.bool x.black,.bool x.capped]) Tb Z Z Z h3 (Nat.le_of_ble_eq_true Z) Z (fun w8 m5 h3'=>?_)))))))
 replace h3:=h3'
 replace E:=E.step m5 (fun g hg=>by cases hg;omega);replace h1:=h1.mod m5 (fun g hg=>by cases hg;omega);replace h2:=h2.mod m5 (fun g hg=>by cases hg;omega)
 have z8:=m5.size
 refine Qd (Qf (Qh [true,false] Z Z (Qa (Qt Ca Z h3.at Z) Z (Q6 (cs':=[.bool x.going,.int .i64 x.place,.int .i64 x.sum,.bool x.black,.bool x.capped]) Ca Z Z Z Z h2 (Nat.le_of_ble_eq_true Z) Z (fun w9 m6 h2'=>?_)))))
 replace h2:=h2'
 replace E:=E.step m6 (fun g hg=>by cases hg;omega);replace h1:=h1.mod m6 (fun g hg=>by cases hg;omega);replace h3:=h3.mod m6 (fun g hg=>by cases hg;omega)
 have z9:=m6.size
 refine Qd (Qw (Kk Z Z (Yi Ca h2.at Z) E ?_))
 rfl

set_option maxRecDepth 20000 in
theorem c_eqToken (x : Token) (y : Token) (w : World)  : Ct Tryz.prog 66 [.agg (Enc.enc x).toArray,.agg (Enc.enc y).toArray] w (fun v _=>v = .bool (decide (x = y))):=by
 refine Yh Tryz.func66 Z Tryz.ntmps66 Z ?_
 refine Q7 [(0,.agg (Enc.enc x).toArray),(1,.agg (Enc.enc y).toArray)] ⟨Z,Z,trivial⟩ ?_
 have E : Ext w w:=Ext.refl w
 refine Qf (Qh [false,false,true] Z Z (Y1 Z Z (fun b1 w1 e1 s1 h1=>?_)))
 have g_b1 : w.heap.size ≤ b1:=by have:=E.size;omega
 have y_b1:=h1.lt
 replace E:=E.trans e1
 have z1:=e1.size
 refine Y1 Z Z (fun b2 w2 e2 s2 h2=>?_)
 have g_b2 : w.heap.size ≤ b2:=by have:=E.size;omega
 have y_b2:=h2.lt
 replace E:=E.trans e2;replace h1:=h1.ext e2
 have z2:=e2.size
 refine Qa (Qe Z) Z (Qd (Qf (Qf (Qh [true,true,true,true,true] Z Z (Qa (Qb Tv Z) Z (Qa (Qj Tb Z (h1.one 0 Z)) Z (Qa (Qb Tv Z) Z (Qa (Qj Tb Z (h2.one 0 Z)) Z (Qa (Vf (Tryz.underlying4) Z Z) Z (Qd (Qs Z (fun hc1=>?_) (fun hc1=>?_))))))))))))
 ·refine Qf (Qh [true] Z Z (Qa (Qe Z) Z (Qd (Qw (Ql Z Z E ?_)))))
  cases x;cases y;simp_all
 ·refine Qn (Qf (Qf (Qh [true,true,true,true,true] Z Z (Qa (Qb G9 Z) Z (Qa (Qj Yo Z (h1.one 1 Z)) Z (Qa (Qb G9 Z) Z (Qa (Qj Yo Z (h2.one 1 Z)) Z (Qa (Yu Z Z) Z (Qd (Qs Z (fun hc2=>?_) (fun hc2=>?_)))))))))))
  ·refine Qf (Qh [true] Z Z (Qa (Qe Z) Z (Qd (Qw (Ql Z Z E ?_)))))
   cases x;cases y;simp_all
  ·refine Qn (Qf (Qf (Qh [true,true,true,true,true] Z Z (Qa (Qb G8 Z) Z (Qa (Qj Yo Z (h1.one 2 Z)) Z (Qa (Qb G8 Z) Z (Qa (Qj Yo Z (h2.one 2 Z)) Z (Qa (Yu Z Z) Z (Qd (Qs Z (fun hc3=>?_) (fun hc3=>?_)))))))))))
   ·refine Qf (Qh [true] Z Z (Qa (Qe Z) Z (Qd (Qw (Ql Z Z E ?_)))))
    cases x;cases y;simp_all
   ·refine Qn (Qf (Qf (Qh [true,true,true,true,true] Z Z (Qa (Qb Au Z) Z (Qa (Qj Tb Z (h1.one 3 Z)) Z (Qa (Qb Au Z) Z (Qa (Qj Tb Z (h2.one 3 Z)) Z (Qa (Vf (Tryz.underlying4) Z Z) Z (Qd (Qs Z (fun hc4=>?_) (fun hc4=>?_)))))))))))
    ·refine Qf (Qh [true] Z Z (Qa (Qe Z) Z (Qd (Qw (Ql Z Z E ?_)))))
     cases x;cases y;simp_all
    ·refine Qn (Qf (Qf (Qh [true,true,true,true,true] Z Z (Qa (Qb As Z) Z (Qa (Qj Tb Z (h1.one 4 Z)) Z (Qa (Qb As Z) Z (Qa (Qj Tb Z (h2.one 4 Z)) Z (Qa (Vf (Tryz.underlying4) Z Z) Z (Qd (Qs Z (fun hc5=>?_) (fun hc5=>?_)))))))))))
     ·refine Qf (Qh [true] Z Z (Qa (Qe Z) Z (Qd (Qw (Ql Z Z E ?_)))))
      cases x;cases y;simp_all
     ·refine Qn (Qf (Qh [true] Z Z (Qa (Qe Z) Z (Qd (Qw (Ql Z Z E ?_))))))
      cases x;cases y;simp_all

set_option maxRecDepth 20000 in
theorem c_szTokenS (vxs : Value) (xs : List Token) (n : Int) (w : World) (hxs : RdS w vxs xs) (h0 : 0 ≤ n ∧ n ≤ 1048576) : Ct Tryz.prog 14 [vxs,.int .i64 n] w (fun v _=>v = .int .i64 (Up xs.length n)):=by
 refine Yh Tryz.func14 Z Tryz.ntmps14 Z ?_
 refine Q7 [(0,vxs),(1,.int .i64 n)] ⟨Z,Z,trivial⟩ ?_
 have E : Ext w w:=Ext.refl w
 refine Qf (Qh [true] Z Z (Qa (Qe Z) Z (Qd (Qf (Qh [true,true,true,true,true] Z Z (Qa (Qc Z) Z (Qa (Qc Z) Z (Qa (Ya Tryz.underlying27 Z (hxs.ext E).len) Z (Qa (Uu Z Z Z) Z (Qa (Qe Z) Z (Qd (Qf (Qf (Qh [true,true] Z Z (Qa (Qc Z) Z (Qa (Yf Z Z) Z (Qd (Qs Z (fun hc1=>?_) (fun hc1=>?_)))))))))))))))))))
 ·refine Qf (Qh [true] Z Z (Qa (Qe Z) Z (Qd (Qw (Ql Z Z E ?_)))))
  exact B3 h0.2 h0.1 hxs.1 hc1
 ·refine Qn (Qf (Qh [true,true] Z Z (Qa (Qc Z) Z (Qa (Qe Z) Z (Qd (Qw (Ql Z Z E ?_)))))))
  exact C0 h0.2 h0.1 hxs.1 hc1

set_option maxRecDepth 20000 in
theorem c_toTokenS (vxs : Value) (xs : List Token) (w : World) (hxs : RdS w vxs xs) (hb : xs.length ≤ 1048576) : Ct Tryz.prog 21 [vxs] w (fun v w'=>Own w' w.heap.size w'.heap.size 5 v (List.flatMap (Enc.enc (α:=Token)) xs)):=by
 refine Yh Tryz.func21 Z Tryz.ntmps21 Z ?_
 refine Q7 [(0,vxs)] ⟨Z,trivial⟩ ?_
 have E : Ext w w:=Ext.refl w
 refine Qf (Qh [true] Z Z (Qa (Qe Z) Z (Qd (Qf (Qh [true,true,false,true] Z Z (Qa (Qc Z) Z (Qa (Ya Tryz.underlying27 Z (hxs.ext E).len) Z (H9 (m:=xs.length) Hg Z Z (by omega) (by decide) Z (fun b1 w1 e1 s1 h1=>?_)))))))))
 have g_b1 : w.heap.size ≤ b1:=by have:=E.size;omega
 have y_b1:=h1.lt
 replace E:=E.trans e1
 have z1:=e1.size
 refine Qa (Qe Z) Z (Qd (Qf (Qf (Qh [true] Z Z (Qa (Qe Z) Z (Qd (Q0 (Ym (fun (k : Nat)=>[(0,vxs),(2,.slice none 0 0),(3,.slice (some ⟨b1,0,none⟩) xs.length xs.length),(4,.int .i64 ((k : Nat) : Int))]) (fun (k : Nat) w'=>Ext w w' ∧ w1.heap.size ≤ w'.heap.size ∧ k ≤ xs.length ∧ Blk w' b1 (mk xs [.bool false,.int .i64 0,.int .i64 0,.bool false,.bool false] k xs.length)) (fun (k : Nat)=>xs.length - k) 0 ⟨Z,Z,Z,Z,trivial⟩ ⟨E,Nat.le_refl _,Nat.zero_le _,(Tl xs [.bool false,.int .i64 0,.int .i64 0,.bool false,.bool false] xs.length) ▸ h1⟩ ?_))))))))
 clear E h1
 rintro k w2 ⟨E,z2,hk,h1⟩
 refine Qf (Qf (Qh [true,true,true,true] Z Z (Qa (Qc Z) Z (Qa (Qc Z) Z (Qa (Ya Tryz.underlying27 Z (hxs.ext E).len) Z (Qa (Yf Z Z) Z (Qd (Qs Z (fun hc1=>?_) (fun hc1=>?_)))))))))
 ·have hc1n : k < xs.length:=by first | (have h:=of_decide_eq_true hc1;omega) | (have h:=hc1;simp at h;omega)
  refine Qn (Qf (Q0 (Qh [true,true,true,true,true,true,false,true,false] Z Z (Qa (Qc Z) Z (Qa (Qc Z) Z (Qa (Qc Z) Z (Qa (Qc Z) Z ?_)))))))
  have hi1 : k < xs.length:=(by first | assumption | omega | (simp only [List.length_set];first | assumption | omega))
  refine Qa (Q1 (i:=k) sl27 Z Z (hxs.ext E) hi1) Z (Qa (Qt st109 Z ((hxs.ext E).get hi1) Z) Z (Qv Tryz.call52 Z (c_toToken (xs[k]'hi1) _ ) Z (fun _ w3 e2 hv=>?_)))
  subst hv
  replace E:=E.trans e2;replace h1:=h1.ext e2
  have z3:=e2.size
  refine Qa (Vo Hg Z Z (by first | assumption | omega | (simp only [List.length_set];first | assumption | omega))) Z (Q6 (cs':=mk xs [.bool false,.int .i64 0,.int .i64 0,.bool false,.bool false] (k + 1) xs.length) Ca Z Z Z Z h1 (Tn xs [.bool false,.int .i64 0,.int .i64 0,.bool false,.bool false] Z hc1n hc1n (by rfl)) (Tm xs [.bool false,.int .i64 0,.int .i64 0,.bool false,.bool false] Z hc1n hc1n) (fun w4 m1 h1'=>?_))
  replace h1:=h1'
  replace E:=E.step m1 (fun g hg=>by cases hg;omega)
  have z4:=m1.size
  refine Qd (Q4 (Yr (Qh [true,true,true] Z Z (Qa (Qc Z) Z (Qa (Q8 Z Z (Yt hc1n hxs.1)) Z (Qa (Qe Z) Z (Qd (Q4 (Yc (k + 1) (by omega) ⟨Z,Z,Z,Z,trivial⟩ ⟨E,(by omega),(by omega),h1⟩)))))))))
 ·have hc1n : ¬ k < xs.length:=by first | (have h:=of_decide_eq_false hc1;omega) | (have h:=hc1;simp at h;omega)
  refine Yn (Q5 (Q3 ?_))
  refine Qf (Qh [true,true] Z Z (Qa (Qc Z) Z (Qa (Qe Z) Z (Qd (Qw (Ql Z Z E ?_))))))
  obtain rfl : k = xs.length:=by omega
  rw [C7] at h1
  exact Own.ofBlk h1 (by omega) (by have:=h1.lt;omega) (Yb xs) hxs.1

set_option maxRecDepth 20000 in
theorem c_eqTokenS (vxs : Value) (xs : List Token) (vys : Value) (ys : List Token) (w : World) (hxs : RdS w vxs xs) (hys : RdS w vys ys) : Ct Tryz.prog 29 [vxs,vys] w (fun v _=>v = .bool (decide (xs = ys))):=by
 refine Yh Tryz.func29 Z Tryz.ntmps29 Z ?_
 refine Q7 [(0,vxs),(1,vys)] ⟨Z,Z,trivial⟩ ?_
 have E : Ext w w:=Ext.refl w
 refine Qf (Qh [true] Z Z (Qa (Qe Z) Z (Qd (Qf (Qf (Qh [true,true,true,true,true] Z Z (Qa (Qc Z) Z (Qa (Ya Tryz.underlying37 Z (hxs.ext E).len) Z (Qa (Qc Z) Z (Qa (Ya Tryz.underlying37 Z (hys.ext E).len) Z (Qa (Yu Z Z) Z (Qd (Qs Z (fun hc1=>?_) (fun hc1=>?_))))))))))))))
 ·have hc1n : ¬ xs.length = ys.length:=by first | (have h:=of_decide_eq_true hc1;omega) | (have h:=hc1;simp at h;omega)
  refine Qf (Qh [true] Z Z (Qa (Qe Z) Z (Qd (Qw (Ql Z Z E ?_)))))
  simp [H6 hc1n]
 ·have hc1n : xs.length = ys.length:=by first | (have h:=of_decide_eq_false hc1;omega) | (have h:=hc1;simp at h;omega)
  refine Qn (Qf (Qf (Qh [true] Z Z (Qa (Qe Z) Z (Qd (Q0 (Ym (fun (k : Nat)=>[(0,vxs),(1,vys),(4,.bool false),(5,.int .i64 ((k : Nat) : Int))]) (fun (k : Nat) w'=>Ext w w' ∧ w.heap.size ≤ w'.heap.size ∧ k ≤ xs.length ∧ xs.take k = ys.take k) (fun (k : Nat)=>xs.length - k) 0 ⟨Z,Z,Z,Z,trivial⟩ ⟨E,Nat.le_refl _,Nat.zero_le _,Z⟩ ?_)))))))
  clear E
  rintro k w1 ⟨E,z1,hk,hp⟩
  refine Qf (Qf (Qh [true,true,true,true] Z Z (Qa (Qc Z) Z (Qa (Qc Z) Z (Qa (Ya Tryz.underlying37 Z (hxs.ext E).len) Z (Qa (Yf Z Z) Z (Qd (Qs Z (fun hc2=>?_) (fun hc2=>?_)))))))))
  ·have hc2n : k < xs.length:=by first | (have h:=of_decide_eq_true hc2;omega) | (have h:=hc2;simp at h;omega)
   refine Qn (Qf (Q0 (Qf (Xj Xi [(0,true),(1,true),(2,true),(3,true),(4,true),(5,true),(6,true),(7,true),(8,false),(9,true)] (by decide +kernel) Z (fun w2 e1=>?_)))))
   replace E:=E.trans e1
   have z2:=e1.size
   refine Qa (Qc Z) Z (Qa (Qc Z) Z ?_)
   have hi1 : k < xs.length:=(by first | assumption | omega | (simp only [List.length_set];first | assumption | omega))
   refine Qa (Q1 (i:=k) Hg Z Z (hxs.ext E) hi1) Z (Qa (Qt Ca Z ((hxs.ext E).get hi1) Z) Z (Qa (Qc Z) Z (Qa (Qc Z) Z ?_)))
   have hi2 : k < ys.length:=(by first | assumption | omega | (simp only [List.length_set];first | assumption | omega))
   refine Qa (Q1 (i:=k) Hg Z Z (hys.ext E) hi2) Z (Qa (Qt Ca Z ((hys.ext E).get hi2) Z) Z (Qv Tryz.call66 Z (c_eqToken (xs[k]'hi1) (ys[k]'hi2) _ ) Z (fun _ w3 e2 hv=>?_)))
   subst hv
   replace E:=E.trans e2
   have z3:=e2.size
   refine Qa (Yq Z) Z (Qd (Qs Z (fun hc3=>?_) (fun hc3=>?_)))
   ·refine Qf (Qh [true] Z Z (Qa (Qe Z) Z (Qd (Qw (Q2 (Y0 (Q2 (Ql Z Z E ?_))))))))
    exact H7 (by omega) (by omega) (by simpa using hc3)
   ·refine Qn (Q4 (Yr (Qh [true,true,true] Z Z (Qa (Qc Z) Z (Qa (Q8 Z Z (Yt hc2n hxs.1)) Z (Qa (Qe Z) Z (Qd (Q4 (Yc (k + 1) (by omega) ⟨Z,Z,Z,Z,trivial⟩ ⟨E,(by omega),(by omega),Vn hp (by assumption) (by omega) (by simpa using hc3)⟩)))))))))
  ·have hc2n : ¬ k < xs.length:=by first | (have h:=of_decide_eq_false hc2;omega) | (have h:=hc2;simp at h;omega)
   refine Yn (Q5 (Q3 ?_))
   refine Qf (Qh [true] Z Z (Qa (Qe Z) Z (Qd (Qw (Ql Z Z E ?_)))))
   exact Gr hp hc1n (by omega)

set_option maxRecDepth 20000 in
theorem c_toNews (x : News) (w : World)  : Ct Tryz.prog 53 [.agg (Enc.enc x).toArray] w (fun v _=>v = .agg (Enc.enc x).toArray):=by
 refine Yh Tryz.func53 Z Tryz.ntmps53 Z ?_
 refine Q7 [(0,.agg (Enc.enc x).toArray)] ⟨Z,trivial⟩ ?_
 have E : Ext w w:=Ext.refl w
 refine Qf (Qh [false,false] Z Z (Y1 Z Z (fun b1 w1 e1 s1 h1=>?_)))
 have g_b1 : w.heap.size ≤ b1:=by have:=E.size;omega
 have y_b1:=h1.lt
 replace E:=E.trans e1
 have z1:=e1.size
 refine Yk T9 Z (fun b2 w2 e2 s2 h2=>?_)
 have g_b2 : w.heap.size ≤ b2:=by have:=E.size;omega
 have y_b2:=h2.lt
 replace E:=E.trans e2;replace h1:=h1.ext e2
 have z2:=e2.size
 refine Qd (Qf (Qh [false] Z Z (Yk T9 Z (fun b3 w3 e3 s3 h3=>?_))))
 have g_b3 : w.heap.size ≤ b3:=by have:=E.size;omega
 have y_b3:=h3.lt
 replace E:=E.trans e3;replace h1:=h1.ext e3;replace h2:=h2.ext e3
 have z3:=e3.size
 refine Qd (Qf (Qh [true,true,true,false] Z Z (Qa (Qb fl113_0 Z) Z (Qa (Qj Yo Z (h1.one 0 Z)) Z (Qa (Qb Tu Z) Z (Yj (cs':=[.int .i64 x.dest,.int .i64 0,.bool false]) Yo Z Z Z h3 (Nat.le_of_ble_eq_true Z) Z (fun w4 m1 h3'=>?_)))))))
 replace h3:=h3'
 replace E:=E.step m1 (fun g hg=>by cases hg;omega);replace h1:=h1.mod m1 (fun g hg=>by cases hg;omega);replace h2:=h2.mod m1 (fun g hg=>by cases hg;omega)
 have z4:=m1.size
 refine Qd (Qf (Qh [true,true,true,false] Z Z (Qa (Qb fl113_1 Z) Z (Qa (Qj Yo Z (h1.one 1 Z)) Z (Qa (Qb Tt Z) Z (Yj (cs':=[.int .i64 x.dest,.int .i64 x.epoch,.bool false]) Yo Z Z Z h3 (Nat.le_of_ble_eq_true Z) Z (fun w5 m2 h3'=>?_)))))))
 replace h3:=h3'
 replace E:=E.step m2 (fun g hg=>by cases hg;omega);replace h1:=h1.mod m2 (fun g hg=>by cases hg;omega);replace h2:=h2.mod m2 (fun g hg=>by cases hg;omega)
 have z5:=m2.size
 refine Qd (Qf (Qh [true,true,true,false] Z Z (Qa (Qb fl113_2 Z) Z (Qa (Qj Tb Z (h1.one 2 Z)) Z (Qa (Qb Ar Z) Z (Yj (cs':=[.int .i64 x.dest,.int .i64 x.epoch,.bool x.capped]) Tb Z Z Z h3 (Nat.le_of_ble_eq_true Z) Z (fun w6 m3 h3'=>?_)))))))
 replace h3:=h3'
 replace E:=E.step m3 (fun g hg=>by cases hg;omega);replace h1:=h1.mod m3 (fun g hg=>by cases hg;omega);replace h2:=h2.mod m3 (fun g hg=>by cases hg;omega)
 have z6:=m3.size
 refine Qd (Qf (Qh [true,false] Z Z (Qa (Qt T9 Z h3.at Z) Z (Q6 (cs':=[.int .i64 x.dest,.int .i64 x.epoch,.bool x.capped]) T9 Z Z Z Z h2 (Nat.le_of_ble_eq_true Z) Z (fun w7 m4 h2'=>?_)))))
 replace h2:=h2'
 replace E:=E.step m4 (fun g hg=>by cases hg;omega);replace h1:=h1.mod m4 (fun g hg=>by cases hg;omega);replace h3:=h3.mod m4 (fun g hg=>by cases hg;omega)
 have z7:=m4.size
 refine Qd (Qw (Kk Z Z (Yi T9 h2.at Z) E ?_))
 rfl

set_option maxRecDepth 20000 in
theorem c_eqNews (x : News) (y : News) (w : World)  : Ct Tryz.prog 67 [.agg (Enc.enc x).toArray,.agg (Enc.enc y).toArray] w (fun v _=>v = .bool (decide (x = y))):=by
 refine Yh Tryz.func67 Z Tryz.ntmps67 Z ?_
 refine Q7 [(0,.agg (Enc.enc x).toArray),(1,.agg (Enc.enc y).toArray)] ⟨Z,Z,trivial⟩ ?_
 have E : Ext w w:=Ext.refl w
 refine Qf (Qh [false,false,true] Z Z (Y1 Z Z (fun b1 w1 e1 s1 h1=>?_)))
 have g_b1 : w.heap.size ≤ b1:=by have:=E.size;omega
 have y_b1:=h1.lt
 replace E:=E.trans e1
 have z1:=e1.size
 refine Y1 Z Z (fun b2 w2 e2 s2 h2=>?_)
 have g_b2 : w.heap.size ≤ b2:=by have:=E.size;omega
 have y_b2:=h2.lt
 replace E:=E.trans e2;replace h1:=h1.ext e2
 have z2:=e2.size
 refine Qa (Qe Z) Z (Qd (Qf (Qf (Qh [true,true,true,true,true] Z Z (Qa (Qb Tu Z) Z (Qa (Qj Yo Z (h1.one 0 Z)) Z (Qa (Qb Tu Z) Z (Qa (Qj Yo Z (h2.one 0 Z)) Z (Qa (Yu Z Z) Z (Qd (Qs Z (fun hc1=>?_) (fun hc1=>?_))))))))))))
 ·refine Qf (Qh [true] Z Z (Qa (Qe Z) Z (Qd (Qw (Ql Z Z E ?_)))))
  cases x;cases y;simp_all
 ·refine Qn (Qf (Qf (Qh [true,true,true,true,true] Z Z (Qa (Qb Tt Z) Z (Qa (Qj Yo Z (h1.one 1 Z)) Z (Qa (Qb Tt Z) Z (Qa (Qj Yo Z (h2.one 1 Z)) Z (Qa (Yu Z Z) Z (Qd (Qs Z (fun hc2=>?_) (fun hc2=>?_)))))))))))
  ·refine Qf (Qh [true] Z Z (Qa (Qe Z) Z (Qd (Qw (Ql Z Z E ?_)))))
   cases x;cases y;simp_all
  ·refine Qn (Qf (Qf (Qh [true,true,true,true,true] Z Z (Qa (Qb Ar Z) Z (Qa (Qj Tb Z (h1.one 2 Z)) Z (Qa (Qb Ar Z) Z (Qa (Qj Tb Z (h2.one 2 Z)) Z (Qa (Vf (Tryz.underlying4) Z Z) Z (Qd (Qs Z (fun hc3=>?_) (fun hc3=>?_)))))))))))
   ·refine Qf (Qh [true] Z Z (Qa (Qe Z) Z (Qd (Qw (Ql Z Z E ?_)))))
    cases x;cases y;simp_all
   ·refine Qn (Qf (Qh [true] Z Z (Qa (Qe Z) Z (Qd (Qw (Ql Z Z E ?_))))))
    cases x;cases y;simp_all

set_option maxRecDepth 20000 in
theorem c_szNewsS (vxs : Value) (xs : List News) (n : Int) (w : World) (hxs : RdS w vxs xs) (h0 : 0 ≤ n ∧ n ≤ 1048576) : Ct Tryz.prog 15 [vxs,.int .i64 n] w (fun v _=>v = .int .i64 (Up xs.length n)):=by
 refine Yh Tryz.func15 Z Tryz.ntmps15 Z ?_
 refine Q7 [(0,vxs),(1,.int .i64 n)] ⟨Z,Z,trivial⟩ ?_
 have E : Ext w w:=Ext.refl w
 refine Qf (Qh [true] Z Z (Qa (Qe Z) Z (Qd (Qf (Qh [true,true,true,true,true] Z Z (Qa (Qc Z) Z (Qa (Qc Z) Z (Qa (Ya Tryz.underlying28 Z (hxs.ext E).len) Z (Qa (Uu Z Z Z) Z (Qa (Qe Z) Z (Qd (Qf (Qf (Qh [true,true] Z Z (Qa (Qc Z) Z (Qa (Yf Z Z) Z (Qd (Qs Z (fun hc1=>?_) (fun hc1=>?_)))))))))))))))))))
 ·refine Qf (Qh [true] Z Z (Qa (Qe Z) Z (Qd (Qw (Ql Z Z E ?_)))))
  exact B3 h0.2 h0.1 hxs.1 hc1
 ·refine Qn (Qf (Qh [true,true] Z Z (Qa (Qc Z) Z (Qa (Qe Z) Z (Qd (Qw (Ql Z Z E ?_)))))))
  exact C0 h0.2 h0.1 hxs.1 hc1

set_option maxRecDepth 20000 in
theorem c_toNewsS (vxs : Value) (xs : List News) (w : World) (hxs : RdS w vxs xs) (hb : xs.length ≤ 1048576) : Ct Tryz.prog 22 [vxs] w (fun v w'=>Own w' w.heap.size w'.heap.size 3 v (List.flatMap (Enc.enc (α:=News)) xs)):=by
 refine Yh Tryz.func22 Z Tryz.ntmps22 Z ?_
 refine Q7 [(0,vxs)] ⟨Z,trivial⟩ ?_
 have E : Ext w w:=Ext.refl w
 refine Qf (Qh [true] Z Z (Qa (Qe Z) Z (Qd (Qf (Qh [true,true,false,true] Z Z (Qa (Qc Z) Z (Qa (Ya Tryz.underlying28 Z (hxs.ext E).len) Z (H9 (m:=xs.length) Cs Z Z (by omega) (by decide) Z (fun b1 w1 e1 s1 h1=>?_)))))))))
 have g_b1 : w.heap.size ≤ b1:=by have:=E.size;omega
 have y_b1:=h1.lt
 replace E:=E.trans e1
 have z1:=e1.size
 refine Qa (Qe Z) Z (Qd (Qf (Qf (Qh [true] Z Z (Qa (Qe Z) Z (Qd (Q0 (Ym (fun (k : Nat)=>[(0,vxs),(2,.slice none 0 0),(3,.slice (some ⟨b1,0,none⟩) xs.length xs.length),(4,.int .i64 ((k : Nat) : Int))]) (fun (k : Nat) w'=>Ext w w' ∧ w1.heap.size ≤ w'.heap.size ∧ k ≤ xs.length ∧ Blk w' b1 (mk xs [.int .i64 0,.int .i64 0,.bool false] k xs.length)) (fun (k : Nat)=>xs.length - k) 0 ⟨Z,Z,Z,Z,trivial⟩ ⟨E,Nat.le_refl _,Nat.zero_le _,(Tl xs [.int .i64 0,.int .i64 0,.bool false] xs.length) ▸ h1⟩ ?_))))))))
 clear E h1
 rintro k w2 ⟨E,z2,hk,h1⟩
 refine Qf (Qf (Qh [true,true,true,true] Z Z (Qa (Qc Z) Z (Qa (Qc Z) Z (Qa (Ya Tryz.underlying28 Z (hxs.ext E).len) Z (Qa (Yf Z Z) Z (Qd (Qs Z (fun hc1=>?_) (fun hc1=>?_)))))))))
 ·have hc1n : k < xs.length:=by first | (have h:=of_decide_eq_true hc1;omega) | (have h:=hc1;simp at h;omega)
  refine Qn (Qf (Q0 (Qh [true,true,true,true,true,true,false,true,false] Z Z (Qa (Qc Z) Z (Qa (Qc Z) Z (Qa (Qc Z) Z (Qa (Qc Z) Z ?_)))))))
  have hi1 : k < xs.length:=(by first | assumption | omega | (simp only [List.length_set];first | assumption | omega))
  refine Qa (Q1 (i:=k) sl28 Z Z (hxs.ext E) hi1) Z (Qa (Qt st113 Z ((hxs.ext E).get hi1) Z) Z (Qv Tryz.call53 Z (c_toNews (xs[k]'hi1) _ ) Z (fun _ w3 e2 hv=>?_)))
  subst hv
  replace E:=E.trans e2;replace h1:=h1.ext e2
  have z3:=e2.size
  refine Qa (Vo Cs Z Z (by first | assumption | omega | (simp only [List.length_set];first | assumption | omega))) Z (Q6 (cs':=mk xs [.int .i64 0,.int .i64 0,.bool false] (k + 1) xs.length) T9 Z Z Z Z h1 (Tn xs [.int .i64 0,.int .i64 0,.bool false] Z hc1n hc1n (by rfl)) (Tm xs [.int .i64 0,.int .i64 0,.bool false] Z hc1n hc1n) (fun w4 m1 h1'=>?_))
  replace h1:=h1'
  replace E:=E.step m1 (fun g hg=>by cases hg;omega)
  have z4:=m1.size
  refine Qd (Q4 (Yr (Qh [true,true,true] Z Z (Qa (Qc Z) Z (Qa (Q8 Z Z (Yt hc1n hxs.1)) Z (Qa (Qe Z) Z (Qd (Q4 (Yc (k + 1) (by omega) ⟨Z,Z,Z,Z,trivial⟩ ⟨E,(by omega),(by omega),h1⟩)))))))))
 ·have hc1n : ¬ k < xs.length:=by first | (have h:=of_decide_eq_false hc1;omega) | (have h:=hc1;simp at h;omega)
  refine Yn (Q5 (Q3 ?_))
  refine Qf (Qh [true,true] Z Z (Qa (Qc Z) Z (Qa (Qe Z) Z (Qd (Qw (Ql Z Z E ?_))))))
  obtain rfl : k = xs.length:=by omega
  rw [C7] at h1
  exact Own.ofBlk h1 (by omega) (by have:=h1.lt;omega) (Yb xs) hxs.1

set_option maxRecDepth 20000 in
theorem c_eqNewsS (vxs : Value) (xs : List News) (vys : Value) (ys : List News) (w : World) (hxs : RdS w vxs xs) (hys : RdS w vys ys) : Ct Tryz.prog 30 [vxs,vys] w (fun v _=>v = .bool (decide (xs = ys))):=by
 refine Yh Tryz.func30 Z Tryz.ntmps30 Z ?_
 refine Q7 [(0,vxs),(1,vys)] ⟨Z,Z,trivial⟩ ?_
 have E : Ext w w:=Ext.refl w
 refine Qf (Qh [true] Z Z (Qa (Qe Z) Z (Qd (Qf (Qf (Qh [true,true,true,true,true] Z Z (Qa (Qc Z) Z (Qa (Ya Tryz.underlying38 Z (hxs.ext E).len) Z (Qa (Qc Z) Z (Qa (Ya Tryz.underlying38 Z (hys.ext E).len) Z (Qa (Yu Z Z) Z (Qd (Qs Z (fun hc1=>?_) (fun hc1=>?_))))))))))))))
 ·have hc1n : ¬ xs.length = ys.length:=by first | (have h:=of_decide_eq_true hc1;omega) | (have h:=hc1;simp at h;omega)
  refine Qf (Qh [true] Z Z (Qa (Qe Z) Z (Qd (Qw (Ql Z Z E ?_)))))
  simp [H6 hc1n]
 ·have hc1n : xs.length = ys.length:=by first | (have h:=of_decide_eq_false hc1;omega) | (have h:=hc1;simp at h;omega)
  refine Qn (Qf (Qf (Qh [true] Z Z (Qa (Qe Z) Z (Qd (Q0 (Ym (fun (k : Nat)=>[(0,vxs),(1,vys),(4,.bool false),(5,.int .i64 ((k : Nat) : Int))]) (fun (k : Nat) w'=>Ext w w' ∧ w.heap.size ≤ w'.heap.size ∧ k ≤ xs.length ∧ xs.take k = ys.take k) (fun (k : Nat)=>xs.length - k) 0 ⟨Z,Z,Z,Z,trivial⟩ ⟨E,Nat.le_refl _,Nat.zero_le _,Z⟩ ?_)))))))
  clear E
  rintro k w1 ⟨E,z1,hk,hp⟩
  refine Qf (Qf (Qh [true,true,true,true] Z Z (Qa (Qc Z) Z (Qa (Qc Z) Z (Qa (Ya Tryz.underlying38 Z (hxs.ext E).len) Z (Qa (Yf Z Z) Z (Qd (Qs Z (fun hc2=>?_) (fun hc2=>?_)))))))))
  ·have hc2n : k < xs.length:=by first | (have h:=of_decide_eq_true hc2;omega) | (have h:=hc2;simp at h;omega)
   refine Qn (Qf (Q0 (Qf (Xj Xi [(0,true),(1,true),(2,true),(3,true),(4,true),(5,true),(6,true),(7,true),(8,false),(9,true)] (by decide +kernel) Z (fun w2 e1=>?_)))))
   replace E:=E.trans e1
   have z2:=e1.size
   refine Qa (Qc Z) Z (Qa (Qc Z) Z ?_)
   have hi1 : k < xs.length:=(by first | assumption | omega | (simp only [List.length_set];first | assumption | omega))
   refine Qa (Q1 (i:=k) Cs Z Z (hxs.ext E) hi1) Z (Qa (Qt T9 Z ((hxs.ext E).get hi1) Z) Z (Qa (Qc Z) Z (Qa (Qc Z) Z ?_)))
   have hi2 : k < ys.length:=(by first | assumption | omega | (simp only [List.length_set];first | assumption | omega))
   refine Qa (Q1 (i:=k) Cs Z Z (hys.ext E) hi2) Z (Qa (Qt T9 Z ((hys.ext E).get hi2) Z) Z (Qv Tryz.call67 Z (c_eqNews (xs[k]'hi1) (ys[k]'hi2) _ ) Z (fun _ w3 e2 hv=>?_)))
   subst hv
   replace E:=E.trans e2
   have z3:=e2.size
   refine Qa (Yq Z) Z (Qd (Qs Z (fun hc3=>?_) (fun hc3=>?_)))
   ·refine Qf (Qh [true] Z Z (Qa (Qe Z) Z (Qd (Qw (Q2 (Y0 (Q2 (Ql Z Z E ?_))))))))
    exact H7 (by omega) (by omega) (by simpa using hc3)
   ·refine Qn (Q4 (Yr (Qh [true,true,true] Z Z (Qa (Qc Z) Z (Qa (Q8 Z Z (Yt hc2n hxs.1)) Z (Qa (Qe Z) Z (Qd (Q4 (Yc (k + 1) (by omega) ⟨Z,Z,Z,Z,trivial⟩ ⟨E,(by omega),(by omega),Vn hp (by assumption) (by omega) (by simpa using hc3)⟩)))))))))
  ·have hc2n : ¬ k < xs.length:=by first | (have h:=of_decide_eq_false hc2;omega) | (have h:=hc2;simp at h;omega)
   refine Yn (Q5 (Q3 ?_))
   refine Qf (Qh [true] Z Z (Qa (Qe Z) Z (Qd (Qw (Ql Z Z E ?_)))))
   exact Gr hp hc1n (by omega)

set_option maxRecDepth 20000 in
theorem c_szLink (cx : List Value) (x : Link) (n : Int) (w : World) (hx : Dat.R w 0 w.heap.size cx x) (h0 : 0 ≤ n ∧ n ≤ 1048576) : Ct Tryz.prog 43 [.agg cx.toArray,.int .i64 n] w (fun v _=>v = .int .i64 (Up (Xl x) n)):=by
 refine Yh Tryz.func43 Z Tryz.ntmps43 Z ?_
 obtain ⟨o1,rfl,hd1⟩:=Link.op hx
 refine Q7 [(0,.agg [.int .i64 x.cap,o1,.int .i64 x.credits,.int .i64 x.back,.int .i64 x.sent,.int .i64 x.got].toArray),(1,.int .i64 n)] ⟨Z,Z,trivial⟩ ?_
 have E : Ext w w:=Ext.refl w
 refine Qf (Qh [false,true] Z Z (Y1 Z Z (fun b1 w1 e1 s1 h1=>?_)))
 have g_b1 : w.heap.size ≤ b1:=by have:=E.size;omega
 have y_b1:=h1.lt
 replace E:=E.trans e1
 have z1:=e1.size
 refine Qa (Qe Z) Z (Qd (Qf (Qh [true,true,true,false,true] Z Z (Qa (Qb fl92_1 Z) Z (Qa (Qj sc85 Z (h1.one 1 Z)) Z (Qa (Qc Z) Z (Qv Tryz.call81 Z (c_szRecordS o1 x.queue n _ (hd1.rd.ext E) (by first | omega | (simp only [Qi];omega) | (rw [Qi];done) | (simp only [Qi];done))) Z (fun _ w2 e2 hv=>?_))))))))
 subst hv
 replace E:=E.trans e2;replace h1:=h1.ext e2
 have z2:=e2.size
 refine Qa (Qe Z) Z (Qd (Qf (Qf (Qh [true,true] Z Z (Qa (Qc Z) Z (Qa (Yf Z Z) Z (Qd (Qs Z (fun hc1=>?_) (fun hc1=>?_)))))))))
 ·have q1:=Uo hc1 (by omega)
  refine Qf (Qh [true] Z Z (Qa (Qe Z) Z (Qd (Qw (Ql Z Z E ?_)))))
  first | exact Kg (by unfold Xl;omega) | exact Kz (by unfold Xl;omega) (by unfold Xl;omega)
 ·have q2:=Un hc1 (by omega)
  refine Qn (Qf (Qh [true,true] Z Z (Qa (Qc Z) Z (Qa (Qe Z) Z (Qd (Qw (Ql Z Z E ?_)))))))
  first | exact Kg (by unfold Xl;omega) | exact Kz (by unfold Xl;omega) (by unfold Xl;omega)

set_option maxRecDepth 20000 in
theorem c_toLink (cx : List Value) (x : Link) (w : World) (hx : Dat.R w 0 w.heap.size cx x) (hb : Xl x ≤ 1048576) : Ct Tryz.prog 51 [.agg cx.toArray] w (fun v w'=>∃ cs,v = .agg cs.toArray ∧ Own1.O w' w.heap.size w'.heap.size cs x):=by
 unfold Xl at hb
 refine Yh Tryz.func51 Z Tryz.ntmps51 Z ?_
 obtain ⟨o1,rfl,hd1⟩:=Link.op hx
 refine Q7 [(0,.agg [.int .i64 x.cap,o1,.int .i64 x.credits,.int .i64 x.back,.int .i64 x.sent,.int .i64 x.got].toArray)] ⟨Z,trivial⟩ ?_
 have E : Ext w w:=Ext.refl w
 refine Qf (Qh [false,false] Z Z (Y1 Z Z (fun b1 w1 e1 s1 h1=>?_)))
 have g_b1 : w.heap.size ≤ b1:=by have:=E.size;omega
 have y_b1:=h1.lt
 replace E:=E.trans e1
 have z1:=e1.size
 refine Yk Ua Z (fun b2 w2 e2 s2 h2=>?_)
 have g_b2 : w.heap.size ≤ b2:=by have:=E.size;omega
 have y_b2:=h2.lt
 replace E:=E.trans e2;replace h1:=h1.ext e2
 have z2:=e2.size
 refine Qd (Qf (Qh [false] Z Z (Yk Ua Z (fun b3 w3 e3 s3 h3=>?_))))
 have g_b3 : w.heap.size ≤ b3:=by have:=E.size;omega
 have y_b3:=h3.lt
 replace E:=E.trans e3;replace h1:=h1.ext e3;replace h2:=h2.ext e3
 have z3:=e3.size
 refine Qd (Qf (Qh [true,true,true,false] Z Z (Qa (Qb fl92_0 Z) Z (Qa (Qj Yo Z (h1.one 0 Z)) Z (Qa (Qb Uz Z) Z (Yj (cs':=[.int .i64 x.cap,.slice none 0 0,.int .i64 0,.int .i64 0,.int .i64 0,.int .i64 0]) Yo Z Z Z h3 (Nat.le_of_ble_eq_true Z) Z (fun w4 m1 h3'=>?_)))))))
 replace h3:=h3'
 replace E:=E.step m1 (fun g hg=>by cases hg;omega);replace h1:=h1.mod m1 (fun g hg=>by cases hg;omega);replace h2:=h2.mod m1 (fun g hg=>by cases hg;omega)
 have z4:=m1.size
 refine Qd (Qf (Qh [true,true,false,true,false] Z Z (Qa (Qb fl92_1 Z) Z (Qa (Qj sc85 Z (h1.one 1 Z)) Z (Qv Tryz.call101 Z (c_toRecordS o1 x.queue _ (hd1.rd.ext E) (by first | omega | (simp only [Qi];omega) | (rw [Qi];done) | (simp only [Qi];done))) Z (fun v1 w5 e4 ho1=>?_))))))
 have g_ho1 : w.heap.size ≤ w4.heap.size:=E.size
 replace E:=E.trans e4;replace h1:=h1.ext e4;replace h2:=h2.ext e4;replace h3:=h3.ext e4
 have z5:=e4.size
 refine Qa (Qb Kt Z) Z (Yj (cs':=[.int .i64 x.cap,v1,.int .i64 0,.int .i64 0,.int .i64 0,.int .i64 0]) Xy Z Z ho1.one h3 (Nat.le_of_ble_eq_true Z) Z (fun w6 m2 h3'=>?_))
 replace h3:=h3'
 replace E:=E.step m2 (fun g hg=>by cases hg;omega);replace h1:=h1.mod m2 (fun g hg=>by cases hg;omega);replace h2:=h2.mod m2 (fun g hg=>by cases hg;omega);replace ho1:=ho1.mod m2 (fun g hg=>by cases hg;omega)
 have z6:=m2.size
 refine Qd (Qf (Qh [true,true,true,false] Z Z (Qa (Qb fl92_2 Z) Z (Qa (Qj Yo Z (h1.one 2 Z)) Z (Qa (Qb Hd Z) Z (Yj (cs':=[.int .i64 x.cap,v1,.int .i64 x.credits,.int .i64 0,.int .i64 0,.int .i64 0]) Yo Z Z Z h3 (Nat.le_of_ble_eq_true Z) Z (fun w7 m3 h3'=>?_)))))))
 replace h3:=h3'
 replace E:=E.step m3 (fun g hg=>by cases hg;omega);replace h1:=h1.mod m3 (fun g hg=>by cases hg;omega);replace h2:=h2.mod m3 (fun g hg=>by cases hg;omega);replace ho1:=ho1.mod m3 (fun g hg=>by cases hg;omega)
 have z7:=m3.size
 refine Qd (Qf (Qh [true,true,true,false] Z Z (Qa (Qb fl92_3 Z) Z (Qa (Qj Yo Z (h1.one 3 Z)) Z (Qa (Qb Hc Z) Z (Yj (cs':=[.int .i64 x.cap,v1,.int .i64 x.credits,.int .i64 x.back,.int .i64 0,.int .i64 0]) Yo Z Z Z h3 (Nat.le_of_ble_eq_true Z) Z (fun w8 m4 h3'=>?_)))))))
 replace h3:=h3'
 replace E:=E.step m4 (fun g hg=>by cases hg;omega);replace h1:=h1.mod m4 (fun g hg=>by cases hg;omega);replace h2:=h2.mod m4 (fun g hg=>by cases hg;omega);replace ho1:=ho1.mod m4 (fun g hg=>by cases hg;omega)
 have z8:=m4.size
 refine Qd (Qf (Qh [true,true,true,false] Z Z (Qa (Qb fl92_4 Z) Z (Qa (Qj Yo Z (h1.one 4 Z)) Z (Qa (Qb Hb Z) Z (Yj (cs':=[.int .i64 x.cap,v1,.int .i64 x.credits,.int .i64 x.back,.int .i64 x.sent,.int .i64 0]) Yo Z Z Z h3 (Nat.le_of_ble_eq_true Z) Z (fun w9 m5 h3'=>?_)))))))
 replace h3:=h3'
 replace E:=E.step m5 (fun g hg=>by cases hg;omega);replace h1:=h1.mod m5 (fun g hg=>by cases hg;omega);replace h2:=h2.mod m5 (fun g hg=>by cases hg;omega);replace ho1:=ho1.mod m5 (fun g hg=>by cases hg;omega)
 have z9:=m5.size
 refine Qd (Qf (Qh [true,true,true,false] Z Z (Qa (Qb fl92_5 Z) Z (Qa (Qj Yo Z (h1.one 5 Z)) Z (Qa (Qb Ha Z) Z (Yj (cs':=[.int .i64 x.cap,v1,.int .i64 x.credits,.int .i64 x.back,.int .i64 x.sent,.int .i64 x.got]) Yo Z Z Z h3 (Nat.le_of_ble_eq_true Z) Z (fun w10 m6 h3'=>?_)))))))
 replace h3:=h3'
 replace E:=E.step m6 (fun g hg=>by cases hg;omega);replace h1:=h1.mod m6 (fun g hg=>by cases hg;omega);replace h2:=h2.mod m6 (fun g hg=>by cases hg;omega);replace ho1:=ho1.mod m6 (fun g hg=>by cases hg;omega)
 have z10:=m6.size
 refine Qd (Qf (Qh [true,false] Z Z (Qa (Qt Ua Z h3.at Z) Z (Q6 (cs':=[.int .i64 x.cap,v1,.int .i64 x.credits,.int .i64 x.back,.int .i64 x.sent,.int .i64 x.got]) Ua Z Z Z (Qk Z (Qk ho1.one (Qk Z (Qk Z (Qk Z (Qk Z Z)))))) h2 (Nat.le_of_ble_eq_true Z) Z (fun w11 m7 h2'=>?_)))))
 replace h2:=h2'
 replace E:=E.step m7 (fun g hg=>by cases hg;omega);replace h1:=h1.mod m7 (fun g hg=>by cases hg;omega);replace h3:=h3.mod m7 (fun g hg=>by cases hg;omega);replace ho1:=ho1.mod m7 (fun g hg=>by cases hg;omega)
 have z11:=m7.size
 refine Qd (Qw (Kk Z Z (Yi Ua h2.at Z) E ?_))
 exact ⟨_,Z,Link.mkO x ⟨trivial,trivial⟩ (Own.widen ho1 (by omega) (by omega))⟩

set_option maxRecDepth 20000 in
theorem c_eqLink (cx : List Value) (x : Link) (cy : List Value) (y : Link) (w : World) (hx : Dat.R w 0 w.heap.size cx x) (hy : Dat.R w 0 w.heap.size cy y) : Ct Tryz.prog 65 [.agg cx.toArray,.agg cy.toArray] w (fun v _=>v = .bool (decide (x = y))):=by
 refine Yh Tryz.func65 Z Tryz.ntmps65 Z ?_
 obtain ⟨o1,rfl,hd1⟩:=Link.op hx
 obtain ⟨o2,rfl,hd2⟩:=Link.op hy
 refine Q7 [(0,.agg [.int .i64 x.cap,o1,.int .i64 x.credits,.int .i64 x.back,.int .i64 x.sent,.int .i64 x.got].toArray),(1,.agg [.int .i64 y.cap,o2,.int .i64 y.credits,.int .i64 y.back,.int .i64 y.sent,.int .i64 y.got].toArray)] ⟨Z,Z,trivial⟩ ?_
 have E : Ext w w:=Ext.refl w
 refine Qf (Qh [false,false,true] Z Z (Y1 Z Z (fun b1 w1 e1 s1 h1=>?_)))
 have g_b1 : w.heap.size ≤ b1:=by have:=E.size;omega
 have y_b1:=h1.lt
 replace E:=E.trans e1
 have z1:=e1.size
 refine Y1 Z Z (fun b2 w2 e2 s2 h2=>?_)
 have g_b2 : w.heap.size ≤ b2:=by have:=E.size;omega
 have y_b2:=h2.lt
 replace E:=E.trans e2;replace h1:=h1.ext e2
 have z2:=e2.size
 refine Qa (Qe Z) Z (Qd (Qf (Qf (Qh [true,true,true,true,true] Z Z (Qa (Qb Uz Z) Z (Qa (Qj Yo Z (h1.one 0 Z)) Z (Qa (Qb Uz Z) Z (Qa (Qj Yo Z (h2.one 0 Z)) Z (Qa (Yu Z Z) Z (Qd (Qs Z (fun hc1=>?_) (fun hc1=>?_))))))))))))
 ·refine Qf (Qh [true] Z Z (Qa (Qe Z) Z (Qd (Qw (Ql Z Z E ?_)))))
  cases x;cases y;simp_all
 ·refine Qn (Qf (Qf (Qh [true,true,true,true,false,true] Z Z (Qa (Qb Kt Z) Z (Qa (Qj Xy Z (h1.one 1 Z)) Z (Qa (Qb Kt Z) Z (Qa (Qj Xy Z (h2.one 1 Z)) Z (Qv Tryz.call120 Z (c_eqRecordS o1 x.queue o2 y.queue _ (hd1.rd.ext E) (hd2.rd.ext E)) Z (fun _ w3 e3 hv=>?_)))))))))
  subst hv
  replace E:=E.trans e3;replace h1:=h1.ext e3;replace h2:=h2.ext e3
  have z3:=e3.size
  refine Qa (Yq Z) Z (Qd (Qs Z (fun hc2=>?_) (fun hc2=>?_)))
  ·refine Qf (Qh [true] Z Z (Qa (Qe Z) Z (Qd (Qw (Ql Z Z E ?_)))))
   cases x;cases y;simp_all
  ·refine Qn (Qf (Qf (Qh [true,true,true,true,true] Z Z (Qa (Qb Hd Z) Z (Qa (Qj Yo Z (h1.one 2 Z)) Z (Qa (Qb Hd Z) Z (Qa (Qj Yo Z (h2.one 2 Z)) Z (Qa (Yu Z Z) Z (Qd (Qs Z (fun hc3=>?_) (fun hc3=>?_)))))))))))
   ·refine Qf (Qh [true] Z Z (Qa (Qe Z) Z (Qd (Qw (Ql Z Z E ?_)))))
    cases x;cases y;simp_all
   ·refine Qn (Qf (Qf (Qh [true,true,true,true,true] Z Z (Qa (Qb Hc Z) Z (Qa (Qj Yo Z (h1.one 3 Z)) Z (Qa (Qb Hc Z) Z (Qa (Qj Yo Z (h2.one 3 Z)) Z (Qa (Yu Z Z) Z (Qd (Qs Z (fun hc4=>?_) (fun hc4=>?_)))))))))))
    ·refine Qf (Qh [true] Z Z (Qa (Qe Z) Z (Qd (Qw (Ql Z Z E ?_)))))
     cases x;cases y;simp_all
    ·refine Qn (Qf (Qf (Qh [true,true,true,true,true] Z Z (Qa (Qb Hb Z) Z (Qa (Qj Yo Z (h1.one 4 Z)) Z (Qa (Qb Hb Z) Z (Qa (Qj Yo Z (h2.one 4 Z)) Z (Qa (Yu Z Z) Z (Qd (Qs Z (fun hc5=>?_) (fun hc5=>?_)))))))))))
     ·refine Qf (Qh [true] Z Z (Qa (Qe Z) Z (Qd (Qw (Ql Z Z E ?_)))))
      cases x;cases y;simp_all
     ·refine Qn (Qf (Qf (Qh [true,true,true,true,true] Z Z (Qa (Qb Ha Z) Z (Qa (Qj Yo Z (h1.one 5 Z)) Z (Qa (Qb Ha Z) Z (Qa (Qj Yo Z (h2.one 5 Z)) Z (Qa (Yu Z Z) Z (Qd (Qs Z (fun hc6=>?_) (fun hc6=>?_)))))))))))
      ·refine Qf (Qh [true] Z Z (Qa (Qe Z) Z (Qd (Qw (Ql Z Z E ?_)))))
       cases x;cases y;simp_all
      ·refine Qn (Qf (Qh [true] Z Z (Qa (Qe Z) Z (Qd (Qw (Ql Z Z E ?_))))))
       cases x;cases y;simp_all

set_option maxRecDepth 20000 in
theorem c_szLinkS (vxs : Value) (xs : List Link) (n : Int) (w : World) (hxs : RdD w 0 w.heap.size vxs xs) (h0 : 0 ≤ n ∧ n ≤ 1048576) : Ct Tryz.prog 13 [vxs,.int .i64 n] w (fun v _=>v = .int .i64 (Up (X1 Xl xs) n)):=by
 have hlm:=hxs.1.1
 unfold maxLen at hlm
 refine Yh Tryz.func13 Z Tryz.ntmps13 Z ?_
 refine Q7 [(0,vxs),(1,.int .i64 n)] ⟨Z,Z,trivial⟩ ?_
 have E : Ext w w:=Ext.refl w
 refine Qf (Qh [true] Z Z (Qa (Qe Z) Z (Qd (Qf (Qh [true,true,true,true,true] Z Z (Qa (Qc Z) Z (Qa (Qc Z) Z (Qa (Ya Tryz.underlying26 Z (hxs.ext E).len) Z (Qa (Uu Z Z (Ub (by omega) (by omega))) Z (Qa (Qe Z) Z (Qd (Qf (Qf (Qh [true,true] Z Z (Qa (Qc Z) Z (Qa (Yf Z Z) Z (Qd (Qs Z (fun hc1=>?_) (fun hc1=>?_)))))))))))))))))))
 ·refine Qf (Qh [true] Z Z (Qa (Qe Z) Z (Qd (Qw (Ql Z Z E ?_)))))
  exact Kg (by have:=of_decide_eq_true hc1;unfold X1;omega)
 ·refine Qn (Qf (Qf (Qh [true] Z Z (Qa (Qe Z) Z (Qd (Q0 (Ym (fun (xq : Nat × Int)=>let ⟨k,l⟩:=xq;[(0,vxs),(1,.int .i64 l),(4,.int .i64 0),(5,.int .i64 ((k : Nat) : Int))]) (fun (xq : Nat × Int) w'=>let ⟨k,l⟩:=xq;Ext w w' ∧ w.heap.size ≤ w'.heap.size ∧ k ≤ xs.length ∧ 0 ≤ l ∧ l ≤ 1048576 ∧ l = n - ((xs.length : Nat) : Int) - ((((xs.take k).map Xl).sum : Nat) : Int)) (fun (xq : Nat × Int)=>let ⟨k,l⟩:=xq;xs.length - k) (0,n - ((xs.length : Nat) : Int)) ⟨Z,Z,Z,Z,trivial⟩ ⟨E,Nat.le_refl _,Nat.zero_le _,(by have:=of_decide_eq_false hc1;simp;omega)⟩ ?_)))))))
  clear E
  rintro ⟨k,l⟩ w1 ⟨E,z1,hk,hl⟩
  refine Q7 [(0,vxs),(1,.int .i64 l),(4,.int .i64 0),(5,.int .i64 ((k : Nat) : Int))] ⟨Z,Z,Z,Z,trivial⟩ ?_
  refine Qf (Qf (Qh [true,true,true,true] Z Z (Qa (Qc Z) Z (Qa (Qc Z) Z (Qa (Ya Tryz.underlying26 Z (hxs.ext E).len) Z (Qa (Yf Z Z) Z (Qd (Qs Z (fun hc2=>?_) (fun hc2=>?_)))))))))
  ·have hc2n : k < xs.length:=by first | (have h:=of_decide_eq_true hc2;omega) | (have h:=hc2;simp at h;omega)
   refine Qn (Qf (Q0 (Qf (Qh [true,true,true,true,true,false,true] Z Z (Qa (Qc Z) Z (Qa (Qc Z) Z ?_))))))
   have hi1 : k < xs.length:=(by first | assumption | omega | (simp only [List.length_set];first | assumption | omega))
   obtain ⟨_,hr1,ha1⟩:=RdD.get hxs hi1
   obtain ⟨o1,rfl,hd1⟩:=Link.op hr1
   replace ha1 : At w (Xf vxs) (Xm vxs + k * 6) [.int .i64 ((xs[k]'hi1).cap),o1,.int .i64 ((xs[k]'hi1).credits),.int .i64 ((xs[k]'hi1).back),.int .i64 ((xs[k]'hi1).sent),.int .i64 ((xs[k]'hi1).got)]:=ha1
   refine Qa (Q1 (i:=k) sl26 Z Z (hxs.ext E).1 hi1) Z (Qa (Qt st92 Z (ha1.ext E) Z) Z (Qa (Qc Z) Z (Qv Tryz.call43 Z (c_szLink [.int .i64 ((xs[k]'hi1).cap),o1,.int .i64 ((xs[k]'hi1).credits),.int .i64 ((xs[k]'hi1).back),.int .i64 ((xs[k]'hi1).sent),.int .i64 ((xs[k]'hi1).got)] (xs[k]'hi1) l _ (Link.mkR (xs[k]'hi1) (RdD.any (hd1.ext E))) (by first | omega | (simp only [Qi];omega) | (rw [Qi];done) | (simp only [Qi];done))) Z (fun _ w2 e1 hv=>?_))))
   subst hv
   replace E:=E.trans e1
   have z2:=e1.size
   refine Qa (Qe Z) Z (Qd (Qf (Qh [true,true] Z Z (Qa (Qc Z) Z (Qa (Yf Z Z) Z (Qd (Qs Z (fun hc3=>?_) (fun hc3=>?_))))))))
   ·have q1:=Uo hc3 (by omega)
    refine Qf (Qh [true] Z Z (Qa (Qe Z) Z (Qd (Qw (Q2 (Y0 (Q2 (Ql Z Z E ?_))))))))
    exact Kg (by have:=Gf (f:=Xl) (show k < xs.length by omega);unfold X1;omega)
   ·have q2:=Un hc3 (by omega)
    refine Qn (Q4 (Yr (Qh [true,true,true] Z Z (Qa (Qc Z) Z (Qa (Q8 Z Z (Yt hc2n (hxs.ext E).1.1)) Z (Qa (Qe Z) Z (Qd (Q4 (Yc (k + 1,Up (Xl (xs[k]'hi1)) l) (by simp;omega) ⟨Z,Z,Z,Z,trivial⟩ ⟨E,(by omega),(by omega),(by have:=B4 (f:=Xl) (show k < xs.length by omega);omega)⟩)))))))))
  ·have hc2n : ¬ k < xs.length:=by first | (have h:=of_decide_eq_false hc2;omega) | (have h:=hc2;simp at h;omega)
   refine Yn (Q5 (Q3 ?_))
   refine Qf (Qh [true,true] Z Z (Qa (Qc Z) Z (Qa (Qe Z) Z (Qd (Qw (Ql Z Z E ?_))))))
   have:=sum_all (f:=Xl) (show xs.length ≤ k by omega);exact Kz (by unfold X1;omega) (by unfold X1;omega)

set_option maxRecDepth 20000 in
theorem c_toLinkS (vxs : Value) (xs : List Link) (w : World) (hxs : RdD w 0 w.heap.size vxs xs) (hb : X1 Xl xs ≤ 1048576) : Ct Tryz.prog 20 [vxs] w (fun v w'=>OwS (α:=Link) w' w.heap.size w'.heap.size v xs):=by
 unfold X1 at hb
 refine Yh Tryz.func20 Z Tryz.ntmps20 Z ?_
 refine Q7 [(0,vxs)] ⟨Z,trivial⟩ ?_
 have E : Ext w w:=Ext.refl w
 refine Qf (Qh [true] Z Z (Qa (Qe Z) Z (Qd (Qf (Qh [true,true,false,true] Z Z (Qa (Qc Z) Z (Qa (Ya Tryz.underlying26 Z (hxs.ext E).len) Z (H9 (m:=xs.length) Gg Z Z (by omega) (by decide) Z (fun b1 w1 e1 s1 h1=>?_)))))))))
 have g_b1 : w.heap.size ≤ b1:=by have:=E.size;omega
 have y_b1:=h1.lt
 replace E:=E.trans e1
 have z1:=e1.size
 refine Qa (Qe Z) Z (Qd (Qf (Qf (Qh [true] Z Z (Qa (Qe Z) Z (Qd (Q0 (Ym (fun (xq : Nat × List (List Value))=>let ⟨k,css⟩:=xq;[(0,vxs),(2,.slice none 0 0),(3,.slice (some ⟨b1,0,none⟩) xs.length xs.length),(4,.int .i64 ((k : Nat) : Int))]) (fun (xq : Nat × List (List Value)) w'=>let ⟨k,css⟩:=xq;Ext w w' ∧ w1.heap.size ≤ w'.heap.size ∧ k ≤ xs.length ∧ css.length = k ∧ Blk w' b1 (D2 css [.int .i64 0,.slice none 0 0,.int .i64 0,.int .i64 0,.int .i64 0,.int .i64 0] (xs.length - k)) ∧ AllO w' w1.heap.size w'.heap.size css (xs.take k)) (fun (xq : Nat × List (List Value))=>let ⟨k,css⟩:=xq;xs.length - k) (0,[]) ⟨Z,Z,Z,Z,trivial⟩ ⟨E,Nat.le_refl _,Nat.zero_le _,Z,(by simpa [D2] using h1),(by simp [AllO,All2])⟩ ?_))))))))
 clear E h1
 rintro ⟨k,css⟩ w2 ⟨E,z2,hk,hlk,h1,hA⟩
 refine Q7 [(0,vxs),(2,.slice none 0 0),(3,.slice (some ⟨b1,0,none⟩) xs.length xs.length),(4,.int .i64 ((k : Nat) : Int))] ⟨Z,Z,Z,Z,trivial⟩ ?_
 refine Qf (Qf (Qh [true,true,true,true] Z Z (Qa (Qc Z) Z (Qa (Qc Z) Z (Qa (Ya Tryz.underlying26 Z (hxs.ext E).len) Z (Qa (Yf Z Z) Z (Qd (Qs Z (fun hc1=>?_) (fun hc1=>?_)))))))))
 ·have hc1n : k < xs.length:=by first | (have h:=of_decide_eq_true hc1;omega) | (have h:=hc1;simp at h;omega)
  refine Qn (Qf (Q0 (Qh [true,true,true,true,true,true,false,true,false] Z Z (Qa (Qc Z) Z (Qa (Qc Z) Z (Qa (Qc Z) Z (Qa (Qc Z) Z ?_)))))))
  have hi1 : k < xs.length:=(by first | assumption | omega | (simp only [List.length_set];first | assumption | omega))
  obtain ⟨_,hr1,ha1⟩:=RdD.get hxs hi1
  obtain ⟨o1,rfl,hd1⟩:=Link.op hr1
  replace ha1 : At w (Xf vxs) (Xm vxs + k * 6) [.int .i64 ((xs[k]'hi1).cap),o1,.int .i64 ((xs[k]'hi1).credits),.int .i64 ((xs[k]'hi1).back),.int .i64 ((xs[k]'hi1).sent),.int .i64 ((xs[k]'hi1).got)]:=ha1
  refine Qa (Q1 (i:=k) sl26 Z Z (hxs.ext E).1 hi1) Z (Qa (Qt st92 Z (ha1.ext E) Z) Z (Qv Tryz.call51 Z (c_toLink [.int .i64 ((xs[k]'hi1).cap),o1,.int .i64 ((xs[k]'hi1).credits),.int .i64 ((xs[k]'hi1).back),.int .i64 ((xs[k]'hi1).sent),.int .i64 ((xs[k]'hi1).got)] (xs[k]'hi1) _ (Link.mkR (xs[k]'hi1) (RdD.any (hd1.ext E))) (by have:=Gf (f:=Xl) (show k < xs.length by omega);omega)) Z (fun _ w3 e2 ho1=>?_)))
  obtain ⟨_,rfl,ho1⟩:=ho1
  have g_ho1 : w.heap.size ≤ w2.heap.size:=E.size
  replace E:=E.trans e2;replace h1:=h1.ext e2;replace hA:=hA.ext e2
  have z3:=e2.size
  obtain ⟨o2,rfl,sp1,hw1⟩:=Link.opO ho1
  refine Qa (Vo Gg Z Z (by first | assumption | omega | (simp only [List.length_set];first | assumption | omega))) Z (Q6 (cs':=D2 (css ++ [[.int .i64 ((xs[k]'hi1).cap),o2,.int .i64 ((xs[k]'hi1).credits),.int .i64 ((xs[k]'hi1).back),.int .i64 ((xs[k]'hi1).sent),.int .i64 ((xs[k]'hi1).got)]]) [.int .i64 0,.slice none 0 0,.int .i64 0,.int .i64 0,.int .i64 0,.int .i64 0] (xs.length - (k + 1))) Ua Z Z Z (Qk Z (Qk hw1.one (Qk Z (Qk Z (Qk Z (Qk Z Z)))))) h1 (Am hA.d hlk Z hc1n (by rfl)) (Dg hA.d hlk Z hc1n Z) (fun w4 m1 h1'=>?_))
  replace h1:=h1'
  replace E:=E.step m1 (fun g hg=>by cases hg;omega);replace hA:=hA.mod m1 (fun g hg=>by cases hg;omega);replace hw1:=hw1.mod m1 (fun g hg=>by cases hg;omega)
  have z4:=m1.size
  refine Qd (Q4 (Yr (Qh [true,true,true] Z Z (Qa (Qc Z) Z (Qa (Q8 Z Z (Yt hc1n (hxs.ext E).1.1)) Z (Qa (Qe Z) Z (Qd (Q4 (Yc (k + 1,css ++ [[.int .i64 ((xs[k]'hi1).cap),o2,.int .i64 ((xs[k]'hi1).credits),.int .i64 ((xs[k]'hi1).back),.int .i64 ((xs[k]'hi1).sent),.int .i64 ((xs[k]'hi1).got)]]) (by simp;omega) ⟨Z,Z,Z,Z,trivial⟩ ⟨E,(by omega),(by omega),(by simp [hlk]),h1,(AllO.widen (AllO.step hA hc1n (Link.mkO (xs[k]'hi1) sp1 (Own.widen hw1 (by omega) (by omega))) (Nat.le_refl _) (Nat.le_refl _) (by omega) (by omega)) (Nat.le_refl _) (by omega))⟩)))))))))
 ·have hc1n : ¬ k < xs.length:=by first | (have h:=of_decide_eq_false hc1;omega) | (have h:=hc1;simp at h;omega)
  refine Yn (Q5 (Q3 ?_))
  refine Qf (Qh [true,true] Z Z (Qa (Qc Z) Z (Qa (Qe Z) Z (Qd (Qw (Ql Z Z E ?_))))))
  obtain rfl : k = xs.length:=by omega
  rw [Nat.sub_self,mkc_all] at h1
  rw [List.take_length] at hA
  exact OwS.ofBlk h1 hA (by have:=E.size;omega) (by omega) (by have:=E.size;omega) (by omega) (by omega) Z (by unfold maxLen;omega)

set_option maxRecDepth 20000 in
theorem c_eqLinkS (vxs : Value) (xs : List Link) (vys : Value) (ys : List Link) (w : World) (hxs : RdD w 0 w.heap.size vxs xs) (hys : RdD w 0 w.heap.size vys ys) : Ct Tryz.prog 28 [vxs,vys] w (fun v _=>v = .bool (decide (xs = ys))):=by
 refine Yh Tryz.func28 Z Tryz.ntmps28 Z ?_
 refine Q7 [(0,vxs),(1,vys)] ⟨Z,Z,trivial⟩ ?_
 have E : Ext w w:=Ext.refl w
 refine Qf (Qh [true] Z Z (Qa (Qe Z) Z (Qd (Qf (Qf (Qh [true,true,true,true,true] Z Z (Qa (Qc Z) Z (Qa (Ya Tryz.underlying36 Z (hxs.ext E).len) Z (Qa (Qc Z) Z (Qa (Ya Tryz.underlying36 Z (hys.ext E).len) Z (Qa (Yu Z Z) Z (Qd (Qs Z (fun hc1=>?_) (fun hc1=>?_))))))))))))))
 ·have hc1n : ¬ xs.length = ys.length:=by first | (have h:=of_decide_eq_true hc1;omega) | (have h:=hc1;simp at h;omega)
  refine Qf (Qh [true] Z Z (Qa (Qe Z) Z (Qd (Qw (Ql Z Z E ?_)))))
  simp [H6 hc1n]
 ·have hc1n : xs.length = ys.length:=by first | (have h:=of_decide_eq_false hc1;omega) | (have h:=hc1;simp at h;omega)
  refine Qn (Qf (Qf (Qh [true] Z Z (Qa (Qe Z) Z (Qd (Q0 (Ym (fun (k : Nat)=>[(0,vxs),(1,vys),(4,.bool false),(5,.int .i64 ((k : Nat) : Int))]) (fun (k : Nat) w'=>Ext w w' ∧ w.heap.size ≤ w'.heap.size ∧ k ≤ xs.length ∧ xs.take k = ys.take k) (fun (k : Nat)=>xs.length - k) 0 ⟨Z,Z,Z,Z,trivial⟩ ⟨E,Nat.le_refl _,Nat.zero_le _,Z⟩ ?_)))))))
  clear E
  rintro k w1 ⟨E,z1,hk,hp⟩
  refine Qf (Qf (Qh [true,true,true,true] Z Z (Qa (Qc Z) Z (Qa (Qc Z) Z (Qa (Ya Tryz.underlying36 Z (hxs.ext E).len) Z (Qa (Yf Z Z) Z (Qd (Qs Z (fun hc2=>?_) (fun hc2=>?_)))))))))
  ·have hc2n : k < xs.length:=by first | (have h:=of_decide_eq_true hc2;omega) | (have h:=hc2;simp at h;omega)
   refine Qn (Qf (Q0 (Qf (Xj Xi [(0,true),(1,true),(2,true),(3,true),(4,true),(5,true),(6,true),(7,true),(8,false),(9,true)] (by decide +kernel) Z (fun w2 e1=>?_)))))
   replace E:=E.trans e1
   have z2:=e1.size
   refine Qa (Qc Z) Z (Qa (Qc Z) Z ?_)
   have hi1 : k < xs.length:=(by first | assumption | omega | (simp only [List.length_set];first | assumption | omega))
   obtain ⟨_,hr1,ha1⟩:=RdD.get hxs hi1
   obtain ⟨o1,rfl,hd1⟩:=Link.op hr1
   replace ha1 : At w (Xf vxs) (Xm vxs + k * 6) [.int .i64 ((xs[k]'hi1).cap),o1,.int .i64 ((xs[k]'hi1).credits),.int .i64 ((xs[k]'hi1).back),.int .i64 ((xs[k]'hi1).sent),.int .i64 ((xs[k]'hi1).got)]:=ha1
   refine Qa (Q1 (i:=k) Gg Z Z (hxs.ext E).1 hi1) Z (Qa (Qt Ua Z (ha1.ext E) Z) Z (Qa (Qc Z) Z (Qa (Qc Z) Z ?_)))
   have hi2 : k < ys.length:=(by first | assumption | omega | (simp only [List.length_set];first | assumption | omega))
   obtain ⟨_,hr2,ha2⟩:=RdD.get hys hi2
   obtain ⟨o2,rfl,hd2⟩:=Link.op hr2
   replace ha2 : At w (Xf vys) (Xm vys + k * 6) [.int .i64 ((ys[k]'hi2).cap),o2,.int .i64 ((ys[k]'hi2).credits),.int .i64 ((ys[k]'hi2).back),.int .i64 ((ys[k]'hi2).sent),.int .i64 ((ys[k]'hi2).got)]:=ha2
   refine Qa (Q1 (i:=k) Gg Z Z (hys.ext E).1 hi2) Z (Qa (Qt Ua Z (ha2.ext E) Z) Z (Qv Tryz.call65 Z (c_eqLink [.int .i64 ((xs[k]'hi1).cap),o1,.int .i64 ((xs[k]'hi1).credits),.int .i64 ((xs[k]'hi1).back),.int .i64 ((xs[k]'hi1).sent),.int .i64 ((xs[k]'hi1).got)] (xs[k]'hi1) [.int .i64 ((ys[k]'hi2).cap),o2,.int .i64 ((ys[k]'hi2).credits),.int .i64 ((ys[k]'hi2).back),.int .i64 ((ys[k]'hi2).sent),.int .i64 ((ys[k]'hi2).got)] (ys[k]'hi2) _ (Link.mkR (xs[k]'hi1) (RdD.any (hd1.ext E))) (Link.mkR (ys[k]'hi2) (RdD.any (hd2.ext E)))) Z (fun _ w3 e2 hv=>?_)))
   subst hv
   replace E:=E.trans e2
   have z3:=e2.size
   refine Qa (Yq Z) Z (Qd (Qs Z (fun hc3=>?_) (fun hc3=>?_)))
   ·refine Qf (Qh [true] Z Z (Qa (Qe Z) Z (Qd (Qw (Q2 (Y0 (Q2 (Ql Z Z E ?_))))))))
    exact H7 (by omega) (by omega) (by simpa using hc3)
   ·refine Qn (Q4 (Yr (Qh [true,true,true] Z Z (Qa (Qc Z) Z (Qa (Q8 Z Z (Yt hc2n (hxs.ext E).1.1)) Z (Qa (Qe Z) Z (Qd (Q4 (Yc (k + 1) (by omega) ⟨Z,Z,Z,Z,trivial⟩ ⟨E,(by omega),(by omega),Vn hp (by assumption) (by omega) (by simpa using hc3)⟩)))))))))
  ·have hc2n : ¬ k < xs.length:=by first | (have h:=of_decide_eq_false hc2;omega) | (have h:=hc2;simp at h;omega)
   refine Yn (Q5 (Q3 ?_))
   refine Qf (Qh [true] Z Z (Qa (Qe Z) Z (Qd (Qw (Ql Z Z E ?_)))))
   exact Gr hp hc1n (by omega)

set_option maxRecDepth 20000 in
theorem c_szWorkerS (vxs : Value) (xs : List Worker) (n : Int) (w : World) (hxs : RdD w 0 w.heap.size vxs xs) (h0 : 0 ≤ n ∧ n ≤ 1048576) : Ct Tryz.prog 12 [vxs,.int .i64 n] w (fun v _=>v = .int .i64 (Up (X1 Yd xs) n)):=by
 have hlm:=hxs.1.1
 unfold maxLen at hlm
 refine Yh Tryz.func12 Z Tryz.ntmps12 Z ?_
 refine Q7 [(0,vxs),(1,.int .i64 n)] ⟨Z,Z,trivial⟩ ?_
 have E : Ext w w:=Ext.refl w
 refine Qf (Qh [true] Z Z (Qa (Qe Z) Z (Qd (Qf (Qh [true,true,true,true,true] Z Z (Qa (Qc Z) Z (Qa (Qc Z) Z (Qa (Ya Tryz.underlying25 Z (hxs.ext E).len) Z (Qa (Uu Z Z (Ub (by omega) (by omega))) Z (Qa (Qe Z) Z (Qd (Qf (Qf (Qh [true,true] Z Z (Qa (Qc Z) Z (Qa (Yf Z Z) Z (Qd (Qs Z (fun hc1=>?_) (fun hc1=>?_)))))))))))))))))))
 ·refine Qf (Qh [true] Z Z (Qa (Qe Z) Z (Qd (Qw (Ql Z Z E ?_)))))
  exact Kg (by have:=of_decide_eq_true hc1;unfold X1;omega)
 ·refine Qn (Qf (Qf (Qh [true] Z Z (Qa (Qe Z) Z (Qd (Q0 (Ym (fun (xq : Nat × Int)=>let ⟨k,l⟩:=xq;[(0,vxs),(1,.int .i64 l),(4,.int .i64 0),(5,.int .i64 ((k : Nat) : Int))]) (fun (xq : Nat × Int) w'=>let ⟨k,l⟩:=xq;Ext w w' ∧ w.heap.size ≤ w'.heap.size ∧ k ≤ xs.length ∧ 0 ≤ l ∧ l ≤ 1048576 ∧ l = n - ((xs.length : Nat) : Int) - ((((xs.take k).map Yd).sum : Nat) : Int)) (fun (xq : Nat × Int)=>let ⟨k,l⟩:=xq;xs.length - k) (0,n - ((xs.length : Nat) : Int)) ⟨Z,Z,Z,Z,trivial⟩ ⟨E,Nat.le_refl _,Nat.zero_le _,(by have:=of_decide_eq_false hc1;simp;omega)⟩ ?_)))))))
  clear E
  rintro ⟨k,l⟩ w1 ⟨E,z1,hk,hl⟩
  refine Q7 [(0,vxs),(1,.int .i64 l),(4,.int .i64 0),(5,.int .i64 ((k : Nat) : Int))] ⟨Z,Z,Z,Z,trivial⟩ ?_
  refine Qf (Qf (Qh [true,true,true,true] Z Z (Qa (Qc Z) Z (Qa (Qc Z) Z (Qa (Ya Tryz.underlying25 Z (hxs.ext E).len) Z (Qa (Yf Z Z) Z (Qd (Qs Z (fun hc2=>?_) (fun hc2=>?_)))))))))
  ·have hc2n : k < xs.length:=by first | (have h:=of_decide_eq_true hc2;omega) | (have h:=hc2;simp at h;omega)
   refine Qn (Qf (Q0 (Qf (Qh [true,true,true,true,true,false,true] Z Z (Qa (Qc Z) Z (Qa (Qc Z) Z ?_))))))
   have hi1 : k < xs.length:=(by first | assumption | omega | (simp only [List.length_set];first | assumption | omega))
   obtain ⟨_,hr1,ha1⟩:=RdD.get hxs hi1
   obtain ⟨o1,o2,o3,o4,o5,o6,o7,o8,rfl,hd1,hd2,hd3,hd4,hd5,hd6,hd7,hd8⟩:=Worker.op hr1
   replace ha1 : At w (Xf vxs) (Xm vxs + k * 8) [o1,o2,o3,o4,o5,o6,o7,o8]:=ha1
   refine Qa (Q1 (i:=k) sl25 Z Z (hxs.ext E).1 hi1) Z (Qa (Qt st89 Z (ha1.ext E) Z) Z (Qa (Qc Z) Z (Qv Tryz.call42 Z (c_szWorker [o1,o2,o3,o4,o5,o6,o7,o8] (xs[k]'hi1) l _ (Worker.mkR (xs[k]'hi1) (RdD.any (hd1.ext E)) (RdD.any (hd2.ext E)) (RdD.any (hd3.ext E)) (RdD.any (hd4.ext E)) (RdD.any (hd5.ext E)) (RdD.any (hd6.ext E)) (RdD.any (hd7.ext E)) (RdD.any (hd8.ext E))) (by first | omega | (simp only [Qi];omega) | (rw [Qi];done) | (simp only [Qi];done))) Z (fun _ w2 e1 hv=>?_))))
   subst hv
   replace E:=E.trans e1
   have z2:=e1.size
   refine Qa (Qe Z) Z (Qd (Qf (Qh [true,true] Z Z (Qa (Qc Z) Z (Qa (Yf Z Z) Z (Qd (Qs Z (fun hc3=>?_) (fun hc3=>?_))))))))
   ·have q1:=Uo hc3 (by omega)
    refine Qf (Qh [true] Z Z (Qa (Qe Z) Z (Qd (Qw (Q2 (Y0 (Q2 (Ql Z Z E ?_))))))))
    exact Kg (by have:=Gf (f:=Yd) (show k < xs.length by omega);unfold X1;omega)
   ·have q2:=Un hc3 (by omega)
    refine Qn (Q4 (Yr (Qh [true,true,true] Z Z (Qa (Qc Z) Z (Qa (Q8 Z Z (Yt hc2n (hxs.ext E).1.1)) Z (Qa (Qe Z) Z (Qd (Q4 (Yc (k + 1,Up (Yd (xs[k]'hi1)) l) (by simp;omega) ⟨Z,Z,Z,Z,trivial⟩ ⟨E,(by omega),(by omega),(by have:=B4 (f:=Yd) (show k < xs.length by omega);omega)⟩)))))))))
  ·have hc2n : ¬ k < xs.length:=by first | (have h:=of_decide_eq_false hc2;omega) | (have h:=hc2;simp at h;omega)
   refine Yn (Q5 (Q3 ?_))
   refine Qf (Qh [true,true] Z Z (Qa (Qc Z) Z (Qa (Qe Z) Z (Qd (Qw (Ql Z Z E ?_))))))
   have:=sum_all (f:=Yd) (show xs.length ≤ k by omega);exact Kz (by unfold X1;omega) (by unfold X1;omega)

set_option maxRecDepth 20000 in
theorem c_toWorkerS (vxs : Value) (xs : List Worker) (w : World) (hxs : RdD w 0 w.heap.size vxs xs) (hb : X1 Yd xs ≤ 1048576) : Ct Tryz.prog 19 [vxs] w (fun v w'=>OwS (α:=Worker) w' w.heap.size w'.heap.size v xs):=by
 unfold X1 at hb
 refine Yh Tryz.func19 Z Tryz.ntmps19 Z ?_
 refine Q7 [(0,vxs)] ⟨Z,trivial⟩ ?_
 have E : Ext w w:=Ext.refl w
 refine Qf (Qh [true] Z Z (Qa (Qe Z) Z (Qd (Qf (Qh [true,true,false,true] Z Z (Qa (Qc Z) Z (Qa (Ya Tryz.underlying25 Z (hxs.ext E).len) Z (H9 (m:=xs.length) U8 Z Z (by omega) (by decide) Z (fun b1 w1 e1 s1 h1=>?_)))))))))
 have g_b1 : w.heap.size ≤ b1:=by have:=E.size;omega
 have y_b1:=h1.lt
 replace E:=E.trans e1
 have z1:=e1.size
 refine Qa (Qe Z) Z (Qd (Qf (Qf (Qh [true] Z Z (Qa (Qe Z) Z (Qd (Q0 (Ym (fun (xq : Nat × List (List Value))=>let ⟨k,css⟩:=xq;[(0,vxs),(2,.slice none 0 0),(3,.slice (some ⟨b1,0,none⟩) xs.length xs.length),(4,.int .i64 ((k : Nat) : Int))]) (fun (xq : Nat × List (List Value)) w'=>let ⟨k,css⟩:=xq;Ext w w' ∧ w1.heap.size ≤ w'.heap.size ∧ k ≤ xs.length ∧ css.length = k ∧ Blk w' b1 (D2 css [.slice none 0 0,.slice none 0 0,.slice none 0 0,.slice none 0 0,.slice none 0 0,.slice none 0 0,.slice none 0 0,.slice none 0 0] (xs.length - k)) ∧ AllO w' w1.heap.size w'.heap.size css (xs.take k)) (fun (xq : Nat × List (List Value))=>let ⟨k,css⟩:=xq;xs.length - k) (0,[]) ⟨Z,Z,Z,Z,trivial⟩ ⟨E,Nat.le_refl _,Nat.zero_le _,Z,(by simpa [D2] using h1),(by simp [AllO,All2])⟩ ?_))))))))
 clear E h1
 rintro ⟨k,css⟩ w2 ⟨E,z2,hk,hlk,h1,hA⟩
 refine Q7 [(0,vxs),(2,.slice none 0 0),(3,.slice (some ⟨b1,0,none⟩) xs.length xs.length),(4,.int .i64 ((k : Nat) : Int))] ⟨Z,Z,Z,Z,trivial⟩ ?_
 refine Qf (Qf (Qh [true,true,true,true] Z Z (Qa (Qc Z) Z (Qa (Qc Z) Z (Qa (Ya Tryz.underlying25 Z (hxs.ext E).len) Z (Qa (Yf Z Z) Z (Qd (Qs Z (fun hc1=>?_) (fun hc1=>?_)))))))))
 ·have hc1n : k < xs.length:=by first | (have h:=of_decide_eq_true hc1;omega) | (have h:=hc1;simp at h;omega)
  refine Qn (Qf (Q0 (Qh [true,true,true,true,true,true,false,true,false] Z Z (Qa (Qc Z) Z (Qa (Qc Z) Z (Qa (Qc Z) Z (Qa (Qc Z) Z ?_)))))))
  have hi1 : k < xs.length:=(by first | assumption | omega | (simp only [List.length_set];first | assumption | omega))
  obtain ⟨_,hr1,ha1⟩:=RdD.get hxs hi1
  obtain ⟨o1,o2,o3,o4,o5,o6,o7,o8,rfl,hd1,hd2,hd3,hd4,hd5,hd6,hd7,hd8⟩:=Worker.op hr1
  replace ha1 : At w (Xf vxs) (Xm vxs + k * 8) [o1,o2,o3,o4,o5,o6,o7,o8]:=ha1
  refine Qa (Q1 (i:=k) sl25 Z Z (hxs.ext E).1 hi1) Z (Qa (Qt st89 Z (ha1.ext E) Z) Z (Qv Tryz.call50 Z (c_toWorker [o1,o2,o3,o4,o5,o6,o7,o8] (xs[k]'hi1) _ (Worker.mkR (xs[k]'hi1) (RdD.any (hd1.ext E)) (RdD.any (hd2.ext E)) (RdD.any (hd3.ext E)) (RdD.any (hd4.ext E)) (RdD.any (hd5.ext E)) (RdD.any (hd6.ext E)) (RdD.any (hd7.ext E)) (RdD.any (hd8.ext E))) (by have:=Gf (f:=Yd) (show k < xs.length by omega);omega)) Z (fun _ w3 e2 ho1=>?_)))
  obtain ⟨_,rfl,ho1⟩:=ho1
  have g_ho1 : w.heap.size ≤ w2.heap.size:=E.size
  replace E:=E.trans e2;replace h1:=h1.ext e2;replace hA:=hA.ext e2
  have z3:=e2.size
  obtain ⟨o9,o10,o11,o12,o13,o14,o15,o16,rfl,sp1,hw1,hw2,hw3,hw4,hw5,hw6,hw7,hw8⟩:=Worker.opO ho1
  refine Qa (Vo U8 Z Z (by first | assumption | omega | (simp only [List.length_set];first | assumption | omega))) Z (Q6 (cs':=D2 (css ++ [[o9,o10,o11,o12,o13,o14,o15,o16]]) [.slice none 0 0,.slice none 0 0,.slice none 0 0,.slice none 0 0,.slice none 0 0,.slice none 0 0,.slice none 0 0,.slice none 0 0] (xs.length - (k + 1))) Kw Z Z Z (Qk hw1.one (Qk hw2.one (Qk hw3.one (Qk hw4.one (Qk hw5.one (Qk hw6.one (Qk hw7.one (Qk hw8.one Z)))))))) h1 (Am hA.d hlk Z hc1n (by rfl)) (Dg hA.d hlk Z hc1n Z) (fun w4 m1 h1'=>?_))
  replace h1:=h1'
  replace E:=E.step m1 (fun g hg=>by cases hg;omega);replace hA:=hA.mod m1 (fun g hg=>by cases hg;omega);replace hw1:=hw1.mod m1 (fun g hg=>by cases hg;omega);replace hw2:=hw2.mod m1 (fun g hg=>by cases hg;omega);replace hw3:=hw3.mod m1 (fun g hg=>by cases hg;omega);replace hw4:=hw4.mod m1 (fun g hg=>by cases hg;omega);replace hw5:=hw5.mod m1 (fun g hg=>by cases hg;omega);replace hw6:=hw6.mod m1 (fun g hg=>by cases hg;omega);replace hw7:=hw7.mod m1 (fun g hg=>by cases hg;omega);replace hw8:=hw8.mod m1 (fun g hg=>by cases hg;omega)
  have z4:=m1.size
  refine Qd (Q4 (Yr (Qh [true,true,true] Z Z (Qa (Qc Z) Z (Qa (Q8 Z Z (Yt hc1n (hxs.ext E).1.1)) Z (Qa (Qe Z) Z (Qd (Q4 (Yc (k + 1,css ++ [[o9,o10,o11,o12,o13,o14,o15,o16]]) (by simp;omega) ⟨Z,Z,Z,Z,trivial⟩ ⟨E,(by omega),(by omega),(by simp [hlk]),h1,(AllO.widen (AllO.step hA hc1n (Worker.mkO (xs[k]'hi1) sp1 (Own.widen hw1 (by omega) (by omega)) (Own.widen hw2 (by omega) (by omega)) (Own.widen hw3 (by omega) (by omega)) (Own.widen hw4 (by omega) (by omega)) (Own.widen hw5 (by omega) (by omega)) (Own.widen hw6 (by omega) (by omega)) (Own.widen hw7 (by omega) (by omega)) (Own.widen hw8 (by omega) (by omega))) (Nat.le_refl _) (Nat.le_refl _) (by omega) (by omega)) (Nat.le_refl _) (by omega))⟩)))))))))
 ·have hc1n : ¬ k < xs.length:=by first | (have h:=of_decide_eq_false hc1;omega) | (have h:=hc1;simp at h;omega)
  refine Yn (Q5 (Q3 ?_))
  refine Qf (Qh [true,true] Z Z (Qa (Qc Z) Z (Qa (Qe Z) Z (Qd (Qw (Ql Z Z E ?_))))))
  obtain rfl : k = xs.length:=by omega
  rw [Nat.sub_self,mkc_all] at h1
  rw [List.take_length] at hA
  exact OwS.ofBlk h1 hA (by have:=E.size;omega) (by omega) (by have:=E.size;omega) (by omega) (by omega) Z (by unfold maxLen;omega)

set_option maxRecDepth 20000 in
theorem c_eqWorkerS (vxs : Value) (xs : List Worker) (vys : Value) (ys : List Worker) (w : World) (hxs : RdD w 0 w.heap.size vxs xs) (hys : RdD w 0 w.heap.size vys ys) : Ct Tryz.prog 27 [vxs,vys] w (fun v _=>v = .bool (decide (xs = ys))):=by
 refine Yh Tryz.func27 Z Tryz.ntmps27 Z ?_
 refine Q7 [(0,vxs),(1,vys)] ⟨Z,Z,trivial⟩ ?_
 have E : Ext w w:=Ext.refl w
 refine Qf (Qh [true] Z Z (Qa (Qe Z) Z (Qd (Qf (Qf (Qh [true,true,true,true,true] Z Z (Qa (Qc Z) Z (Qa (Ya Tryz.underlying35 Z (hxs.ext E).len) Z (Qa (Qc Z) Z (Qa (Ya Tryz.underlying35 Z (hys.ext E).len) Z (Qa (Yu Z Z) Z (Qd (Qs Z (fun hc1=>?_) (fun hc1=>?_))))))))))))))
 ·have hc1n : ¬ xs.length = ys.length:=by first | (have h:=of_decide_eq_true hc1;omega) | (have h:=hc1;simp at h;omega)
  refine Qf (Qh [true] Z Z (Qa (Qe Z) Z (Qd (Qw (Ql Z Z E ?_)))))
  simp [H6 hc1n]
 ·have hc1n : xs.length = ys.length:=by first | (have h:=of_decide_eq_false hc1;omega) | (have h:=hc1;simp at h;omega)
  refine Qn (Qf (Qf (Qh [true] Z Z (Qa (Qe Z) Z (Qd (Q0 (Ym (fun (k : Nat)=>[(0,vxs),(1,vys),(4,.bool false),(5,.int .i64 ((k : Nat) : Int))]) (fun (k : Nat) w'=>Ext w w' ∧ w.heap.size ≤ w'.heap.size ∧ k ≤ xs.length ∧ xs.take k = ys.take k) (fun (k : Nat)=>xs.length - k) 0 ⟨Z,Z,Z,Z,trivial⟩ ⟨E,Nat.le_refl _,Nat.zero_le _,Z⟩ ?_)))))))
  clear E
  rintro k w1 ⟨E,z1,hk,hp⟩
  refine Qf (Qf (Qh [true,true,true,true] Z Z (Qa (Qc Z) Z (Qa (Qc Z) Z (Qa (Ya Tryz.underlying35 Z (hxs.ext E).len) Z (Qa (Yf Z Z) Z (Qd (Qs Z (fun hc2=>?_) (fun hc2=>?_)))))))))
  ·have hc2n : k < xs.length:=by first | (have h:=of_decide_eq_true hc2;omega) | (have h:=hc2;simp at h;omega)
   refine Qn (Qf (Q0 (Qf (Xj Xi [(0,true),(1,true),(2,true),(3,true),(4,true),(5,true),(6,true),(7,true),(8,false),(9,true)] (by decide +kernel) Z (fun w2 e1=>?_)))))
   replace E:=E.trans e1
   have z2:=e1.size
   refine Qa (Qc Z) Z (Qa (Qc Z) Z ?_)
   have hi1 : k < xs.length:=(by first | assumption | omega | (simp only [List.length_set];first | assumption | omega))
   obtain ⟨_,hr1,ha1⟩:=RdD.get hxs hi1
   obtain ⟨o1,o2,o3,o4,o5,o6,o7,o8,rfl,hd1,hd2,hd3,hd4,hd5,hd6,hd7,hd8⟩:=Worker.op hr1
   replace ha1 : At w (Xf vxs) (Xm vxs + k * 8) [o1,o2,o3,o4,o5,o6,o7,o8]:=ha1
   refine Qa (Q1 (i:=k) U8 Z Z (hxs.ext E).1 hi1) Z (Qa (Qt Kw Z (ha1.ext E) Z) Z (Qa (Qc Z) Z (Qa (Qc Z) Z ?_)))
   have hi2 : k < ys.length:=(by first | assumption | omega | (simp only [List.length_set];first | assumption | omega))
   obtain ⟨_,hr2,ha2⟩:=RdD.get hys hi2
   obtain ⟨o9,o10,o11,o12,o13,o14,o15,o16,rfl,hd9,hd10,hd11,hd12,hd13,hd14,hd15,hd16⟩:=Worker.op hr2
   replace ha2 : At w (Xf vys) (Xm vys + k * 8) [o9,o10,o11,o12,o13,o14,o15,o16]:=ha2
   refine Qa (Q1 (i:=k) U8 Z Z (hys.ext E).1 hi2) Z (Qa (Qt Kw Z (ha2.ext E) Z) Z (Qv Tryz.call64 Z (c_eqWorker [o1,o2,o3,o4,o5,o6,o7,o8] (xs[k]'hi1) [o9,o10,o11,o12,o13,o14,o15,o16] (ys[k]'hi2) _ (Worker.mkR (xs[k]'hi1) (RdD.any (hd1.ext E)) (RdD.any (hd2.ext E)) (RdD.any (hd3.ext E)) (RdD.any (hd4.ext E)) (RdD.any (hd5.ext E)) (RdD.any (hd6.ext E)) (RdD.any (hd7.ext E)) (RdD.any (hd8.ext E))) (Worker.mkR (ys[k]'hi2) (RdD.any (hd9.ext E)) (RdD.any (hd10.ext E)) (RdD.any (hd11.ext E)) (RdD.any (hd12.ext E)) (RdD.any (hd13.ext E)) (RdD.any (hd14.ext E)) (RdD.any (hd15.ext E)) (RdD.any (hd16.ext E)))) Z (fun _ w3 e2 hv=>?_)))
   subst hv
   replace E:=E.trans e2
   have z3:=e2.size
   refine Qa (Yq Z) Z (Qd (Qs Z (fun hc3=>?_) (fun hc3=>?_)))
   ·refine Qf (Qh [true] Z Z (Qa (Qe Z) Z (Qd (Qw (Q2 (Y0 (Q2 (Ql Z Z E ?_))))))))
    exact H7 (by omega) (by omega) (by simpa using hc3)
   ·refine Qn (Q4 (Yr (Qh [true,true,true] Z Z (Qa (Qc Z) Z (Qa (Q8 Z Z (Yt hc2n (hxs.ext E).1.1)) Z (Qa (Qe Z) Z (Qd (Q4 (Yc (k + 1) (by omega) ⟨Z,Z,Z,Z,trivial⟩ ⟨E,(by omega),(by omega),Vn hp (by assumption) (by omega) (by simpa using hc3)⟩)))))))))
  ·have hc2n : ¬ k < xs.length:=by first | (have h:=of_decide_eq_false hc2;omega) | (have h:=hc2;simp at h;omega)
   refine Yn (Q5 (Q3 ?_))
   refine Qf (Qh [true] Z Z (Qa (Qe Z) Z (Qd (Qw (Ql Z Z E ?_)))))
   exact Gr hp hc1n (by omega)

set_option maxHeartbeats 4000000 in
set_option maxRecDepth 20000 in
theorem c_szCluster (cx : List Value) (x : Cluster) (n : Int) (w : World) (hx : Dat.R w 0 w.heap.size cx x) (h0 : 0 ≤ n ∧ n ≤ 1048576) : Ct Tryz.prog 4 [.agg cx.toArray,.int .i64 n] w (fun v _=>v = .int .i64 (Up (Yg x) n)):=by
 refine Yh Tryz.func4 Z Tryz.ntmps4 Z ?_
 obtain ⟨o1,o2,o3,o4,o5,rfl,hd1,hd2,hd3,hd4,hd5⟩:=Cluster.op hx
 refine Q7 [(0,.agg [o1,.int .i64 x.graph.workers,.int .i64 x.graph.cap,o2,o3,o4,o5].toArray),(1,.int .i64 n)] ⟨Z,Z,trivial⟩ ?_
 have E : Ext w w:=Ext.refl w
 refine Qf (Qh [false,true] Z Z (Y1 Z Z (fun b1 w1 e1 s1 h1=>?_)))
 have g_b1 : w.heap.size ≤ b1:=by have:=E.size;omega
 have y_b1:=h1.lt
 replace E:=E.trans e1
 have z1:=e1.size
 refine Qa (Qe Z) Z (Qd (Qf (Qh [true,true,true,false,true] Z Z (Qa (Qb fl30_0 Z) Z (Qa (Qt st24 Z (h1.part 0 [o1,.int .i64 x.graph.workers,.int .i64 x.graph.cap] Z) Z) Z (Qa (Qc Z) Z (Qv Tryz.call11 Z (c_szGraph [o1,.int .i64 x.graph.workers,.int .i64 x.graph.cap] x.graph n _ (Graph.mkR x.graph (RdD.any (hd1.ext E))) (by first | omega | (simp only [Qi];omega) | (rw [Qi];done) | (simp only [Qi];done))) Z (fun _ w2 e2 hv=>?_))))))))
 subst hv
 replace E:=E.trans e2;replace h1:=h1.ext e2
 have z2:=e2.size
 refine Qa (Qe Z) Z (Qd (Qf (Qf (Qh [true,true] Z Z (Qa (Qc Z) Z (Qa (Yf Z Z) Z (Qd (Qs Z (fun hc1=>?_) (fun hc1=>?_)))))))))
 ·have q1:=Uo hc1 (by omega)
  refine Qf (Qh [true] Z Z (Qa (Qe Z) Z (Qd (Qw (Ql Z Z E ?_)))))
  first | exact Kg (by unfold Yg;omega) | exact Kz (by unfold Yg;omega) (by unfold Yg;omega)
 ·have q2:=Un hc1 (by omega)
  refine Qn (Qf (Qh [true,true,true,false,true] Z Z (Qa (Qb fl30_1 Z) Z (Qa (Qj sc25 Z (h1.one 3 Z)) Z (Qa (Qc Z) Z (Qv Tryz.call12 Z (c_szWorkerS o2 x.workers (Up (Xa x.graph) n) _ (RdD.any (hd2.ext E)) (by first | omega | (simp only [Qi];omega) | (rw [Qi];done) | (simp only [Qi];done))) Z (fun _ w3 e3 hv=>?_)))))))
  subst hv
  replace E:=E.trans e3;replace h1:=h1.ext e3
  have z3:=e3.size
  refine Qa (Qe Z) Z (Qd (Qf (Qf (Qh [true,true] Z Z (Qa (Qc Z) Z (Qa (Yf Z Z) Z (Qd (Qs Z (fun hc2=>?_) (fun hc2=>?_)))))))))
  ·have q3:=Uo hc2 (by omega)
   refine Qf (Qh [true] Z Z (Qa (Qe Z) Z (Qd (Qw (Ql Z Z E ?_)))))
   first | exact Kg (by unfold Yg;omega) | exact Kz (by unfold Yg;omega) (by unfold Yg;omega)
  ·have q4:=Un hc2 (by omega)
   refine Qn (Qf (Qh [true,true,true,false,true] Z Z (Qa (Qb fl30_2 Z) Z (Qa (Qj sc26 Z (h1.one 4 Z)) Z (Qa (Qc Z) Z (Qv Tryz.call13 Z (c_szLinkS o3 x.links (Up (X1 Yd x.workers) (Up (Xa x.graph) n)) _ (RdD.any (hd3.ext E)) (by first | omega | (simp only [Qi];omega) | (rw [Qi];done) | (simp only [Qi];done))) Z (fun _ w4 e4 hv=>?_)))))))
   subst hv
   replace E:=E.trans e4;replace h1:=h1.ext e4
   have z4:=e4.size
   refine Qa (Qe Z) Z (Qd (Qf (Qf (Qh [true,true] Z Z (Qa (Qc Z) Z (Qa (Yf Z Z) Z (Qd (Qs Z (fun hc3=>?_) (fun hc3=>?_)))))))))
   ·have q5:=Uo hc3 (by omega)
    refine Qf (Qh [true] Z Z (Qa (Qe Z) Z (Qd (Qw (Ql Z Z E ?_)))))
    first | exact Kg (by unfold Yg;omega) | exact Kz (by unfold Yg;omega) (by unfold Yg;omega)
   ·have q6:=Un hc3 (by omega)
    refine Qn (Qf (Qh [true,true,true,false,true] Z Z (Qa (Qb fl30_3 Z) Z (Qa (Qj sc27 Z (h1.one 5 Z)) Z (Qa (Qc Z) Z (Qv Tryz.call14 Z (c_szTokenS o4 x.tokens (Up (X1 Xl x.links) (Up (X1 Yd x.workers) (Up (Xa x.graph) n))) _ (hd4.rd.ext E) (by first | omega | (simp only [Qi];omega) | (rw [Qi];done) | (simp only [Qi];done))) Z (fun _ w5 e5 hv=>?_)))))))
    subst hv
    replace E:=E.trans e5;replace h1:=h1.ext e5
    have z5:=e5.size
    refine Qa (Qe Z) Z (Qd (Qf (Qf (Qh [true,true] Z Z (Qa (Qc Z) Z (Qa (Yf Z Z) Z (Qd (Qs Z (fun hc4=>?_) (fun hc4=>?_)))))))))
    ·have q7:=Uo hc4 (by omega)
     refine Qf (Qh [true] Z Z (Qa (Qe Z) Z (Qd (Qw (Ql Z Z E ?_)))))
     first | exact Kg (by unfold Yg;omega) | exact Kz (by unfold Yg;omega) (by unfold Yg;omega)
    ·have q8:=Un hc4 (by omega)
     refine Qn (Qf (Qh [true,true,true,false,true] Z Z (Qa (Qb fl30_4 Z) Z (Qa (Qj sc28 Z (h1.one 6 Z)) Z (Qa (Qc Z) Z (Qv Tryz.call15 Z (c_szNewsS o5 x.news (Up x.tokens.length (Up (X1 Xl x.links) (Up (X1 Yd x.workers) (Up (Xa x.graph) n)))) _ (hd5.rd.ext E) (by first | omega | (simp only [Qi];omega) | (rw [Qi];done) | (simp only [Qi];done))) Z (fun _ w6 e6 hv=>?_)))))))
     subst hv
     replace E:=E.trans e6;replace h1:=h1.ext e6
     have z6:=e6.size
     refine Qa (Qe Z) Z (Qd (Qf (Qf (Qh [true,true] Z Z (Qa (Qc Z) Z (Qa (Yf Z Z) Z (Qd (Qs Z (fun hc5=>?_) (fun hc5=>?_)))))))))
     ·have q9:=Uo hc5 (by omega)
      refine Qf (Qh [true] Z Z (Qa (Qe Z) Z (Qd (Qw (Ql Z Z E ?_)))))
      first | exact Kg (by unfold Yg;omega) | exact Kz (by unfold Yg;omega) (by unfold Yg;omega)
     ·have q10:=Un hc5 (by omega)
      refine Qn (Qf (Qh [true,true] Z Z (Qa (Qc Z) Z (Qa (Qe Z) Z (Qd (Qw (Ql Z Z E ?_)))))))
      first | exact Kg (by unfold Yg;omega) | exact Kz (by unfold Yg;omega) (by unfold Yg;omega)

set_option maxRecDepth 20000 in
theorem c_eqCluster (cx : List Value) (x : Cluster) (cy : List Value) (y : Cluster) (w : World) (hx : Dat.R w 0 w.heap.size cx x) (hy : Dat.R w 0 w.heap.size cy y) : Ct Tryz.prog 8 [.agg cx.toArray,.agg cy.toArray] w (fun v _=>v = .bool (decide (x = y))):=by
 refine Yh Tryz.func8 Z Tryz.ntmps8 Z ?_
 obtain ⟨o1,o2,o3,o4,o5,rfl,hd1,hd2,hd3,hd4,hd5⟩:=Cluster.op hx
 obtain ⟨o6,o7,o8,o9,o10,rfl,hd6,hd7,hd8,hd9,hd10⟩:=Cluster.op hy
 refine Q7 [(0,.agg [o1,.int .i64 x.graph.workers,.int .i64 x.graph.cap,o2,o3,o4,o5].toArray),(1,.agg [o6,.int .i64 y.graph.workers,.int .i64 y.graph.cap,o7,o8,o9,o10].toArray)] ⟨Z,Z,trivial⟩ ?_
 have E : Ext w w:=Ext.refl w
 refine Qf (Qh [false,false,true] Z Z (Y1 Z Z (fun b1 w1 e1 s1 h1=>?_)))
 have g_b1 : w.heap.size ≤ b1:=by have:=E.size;omega
 have y_b1:=h1.lt
 replace E:=E.trans e1
 have z1:=e1.size
 refine Y1 Z Z (fun b2 w2 e2 s2 h2=>?_)
 have g_b2 : w.heap.size ≤ b2:=by have:=E.size;omega
 have y_b2:=h2.lt
 replace E:=E.trans e2;replace h1:=h1.ext e2
 have z2:=e2.size
 refine Qa (Qe Z) Z (Qd (Qf (Qf (Qh [true,true,true,true,false,true] Z Z (Qa (Qb Ur Z) Z (Qa (Qt Km Z (h1.part 0 [o1,.int .i64 x.graph.workers,.int .i64 x.graph.cap] Z) Z) Z (Qa (Qb Ur Z) Z (Qa (Qt Km Z (h2.part 0 [o6,.int .i64 y.graph.workers,.int .i64 y.graph.cap] Z) Z) Z (Qv Tryz.call26 Z (c_eqGraph [o1,.int .i64 x.graph.workers,.int .i64 x.graph.cap] x.graph [o6,.int .i64 y.graph.workers,.int .i64 y.graph.cap] y.graph _ (Graph.mkR x.graph (RdD.any (hd1.ext E))) (Graph.mkR y.graph (RdD.any (hd6.ext E)))) Z (fun _ w3 e3 hv=>?_))))))))))
 subst hv
 replace E:=E.trans e3;replace h1:=h1.ext e3;replace h2:=h2.ext e3
 have z3:=e3.size
 refine Qa (Yq Z) Z (Qd (Qs Z (fun hc1=>?_) (fun hc1=>?_)))
 ·refine Qf (Qh [true] Z Z (Qa (Qe Z) Z (Qd (Qw (Ql Z Z E ?_)))))
  cases x;cases y;simp_all
 ·refine Qn (Qf (Qf (Qh [true,true,true,true,false,true] Z Z (Qa (Qb Kh Z) Z (Qa (Qj Gh Z (h1.one 3 Z)) Z (Qa (Qb Kh Z) Z (Qa (Qj Gh Z (h2.one 3 Z)) Z (Qv Tryz.call27 Z (c_eqWorkerS o2 x.workers o7 y.workers _ (RdD.any (hd2.ext E)) (RdD.any (hd7.ext E))) Z (fun _ w4 e4 hv=>?_)))))))))
  subst hv
  replace E:=E.trans e4;replace h1:=h1.ext e4;replace h2:=h2.ext e4
  have z4:=e4.size
  refine Qa (Yq Z) Z (Qd (Qs Z (fun hc2=>?_) (fun hc2=>?_)))
  ·refine Qf (Qh [true] Z Z (Qa (Qe Z) Z (Qd (Qw (Ql Z Z E ?_)))))
   cases x;cases y;simp_all
  ·refine Qn (Qf (Qf (Qh [true,true,true,true,false,true] Z Z (Qa (Qb Uk Z) Z (Qa (Qj H2 Z (h1.one 4 Z)) Z (Qa (Qb Uk Z) Z (Qa (Qj H2 Z (h2.one 4 Z)) Z (Qv Tryz.call28 Z (c_eqLinkS o3 x.links o8 y.links _ (RdD.any (hd3.ext E)) (RdD.any (hd8.ext E))) Z (fun _ w5 e5 hv=>?_)))))))))
   subst hv
   replace E:=E.trans e5;replace h1:=h1.ext e5;replace h2:=h2.ext e5
   have z5:=e5.size
   refine Qa (Yq Z) Z (Qd (Qs Z (fun hc3=>?_) (fun hc3=>?_)))
   ·refine Qf (Qh [true] Z Z (Qa (Qe Z) Z (Qd (Qw (Ql Z Z E ?_)))))
    cases x;cases y;simp_all
   ·refine Qn (Qf (Qf (Qh [true,true,true,true,false,true] Z Z (Qa (Qb Vk Z) Z (Qa (Qj Cu Z (h1.one 5 Z)) Z (Qa (Qb Vk Z) Z (Qa (Qj Cu Z (h2.one 5 Z)) Z (Qv Tryz.call29 Z (c_eqTokenS o4 x.tokens o9 y.tokens _ (hd4.rd.ext E) (hd9.rd.ext E)) Z (fun _ w6 e6 hv=>?_)))))))))
    subst hv
    replace E:=E.trans e6;replace h1:=h1.ext e6;replace h2:=h2.ext e6
    have z6:=e6.size
    refine Qa (Yq Z) Z (Qd (Qs Z (fun hc4=>?_) (fun hc4=>?_)))
    ·refine Qf (Qh [true] Z Z (Qa (Qe Z) Z (Qd (Qw (Ql Z Z E ?_)))))
     cases x;cases y;simp_all
    ·refine Qn (Qf (Qf (Qh [true,true,true,true,false,true] Z Z (Qa (Qb Hn Z) Z (Qa (Qj B7 Z (h1.one 6 Z)) Z (Qa (Qb Hn Z) Z (Qa (Qj B7 Z (h2.one 6 Z)) Z (Qv Tryz.call30 Z (c_eqNewsS o5 x.news o10 y.news _ (hd5.rd.ext E) (hd10.rd.ext E)) Z (fun _ w7 e7 hv=>?_)))))))))
     subst hv
     replace E:=E.trans e7;replace h1:=h1.ext e7;replace h2:=h2.ext e7
     have z7:=e7.size
     refine Qa (Yq Z) Z (Qd (Qs Z (fun hc5=>?_) (fun hc5=>?_)))
     ·refine Qf (Qh [true] Z Z (Qa (Qe Z) Z (Qd (Qw (Ql Z Z E ?_)))))
      cases x;cases y;simp_all
     ·refine Qn (Qf (Qh [true] Z Z (Qa (Qe Z) Z (Qd (Qw (Ql Z Z E ?_))))))
      cases x;cases y;simp_all

set_option maxRecDepth 20000 in
theorem c_toCluster (cx : List Value) (x : Cluster) (w : World) (hx : Dat.R w 0 w.heap.size cx x) (hb : Yg x ≤ 1048576) : Ct Tryz.prog 6 [.agg cx.toArray] w (fun v w'=>∃ o1 o2 o3 o4 o5,v = .agg [o1,.int .i64 x.graph.workers,.int .i64 x.graph.cap,o2,o3,o4,o5].toArray ∧ OwC w' w.heap.size w'.heap.size o1 o2 o3 o4 o5 x):=by
 unfold Yg at hb
 refine Yh Tryz.func6 Z Tryz.ntmps6 Z ?_
 obtain ⟨o1,o2,o3,o4,o5,rfl,hd1,hd2,hd3,hd4,hd5⟩:=Cluster.op hx
 refine Q7 [(0,.agg [o1,.int .i64 x.graph.workers,.int .i64 x.graph.cap,o2,o3,o4,o5].toArray)] ⟨Z,trivial⟩ ?_
 have E : Ext w w:=Ext.refl w
 refine Qf (Qh [false,false] Z Z (Y1 Z Z (fun b1 w1 e1 s1 h1=>?_)))
 have g_b1 : w.heap.size ≤ b1:=by have:=E.size;omega
 have y_b1:=h1.lt
 replace E:=E.trans e1
 have z1:=e1.size
 refine Yk X5 Z (fun b2 w2 e2 s2 h2=>?_)
 have g_b2 : w.heap.size ≤ b2:=by have:=E.size;omega
 have y_b2:=h2.lt
 replace E:=E.trans e2;replace h1:=h1.ext e2
 have z2:=e2.size
 refine Qd (Qf (Qh [false] Z Z (Yk X5 Z (fun b3 w3 e3 s3 h3=>?_))))
 have g_b3 : w.heap.size ≤ b3:=by have:=E.size;omega
 have y_b3:=h3.lt
 replace E:=E.trans e3;replace h1:=h1.ext e3;replace h2:=h2.ext e3
 have z3:=e3.size
 refine Qd (Qf (Qh [true,true,false,true,false] Z Z (Qa (Qb fl30_0 Z) Z (Qa (Qt st24 Z (h1.part 0 [o1,.int .i64 x.graph.workers,.int .i64 x.graph.cap] Z) Z) Z (Qv Tryz.call18 Z (c_toGraph [o1,.int .i64 x.graph.workers,.int .i64 x.graph.cap] x.graph _ (Graph.mkR x.graph (RdD.any (hd1.ext E))) (by first | omega | (simp only [Qi];omega) | (rw [Qi];done) | (simp only [Qi];done))) Z (fun _ w4 e4 ho1=>?_))))))
 obtain ⟨o6,rfl,ho1⟩:=ho1
 have g_ho1 : w.heap.size ≤ w3.heap.size:=E.size
 replace E:=E.trans e4;replace h1:=h1.ext e4;replace h2:=h2.ext e4;replace h3:=h3.ext e4
 have z4:=e4.size
 refine Qa (Qb Ur Z) Z (Q6 (cs':=[o6,.int .i64 x.graph.workers,.int .i64 x.graph.cap,.slice none 0 0,.slice none 0 0,.slice none 0 0,.slice none 0 0]) Km Z Z Z (Qk (RdD.one (OwS.rd ho1)) (Qk Z (Qk Z Z))) h3 (Nat.le_of_ble_eq_true Z) Z (fun w5 m1 h3'=>?_))
 replace h3:=h3'
 replace E:=E.step m1 (fun g hg=>by cases hg;omega);replace h1:=h1.mod m1 (fun g hg=>by cases hg;omega);replace h2:=h2.mod m1 (fun g hg=>by cases hg;omega);replace ho1:=ho1.mod m1 (fun g hg=>by cases hg;omega)
 have z5:=m1.size
 refine Qd (Qf (Qh [true,true,false,true,false] Z Z (Qa (Qb fl30_1 Z) Z (Qa (Qj sc25 Z (h1.one 3 Z)) Z (Qv Tryz.call19 Z (c_toWorkerS o2 x.workers _ (RdD.any (hd2.ext E)) (by first | omega | (simp only [Qi];omega) | (rw [Qi];done) | (simp only [Qi];done))) Z (fun v1 w6 e5 ho2=>?_))))))
 have g_ho2 : w.heap.size ≤ w5.heap.size:=E.size
 replace E:=E.trans e5;replace h1:=h1.ext e5;replace h2:=h2.ext e5;replace h3:=h3.ext e5;replace ho1:=ho1.ext e5
 have z6:=e5.size
 refine Qa (Qb Kh Z) Z (Yj (cs':=[o6,.int .i64 x.graph.workers,.int .i64 x.graph.cap,v1,.slice none 0 0,.slice none 0 0,.slice none 0 0]) Gh Z Z (RdD.one (OwS.rd ho2)) h3 (Nat.le_of_ble_eq_true Z) Z (fun w7 m2 h3'=>?_))
 replace h3:=h3'
 replace E:=E.step m2 (fun g hg=>by cases hg;omega);replace h1:=h1.mod m2 (fun g hg=>by cases hg;omega);replace h2:=h2.mod m2 (fun g hg=>by cases hg;omega);replace ho1:=ho1.mod m2 (fun g hg=>by cases hg;omega);replace ho2:=ho2.mod m2 (fun g hg=>by cases hg;omega)
 have z7:=m2.size
 refine Qd (Qf (Qh [true,true,false,true,false] Z Z (Qa (Qb fl30_2 Z) Z (Qa (Qj sc26 Z (h1.one 4 Z)) Z (Qv Tryz.call20 Z (c_toLinkS o3 x.links _ (RdD.any (hd3.ext E)) (by first | omega | (simp only [Qi];omega) | (rw [Qi];done) | (simp only [Qi];done))) Z (fun v2 w8 e6 ho3=>?_))))))
 have g_ho3 : w.heap.size ≤ w7.heap.size:=E.size
 replace E:=E.trans e6;replace h1:=h1.ext e6;replace h2:=h2.ext e6;replace h3:=h3.ext e6;replace ho1:=ho1.ext e6;replace ho2:=ho2.ext e6
 have z8:=e6.size
 refine Qa (Qb Uk Z) Z (Yj (cs':=[o6,.int .i64 x.graph.workers,.int .i64 x.graph.cap,v1,v2,.slice none 0 0,.slice none 0 0]) H2 Z Z (RdD.one (OwS.rd ho3)) h3 (Nat.le_of_ble_eq_true Z) Z (fun w9 m3 h3'=>?_))
 replace h3:=h3'
 replace E:=E.step m3 (fun g hg=>by cases hg;omega);replace h1:=h1.mod m3 (fun g hg=>by cases hg;omega);replace h2:=h2.mod m3 (fun g hg=>by cases hg;omega);replace ho1:=ho1.mod m3 (fun g hg=>by cases hg;omega);replace ho2:=ho2.mod m3 (fun g hg=>by cases hg;omega);replace ho3:=ho3.mod m3 (fun g hg=>by cases hg;omega)
 have z9:=m3.size
 refine Qd (Qf (Qh [true,true,false,true,false] Z Z (Qa (Qb fl30_3 Z) Z (Qa (Qj sc27 Z (h1.one 5 Z)) Z (Qv Tryz.call21 Z (c_toTokenS o4 x.tokens _ (hd4.rd.ext E) (by first | omega | (simp only [Qi];omega) | (rw [Qi];done) | (simp only [Qi];done))) Z (fun v3 w10 e7 ho4=>?_))))))
 have g_ho4 : w.heap.size ≤ w9.heap.size:=E.size
 replace E:=E.trans e7;replace h1:=h1.ext e7;replace h2:=h2.ext e7;replace h3:=h3.ext e7;replace ho1:=ho1.ext e7;replace ho2:=ho2.ext e7;replace ho3:=ho3.ext e7
 have z10:=e7.size
 refine Qa (Qb Vk Z) Z (Yj (cs':=[o6,.int .i64 x.graph.workers,.int .i64 x.graph.cap,v1,v2,v3,.slice none 0 0]) Cu Z Z ho4.one h3 (Nat.le_of_ble_eq_true Z) Z (fun w11 m4 h3'=>?_))
 replace h3:=h3'
 replace E:=E.step m4 (fun g hg=>by cases hg;omega);replace h1:=h1.mod m4 (fun g hg=>by cases hg;omega);replace h2:=h2.mod m4 (fun g hg=>by cases hg;omega);replace ho1:=ho1.mod m4 (fun g hg=>by cases hg;omega);replace ho2:=ho2.mod m4 (fun g hg=>by cases hg;omega);replace ho3:=ho3.mod m4 (fun g hg=>by cases hg;omega);replace ho4:=ho4.mod m4 (fun g hg=>by cases hg;omega)
 have z11:=m4.size
 refine Qd (Qf (Qh [true,true,false,true,false] Z Z (Qa (Qb fl30_4 Z) Z (Qa (Qj sc28 Z (h1.one 6 Z)) Z (Qv Tryz.call22 Z (c_toNewsS o5 x.news _ (hd5.rd.ext E) (by first | omega | (simp only [Qi];omega) | (rw [Qi];done) | (simp only [Qi];done))) Z (fun v4 w12 e8 ho5=>?_))))))
 have g_ho5 : w.heap.size ≤ w11.heap.size:=E.size
 replace E:=E.trans e8;replace h1:=h1.ext e8;replace h2:=h2.ext e8;replace h3:=h3.ext e8;replace ho1:=ho1.ext e8;replace ho2:=ho2.ext e8;replace ho3:=ho3.ext e8;replace ho4:=ho4.ext e8
 have z12:=e8.size
 refine Qa (Qb Hn Z) Z (Yj (cs':=[o6,.int .i64 x.graph.workers,.int .i64 x.graph.cap,v1,v2,v3,v4]) B7 Z Z ho5.one h3 (Nat.le_of_ble_eq_true Z) Z (fun w13 m5 h3'=>?_))
 replace h3:=h3'
 replace E:=E.step m5 (fun g hg=>by cases hg;omega);replace h1:=h1.mod m5 (fun g hg=>by cases hg;omega);replace h2:=h2.mod m5 (fun g hg=>by cases hg;omega);replace ho1:=ho1.mod m5 (fun g hg=>by cases hg;omega);replace ho2:=ho2.mod m5 (fun g hg=>by cases hg;omega);replace ho3:=ho3.mod m5 (fun g hg=>by cases hg;omega);replace ho4:=ho4.mod m5 (fun g hg=>by cases hg;omega);replace ho5:=ho5.mod m5 (fun g hg=>by cases hg;omega)
 have z13:=m5.size
 refine Qd (Qf (Qh [true,false] Z Z (Qa (Qt X5 Z h3.at Z) Z (Q6 (cs':=[o6,.int .i64 x.graph.workers,.int .i64 x.graph.cap,v1,v2,v3,v4]) X5 Z Z Z (Qk (RdD.one (OwS.rd ho1)) (Qk Z (Qk Z (Qk (RdD.one (OwS.rd ho2)) (Qk (RdD.one (OwS.rd ho3)) (Qk ho4.one (Qk ho5.one Z))))))) h2 (Nat.le_of_ble_eq_true Z) Z (fun w14 m6 h2'=>?_)))))
 replace h2:=h2'
 replace E:=E.step m6 (fun g hg=>by cases hg;omega);replace h1:=h1.mod m6 (fun g hg=>by cases hg;omega);replace h3:=h3.mod m6 (fun g hg=>by cases hg;omega);replace ho1:=ho1.mod m6 (fun g hg=>by cases hg;omega);replace ho2:=ho2.mod m6 (fun g hg=>by cases hg;omega);replace ho3:=ho3.mod m6 (fun g hg=>by cases hg;omega);replace ho4:=ho4.mod m6 (fun g hg=>by cases hg;omega);replace ho5:=ho5.mod m6 (fun g hg=>by cases hg;omega)
 have z14:=m6.size
 refine Qd (Qw (Kk Z Z (Yi X5 h2.at Z) E ?_))
 exact ⟨_,_,_,_,_,Z,OwC.of x ho1 ho2 ho3 ho4 ho5 (by have:=E.size;omega) (by omega)⟩

set_option maxRecDepth 20000 in
theorem c_allRecordsOk (vxs : Value) (xs : List Record) (w : World) (hxs : RdS w vxs xs) : Ct Tryz.prog 135 [vxs] w (fun v _=>v = .bool (xs.all Yx)):=by
 refine Yh Tryz.func135 Z Tryz.ntmps135 Z ?_
 refine Q7 [(0,vxs)] ⟨Z,trivial⟩ ?_
 have E : Ext w w:=Ext.refl w
 refine Qf (Qh [true] Z Z (Qa (Qe Z) Z (Qd (Qf (Qf (Qh [true,true,true] Z Z (Qa (Qc Z) Z (Qa (Ya Tryz.underlying64 Z (hxs.ext E).len) Z (Qa (Qc Z) Z (Qd (Q0 (Ym (fun (k : Nat)=>[(2,.bool false),(5,vxs),(6,.int .i64 ((xs.length : Nat) : Int)),(7,.int .i64 ((k : Nat) : Int))]) (fun (k : Nat) w'=>Ext w w' ∧ w.heap.size ≤ w'.heap.size ∧ k ≤ xs.length ∧ (xs.take k).all Yx = true) (fun (k : Nat)=>xs.length - k) 0 ⟨Z,Z,Z,Z,trivial⟩ ⟨E,Nat.le_refl _,Nat.zero_le _,Z⟩ ?_))))))))))))
 clear E
 rintro k w1 ⟨E,z1,hk,hI⟩
 refine Qf (Qh [true] Z Z (Qa (Yf Z Z) Z (Qd (Qf (Qs Z (fun hc1=>?_) (fun hc1=>?_))))))
 ·have hc1n : k < xs.length:=by first | (have h:=of_decide_eq_true hc1;omega) | (have h:=hc1;simp at h;omega)
  refine Qn (Qf (Q0 (Qf (Qh [true,true,false,false] Z Z ?_))))
  have hi1 : k < xs.length:=(by first | assumption | omega | (simp only [List.length_set];first | assumption | omega))
  refine Qa (Q1 (i:=k) Kn Z Z (hxs.ext E) hi1) Z (Qa (Qt Va Z ((hxs.ext E).get hi1) Z) Z (Yk Va Z (fun b1 w2 e1 s1 h1=>?_)))
  have g_b1 : w.heap.size ≤ b1:=by have:=E.size;omega
  have y_b1:=h1.lt
  replace E:=E.trans e1
  have z2:=e1.size
  refine Q6 (cs':=[.int .i64 ((xs[k]'hi1).op),.int .i64 (((xs[k]'hi1).stamp).epoch),.int .i64 (((xs[k]'hi1).stamp).turn),.int .i64 ((xs[k]'hi1).key),.int .i64 ((xs[k]'hi1).val)]) Va Z Z Z Z h1 (Nat.le_of_ble_eq_true Z) Z (fun w3 m1 h1'=>?_)
  replace h1:=h1'
  replace E:=E.step m1 (fun g hg=>by cases hg;omega)
  have z3:=m1.size
  refine Qd (Qf (Qh [true,false,true] Z Z (Qa (Qt Va Z h1.at Z) Z (Qv Tryz.call114 Z (c_RecordOk (xs[k]'hi1) _ ) Z (fun _ w4 e2 hv=>?_)))))
  subst hv
  replace E:=E.trans e2;replace h1:=h1.ext e2
  have z4:=e2.size
  refine Qa (Yq Z) Z (Qd (Qs Z (fun hc2=>?_) (fun hc2=>?_)))
  ·refine Qf (Qh [true] Z Z (Qa (Qe Z) Z (Qd (Qw (Q2 (Y0 (Q2 (Ql Z Z E ?_))))))))
   exact all_no (by assumption) (by simpa using hc2)
  ·refine Qn (Q4 (Yr (Qh [true,true] Z Z (Qa (Q8 Z Z (Yt hc1n hxs.1)) Z (Qa (Qc Z) Z (Qd (Q4 (Yc (k + 1) (by omega) ⟨Z,Z,Z,Z,trivial⟩ ⟨E,(by omega),(by omega),Kf hI (by assumption) (by simpa using hc2)⟩))))))))
 ·have hc1n : ¬ k < xs.length:=by first | (have h:=of_decide_eq_false hc1;omega) | (have h:=hc1;simp at h;omega)
  refine Yn (Q5 (Q3 ?_))
  refine Qf (Qh [true] Z Z (Qa (Qe Z) Z (Qd (Qw (Ql Z Z E ?_)))))
  exact Bz hI (by omega)

set_option maxRecDepth 20000 in
theorem c_LinkOk (cx : List Value) (x : Link) (w : World) (hx : Dat.R w 0 w.heap.size cx x) (hr : rg x.got) : Ct Tryz.prog 109 [.agg cx.toArray] w (fun v _=>v = .bool (X9 x)):=by
 refine Yh Tryz.func109 Z Tryz.ntmps109 Z ?_
 obtain ⟨o1,rfl,hd1⟩:=Link.op hx
 refine Q7 [(0,.agg [.int .i64 x.cap,o1,.int .i64 x.credits,.int .i64 x.back,.int .i64 x.sent,.int .i64 x.got].toArray)] ⟨Z,trivial⟩ ?_
 have E : Ext w w:=Ext.refl w
 refine Qf (Qh [false,true] Z Z (Y1 Z Z (fun b1 w1 e1 s1 h1=>?_)))
 have g_b1 : w.heap.size ≤ b1:=by have:=E.size;omega
 have y_b1:=h1.lt
 replace E:=E.trans e1
 have z1:=e1.size
 refine Qa (Qe Z) Z (Qd (Qf (Qf (Qh [true,true,false,true,true,true,true,true,true,false,true,true,true,true,true,true,true,false,true,true,true,true,true,true,true,true,true,true,true,true,true,true,true,true] Z Z (Qa (Qb Uz Z) Z (Qa (Qj Yo Z (h1.one 0 Z)) Z (Qv Tryz.call58 Z (c_within x.cap 1 4 _ ) Z (fun _ w2 e2 hv=>?_))))))))
 subst hv
 replace E:=E.trans e2;replace h1:=h1.ext e2
 have z2:=e2.size
 refine Qa (Yq Z) Z (Qa (Qc Z) Z (Y7 29 [(0,.agg [.int .i64 x.cap,o1,.int .i64 x.credits,.int .i64 x.back,.int .i64 x.sent,.int .i64 x.got].toArray),(1,.pointer (some ⟨b1,0,none⟩)),(2,.bool false),(36,.bool ((((!(Yw x.cap 1 4)) || (!(Yw x.credits 0 x.cap))) || (!(Yw x.back 0 x.cap))) || ((IntKind.i64.wrap ((IntKind.i64.wrap (x.credits + x.back)) + ((x.queue.length : Nat) : Int))) != x.cap)))] (fun w'=>Ext w w' ∧ w2.heap.size ≤ w'.heap.size ∧ Blk w' b1 ([.int .i64 x.cap,o1,.int .i64 x.credits,.int .i64 x.back,.int .i64 x.sent,.int .i64 x.got])) ?_ ?_))
 ·refine Y3 (gd:=7) Z Z (fun hg1=>?_) (fun hg1=>?_)
  ·refine Qg Z Z Z Z (Qg Z Z Z Z (Qg Z Z Z Z (Qg Z Z Z Z ?_)))
   refine Yp Z Z Z Z ?_
   refine Qg Z Z Z Z (Qa (Qx Z Z) Z (Qa (Qc Z) Z (Qg Z Z Z Z (Qg Z Z Z Z (Qg Z Z Z Z (Qg Z Z Z Z ?_))))))
   refine Yp Z Z Z Z ?_
   refine Qg Z Z Z Z (Qa (Qx Z Z) Z (Qa (Qc Z) Z (Qg Z Z Z Z (Qg Z Z Z Z (Qg Z Z Z Z (Qg Z Z Z Z (Qg Z Z Z Z (Qg Z Z Z Z (Qg Z Z Z Z (Qg Z Z Z Z (Qg Z Z Z Z (Qg Z Z Z Z (Qg Z Z Z Z (Qg Z Z Z Z (Qa (Qx Z Z) Z (Qp ⟨Z,Z,Z,congrArg (fun b=>some (Value.bool b)) (show true = ((((!(Yw x.cap 1 4)) || (!(Yw x.credits 0 x.cap))) || (!(Yw x.back 0 x.cap))) || ((IntKind.i64.wrap ((IntKind.i64.wrap (x.credits + x.back)) + ((x.queue.length : Nat) : Int))) != x.cap)) by first | (rw [hg1] <;> rfl) | (simp [hg1];done) | (simp only [Qo] <;> simp)),trivial⟩ ⟨E,(by omega),h1⟩))))))))))))))))
  ·refine Qm Z Z (Qb Hd Z) Z (Qm Z Z (Qj Yo Z (h1.one 2 Z)) Z (Qm Z Z (Qb Uz Z) Z (Qm Z Z (Qj Yo Z (h1.one 0 Z)) Z ?_)))
   refine Xp Z Z ?_
   refine Qv Tryz.call58 Z (c_within x.credits 0 x.cap _ ) Z (fun _ w4 e3 hv=>?_)
   subst hv
   replace E:=E.trans e3;replace h1:=h1.ext e3
   have z3:=e3.size
   refine Qm Z Z (Yq Z) Z (Qa (Qy Z Z) Z (Qa (Qc Z) Z ?_))
   refine Y3 (gd:=15) Z Z (fun hg2=>?_) (fun hg2=>?_)
   ·refine Qg Z Z Z Z (Qg Z Z Z Z (Qg Z Z Z Z (Qg Z Z Z Z ?_)))
    refine Yp Z Z Z Z ?_
    refine Qg Z Z Z Z (Qa (Qx Z Z) Z (Qa (Qc Z) Z (Qg Z Z Z Z (Qg Z Z Z Z (Qg Z Z Z Z (Qg Z Z Z Z (Qg Z Z Z Z (Qg Z Z Z Z (Qg Z Z Z Z (Qg Z Z Z Z (Qg Z Z Z Z (Qg Z Z Z Z (Qg Z Z Z Z (Qg Z Z Z Z (Qa (Qx Z Z) Z (Qp ⟨Z,Z,Z,congrArg (fun b=>some (Value.bool b)) (show true = ((((!(Yw x.cap 1 4)) || (!(Yw x.credits 0 x.cap))) || (!(Yw x.back 0 x.cap))) || ((IntKind.i64.wrap ((IntKind.i64.wrap (x.credits + x.back)) + ((x.queue.length : Nat) : Int))) != x.cap)) by first | (rw [hg1,hg2] <;> rfl) | (simp [hg1,hg2];done) | (simp only [Qo] <;> simp)),trivial⟩ ⟨E,(by omega),h1⟩))))))))))))))))
   ·refine Qm Z Z (Qb Hc Z) Z (Qm Z Z (Qj Yo Z (h1.one 3 Z)) Z (Qm Z Z (Qb Uz Z) Z (Qm Z Z (Qj Yo Z (h1.one 0 Z)) Z ?_)))
    refine Xp Z Z ?_
    refine Qv Tryz.call58 Z (c_within x.back 0 x.cap _ ) Z (fun _ w5 e4 hv=>?_)
    subst hv
    replace E:=E.trans e4;replace h1:=h1.ext e4
    have z4:=e4.size
    refine Qm Z Z (Yq Z) Z (Qa (Qy Z Z) Z (Qa (Qc Z) Z ?_))
    refine Y3 (gd:=23) Z Z (fun hg3=>?_) (fun hg3=>?_)
    ·refine Qg Z Z Z Z (Qg Z Z Z Z (Qg Z Z Z Z (Qg Z Z Z Z (Qg Z Z Z Z (Qg Z Z Z Z (Qg Z Z Z Z (Qg Z Z Z Z (Qg Z Z Z Z (Qg Z Z Z Z (Qg Z Z Z Z (Qg Z Z Z Z (Qa (Qx Z Z) Z (Qp ⟨Z,Z,Z,congrArg (fun b=>some (Value.bool b)) (show true = ((((!(Yw x.cap 1 4)) || (!(Yw x.credits 0 x.cap))) || (!(Yw x.back 0 x.cap))) || ((IntKind.i64.wrap ((IntKind.i64.wrap (x.credits + x.back)) + ((x.queue.length : Nat) : Int))) != x.cap)) by first | (rw [hg1,hg2,hg3] <;> rfl) | (simp [hg1,hg2,hg3];done) | (simp only [Qo] <;> simp)),trivial⟩ ⟨E,(by omega),h1⟩)))))))))))))
    ·refine Qm Z Z (Qb Hd Z) Z (Qm Z Z (Qj Yo Z (h1.one 2 Z)) Z (Qm Z Z (Qb Hc Z) Z (Qm Z Z (Qj Yo Z (h1.one 3 Z)) Z (Qm Z Z (Q8 Z Z Z) Z (Qm Z Z (Qb Kt Z) Z (Qm Z Z (Qj Xy Z (h1.one 1 Z)) Z (Qm Z Z (Ya Tryz.underlying64 Z (hd1.ext E).len) Z (Qm Z Z (Q8 Z Z Z) Z (Qm Z Z (Qb Uz Z) Z (Qm Z Z (Qj Yo Z (h1.one 0 Z)) Z (Qm Z Z (Yu Z Z) Z (Qa (Qy Z Z) Z (Qp ⟨Z,Z,Z,congrArg (fun b=>some (Value.bool b)) (show ((IntKind.i64.wrap ((IntKind.i64.wrap (x.credits + x.back)) + ((x.queue.length : Nat) : Int))) != x.cap) = ((((!(Yw x.cap 1 4)) || (!(Yw x.credits 0 x.cap))) || (!(Yw x.back 0 x.cap))) || ((IntKind.i64.wrap ((IntKind.i64.wrap (x.credits + x.back)) + ((x.queue.length : Nat) : Int))) != x.cap)) by first | (rw [hg1,hg2,hg3] <;> rfl) | (simp [hg1,hg2,hg3];done) | (simp only [Qo] <;> simp)),trivial⟩ ⟨E,(by omega),h1⟩)))))))))))))
 clear E h1
 rintro w3 ⟨E,z5,h1⟩
 refine Qd (Qs Z (fun hc1=>?_) (fun hc1=>?_))
 ·refine Qf (Qh [true] Z Z (Qa (Qe Z) Z (Qd (Qw (Ql Z Z E ?_)))))
  exact bf fun h=>lk_i1 h hc1
 ·refine Qn (Qf (Qf (Qh [true,true,false,true,true,true,true,true,true,true,true,true,true,true,true,true,true,true,true,true] Z Z (Qa (Qb Hb Z) Z (Qa (Qj Yo Z (h1.one 4 Z)) Z (Qv Tryz.call58 Z (c_within x.sent 0 1000000000 _ ) Z (fun _ w6 e5 hv=>?_)))))))
  subst hv
  replace E:=E.trans e5;replace h1:=h1.ext e5
  have z6:=e5.size
  refine Qa (Yq Z) Z (Qa (Qc Z) Z (Y7 15 [(0,.agg [.int .i64 x.cap,o1,.int .i64 x.credits,.int .i64 x.back,.int .i64 x.sent,.int .i64 x.got].toArray),(1,.pointer (some ⟨b1,0,none⟩)),(2,.bool false),(36,.bool ((((!(Yw x.cap 1 4)) || (!(Yw x.credits 0 x.cap))) || (!(Yw x.back 0 x.cap))) || ((IntKind.i64.wrap ((IntKind.i64.wrap (x.credits + x.back)) + ((x.queue.length : Nat) : Int))) != x.cap))),(56,.bool (((!(Yw x.sent 0 1000000000)) || (decide (x.got < 0))) || ((IntKind.i64.wrap (x.sent - x.got)) != ((x.queue.length : Nat) : Int))))] (fun w'=>w6 = w') ?_ ?_))
  ·refine Y3 (gd:=41) Z Z (fun hg4=>?_) (fun hg4=>?_)
   ·refine Qg Z Z Z Z (Qg Z Z Z Z (Qg Z Z Z Z (Qa (Qx Z Z) Z (Qa (Qc Z) Z (Qg Z Z Z Z (Qg Z Z Z Z (Qg Z Z Z Z (Qg Z Z Z Z (Qg Z Z Z Z (Qg Z Z Z Z (Qg Z Z Z Z (Qg Z Z Z Z (Qg Z Z Z Z (Qa (Qx Z Z) Z (Qp ⟨Z,Z,Z,Z,congrArg (fun b=>some (Value.bool b)) (show true = (((!(Yw x.sent 0 1000000000)) || (decide (x.got < 0))) || ((IntKind.i64.wrap (x.sent - x.got)) != ((x.queue.length : Nat) : Int))) by first | (rw [hg4] <;> rfl) | (simp [hg4];done) | (simp only [Qo] <;> simp)),trivial⟩ Z)))))))))))))))
   ·refine Qm Z Z (Qb Ha Z) Z (Qm Z Z (Qj Yo Z (h1.one 5 Z)) Z (Qm Z Z (Yf Z Z) Z (Qa (Qy Z Z) Z (Qa (Qc Z) Z ?_))))
    refine Y3 (gd:=46) Z Z (fun hg5=>?_) (fun hg5=>?_)
    ·refine Qg Z Z Z Z (Qg Z Z Z Z (Qg Z Z Z Z (Qg Z Z Z Z (Qg Z Z Z Z (Qg Z Z Z Z (Qg Z Z Z Z (Qg Z Z Z Z (Qg Z Z Z Z (Qa (Qx Z Z) Z (Qp ⟨Z,Z,Z,Z,congrArg (fun b=>some (Value.bool b)) (show true = (((!(Yw x.sent 0 1000000000)) || (decide (x.got < 0))) || ((IntKind.i64.wrap (x.sent - x.got)) != ((x.queue.length : Nat) : Int))) by first | (rw [hg4,hg5] <;> rfl) | (simp [hg4,hg5];done) | (simp only [Qo] <;> simp)),trivial⟩ Z))))))))))
    ·refine Qm Z Z (Qb Hb Z) Z (Qm Z Z (Qj Yo Z (h1.one 4 Z)) Z (Qm Z Z (Qb Ha Z) Z (Qm Z Z (Qj Yo Z (h1.one 5 Z)) Z (Qm Z Z (Uu Z Z Z) Z (Qm Z Z (Qb Kt Z) Z (Qm Z Z (Qj Xy Z (h1.one 1 Z)) Z (Qm Z Z (Ya Tryz.underlying64 Z (hd1.ext E).len) Z (Qm Z Z (Yu Z Z) Z (Qa (Qy Z Z) Z (Qp ⟨Z,Z,Z,Z,congrArg (fun b=>some (Value.bool b)) (show ((IntKind.i64.wrap (x.sent - x.got)) != ((x.queue.length : Nat) : Int)) = (((!(Yw x.sent 0 1000000000)) || (decide (x.got < 0))) || ((IntKind.i64.wrap (x.sent - x.got)) != ((x.queue.length : Nat) : Int))) by first | (rw [hg4,hg5] <;> rfl) | (simp [hg4,hg5];done) | (simp only [Qo] <;> simp)),trivial⟩ Z))))))))))
  rintro _ rfl
  refine Qd (Qs Z (fun hc2=>?_) (fun hc2=>?_))
  ·refine Qf (Qh [true] Z Z (Qa (Qe Z) Z (Qd (Qw (Ql Z Z E ?_)))))
   exact bf fun h=>lk_i2 hr h hc2
  ·refine Qn (Qf (Qh [true,true,false,true] Z Z (Qa (Qb Kt Z) Z (Qa (Qj Xy Z (h1.one 1 Z)) Z (Qv Tryz.call135 Z (c_allRecordsOk o1 x.queue _ (hd1.rd.ext E)) Z (fun _ w8 e6 hv=>?_))))))
   subst hv
   replace E:=E.trans e6;replace h1:=h1.ext e6
   have z7:=e6.size
   refine Qa (Qe Z) Z (Qd (Qw (Ql Z Z E ?_)))
   exact congrArg Value.bool (lk_i3 hr hc1 hc2).symm

set_option maxRecDepth 20000 in
theorem s_LinkOk (cx : List Value) (x : Link) (w : World) (hx : Dat.R w 0 w.heap.size cx x) : Ct Tryz.prog 91 [.agg cx.toArray] w (fun v _=>v = .bool (X9 x)):=by
 refine Yh Tryz.func91 Z Tryz.ntmps91 Z ?_
 obtain ⟨o1,rfl,hd1⟩:=Link.op hx
 refine Q7 [(0,.agg [.int .i64 x.cap,o1,.int .i64 x.credits,.int .i64 x.back,.int .i64 x.sent,.int .i64 x.got].toArray)] ⟨Z,trivial⟩ ?_
 have E : Ext w w:=Ext.refl w
 refine Qf (Qh [false,true] Z Z (Y1 Z Z (fun b1 w1 e1 s1 h1=>?_)))
 have g_b1 : w.heap.size ≤ b1:=by have:=E.size;omega
 have y_b1:=h1.lt
 replace E:=E.trans e1
 have z1:=e1.size
 refine Qa (Qe Z) Z (Qd (Qf (Qf (Qh [true] Z Z (Qa (Qe Z) Z (Qd (Q0 (Ym (fun (k : Nat)=>[(1,.pointer (some ⟨b1,0,none⟩)),(2,.bool false),(3,.int .i64 ((k : Nat) : Int))]) (fun (k : Nat) w'=>Ext w w' ∧ w1.heap.size ≤ w'.heap.size ∧ Blk w' b1 ([.int .i64 x.cap,o1,.int .i64 x.credits,.int .i64 x.back,.int .i64 x.sent,.int .i64 x.got]) ∧ k ≤ x.queue.length ∧ (x.queue.take k).all Yx = true) (fun (k : Nat)=>x.queue.length - k) 0 ⟨Z,Z,Z,trivial⟩ ⟨E,Nat.le_refl _,h1,Nat.zero_le _,Z⟩ ?_))))))))
 clear E h1
 rintro k w2 ⟨E,z2,h1,hk,hI⟩
 refine Qf (Qf (Qh [true,true,true,true,true] Z Z (Qa (Qc Z) Z (Qa (Qb Kt Z) Z (Qa (Qj Xy Z (h1.one 1 Z)) Z (Qa (Ya Tryz.underlying64 Z (hd1.ext E).len) Z (Qa (Yf Z Z) Z (Qd (Qs Z (fun hc1=>?_) (fun hc1=>?_))))))))))
 ·have hc1n : k < x.queue.length:=by first | (have h:=of_decide_eq_true hc1;omega) | (have h:=hc1;simp at h;omega)
  refine Qn (Qf (Q0 (Qf (Qh [true,true,true,true,true,false,true] Z Z (Qa (Qb Kt Z) Z (Qa (Qj Xy Z (h1.one 1 Z)) Z (Qa (Qc Z) Z ?_)))))))
  have hi1 : k < x.queue.length:=(by first | assumption | omega | (simp only [List.length_set];first | assumption | omega))
  refine Qa (Q1 (i:=k) Kn Z Z (hd1.rd.ext E) hi1) Z (Qa (Qt Va Z ((hd1.rd.ext E).get hi1) Z) Z (Qv Tryz.call95 Z (s_RecordOk (x.queue[k]'hi1) _ ) Z (fun _ w3 e2 hv=>?_)))
  subst hv
  replace E:=E.trans e2;replace h1:=h1.ext e2
  have z3:=e2.size
  refine Qa (Yq Z) Z (Qd (Qs Z (fun hc2=>?_) (fun hc2=>?_)))
  ·refine Qf (Qh [true] Z Z (Qa (Qe Z) Z (Qd (Qw (Q2 (Y0 (Q2 (Ql Z Z E ?_))))))))
   exact bf fun h=>lk_s1 (by assumption) h hc2
  ·refine Qn (Q4 (Yr (Qh [true,true,true] Z Z (Qa (Qc Z) Z (Qa (Q8 Z Z (Yt hc1n (hd1.ext E).1.1)) Z (Qa (Qe Z) Z (Qd (Q4 (Yc (k + 1) (by omega) ⟨Z,Z,Z,trivial⟩ ⟨E,(by omega),h1,(by omega),Kf hI (by assumption) (by simpa using hc2)⟩)))))))))
 ·have hc1n : ¬ k < x.queue.length:=by first | (have h:=of_decide_eq_false hc1;omega) | (have h:=hc1;simp at h;omega)
  refine Yn (Q5 (Q3 ?_))
  refine Qf (Qh [true,true,false,true,true,true,true,true,false,true,true,true,true,true,true,false,true,true,true,true,true,true,true,true,true,true,true,true,true,true,true,true,true,true,false,true,true,true,true,true,true,true,true,true,true,true,true,true,true,true,true,true,true] Z Z (Qa (Qb Uz Z) Z (Qa (Qj Yo Z (h1.one 0 Z)) Z (Qv Tryz.call93 Z (s_l01In x.cap 1 4 _ ) Z (fun _ w4 e3 hv=>?_)))))
  subst hv
  replace E:=E.trans e3;replace h1:=h1.ext e3
  have z4:=e3.size
  refine Qa (Qc Z) Z (Y7 48 [(1,.pointer (some ⟨b1,0,none⟩)),(2,.bool false),(3,.int .i64 ((k : Nat) : Int)),(4,.int .i64 ((k : Nat) : Int)),(5,.pointer (some ⟨b1,1,none⟩)),(6,o1),(7,.int .i64 ((x.queue.length : Nat) : Int)),(8,.bool (decide (((k : Nat) : Int) < ((x.queue.length : Nat) : Int)))),(69,.bool (((((((Yw x.cap 1 4) && (Yw x.credits 0 x.cap)) && (Yw x.back 0 x.cap)) && ((IntKind.i64.wrap ((IntKind.i64.wrap (x.credits + x.back)) + ((x.queue.length : Nat) : Int))) == x.cap)) && (Yw x.sent 0 1000000000)) && (x.got == (IntKind.i64.wrap (x.sent - ((x.queue.length : Nat) : Int))))) && (decide (0 ≤ x.got))))] (fun w'=>Ext w w' ∧ w4.heap.size ≤ w'.heap.size ∧ Blk w' b1 ([.int .i64 x.cap,o1,.int .i64 x.credits,.int .i64 x.back,.int .i64 x.sent,.int .i64 x.got])) ?_ ?_)
  ·refine Y3 (gd:=21) Z Z (fun hg1=>?_) (fun hg1=>?_)
   ·refine Qm Z Z (Qb Hd Z) Z (Qm Z Z (Qj Yo Z (h1.one 2 Z)) Z (Qm Z Z (Qb Uz Z) Z (Qm Z Z (Qj Yo Z (h1.one 0 Z)) Z ?_)))
    refine Xp Z Z ?_
    refine Qv Tryz.call93 Z (s_l01In x.credits 0 x.cap _ ) Z (fun _ w6 e4 hv=>?_)
    subst hv
    replace E:=E.trans e4;replace h1:=h1.ext e4
    have z5:=e4.size
    refine Qa (Qx Z Z) Z (Qa (Qc Z) Z (Y3 (gd:=28) Z Z (fun hg2=>?_) (fun hg2=>?_)))
    ·refine Qm Z Z (Qb Hc Z) Z (Qm Z Z (Qj Yo Z (h1.one 3 Z)) Z (Qm Z Z (Qb Uz Z) Z (Qm Z Z (Qj Yo Z (h1.one 0 Z)) Z ?_)))
     refine Xp Z Z ?_
     refine Qv Tryz.call93 Z (s_l01In x.back 0 x.cap _ ) Z (fun _ w7 e5 hv=>?_)
     subst hv
     replace E:=E.trans e5;replace h1:=h1.ext e5
     have z6:=e5.size
     refine Qa (Qx Z Z) Z (Qa (Qc Z) Z (Y3 (gd:=35) Z Z (fun hg3=>?_) (fun hg3=>?_)))
     ·refine Qm Z Z (Qb Hd Z) Z (Qm Z Z (Qj Yo Z (h1.one 2 Z)) Z (Qm Z Z (Qb Hc Z) Z (Qm Z Z (Qj Yo Z (h1.one 3 Z)) Z (Qm Z Z (Q8 Z Z Z) Z (Qm Z Z (Qb Kt Z) Z (Qm Z Z (Qj Xy Z (h1.one 1 Z)) Z (Qm Z Z (Ya Tryz.underlying64 Z (hd1.ext E).len) Z (Qm Z Z (Q8 Z Z Z) Z (Qm Z Z (Qb Uz Z) Z (Qm Z Z (Qj Yo Z (h1.one 0 Z)) Z (Qm Z Z (Y6 Z Z) Z (Qa (Qx Z Z) Z (Qa (Qc Z) Z ?_)))))))))))))
      refine Y3 (gd:=49) Z Z (fun hg4=>?_) (fun hg4=>?_)
      ·refine Qm Z Z (Qb Hb Z) Z (Qm Z Z (Qj Yo Z (h1.one 4 Z)) Z ?_)
       refine Xp Z Z ?_
       refine Qv Tryz.call93 Z (s_l01In x.sent 0 1000000000 _ ) Z (fun _ w8 e6 hv=>?_)
       subst hv
       replace E:=E.trans e6;replace h1:=h1.ext e6
       have z7:=e6.size
       refine Qa (Qx Z Z) Z (Qa (Qc Z) Z (Y3 (gd:=54) Z Z (fun hg5=>?_) (fun hg5=>?_)))
       ·refine Qm Z Z (Qb Ha Z) Z (Qm Z Z (Qj Yo Z (h1.one 5 Z)) Z (Qm Z Z (Qb Hb Z) Z (Qm Z Z (Qj Yo Z (h1.one 4 Z)) Z (Qm Z Z (Qb Kt Z) Z (Qm Z Z (Qj Xy Z (h1.one 1 Z)) Z (Qm Z Z (Ya Tryz.underlying64 Z (hd1.ext E).len) Z (Qm Z Z (Uu Z Z Z) Z (Qm Z Z (Y6 Z Z) Z (Qa (Qx Z Z) Z (Qa (Qc Z) Z ?_))))))))))
        refine Y3 (gd:=65) Z Z (fun hg6=>?_) (fun hg6=>?_)
        ·refine Qm Z Z (Qb Ha Z) Z (Qm Z Z (Qj Yo Z (h1.one 5 Z)) Z (Qm Z Z (T0 Z Z) Z (Qa (Qx Z Z) Z (Qp ⟨Z,Z,Z,Z,Z,Z,Z,Z,congrArg (fun b=>some (Value.bool b)) (show (decide (0 ≤ x.got)) = (((((((Yw x.cap 1 4) && (Yw x.credits 0 x.cap)) && (Yw x.back 0 x.cap)) && ((IntKind.i64.wrap ((IntKind.i64.wrap (x.credits + x.back)) + ((x.queue.length : Nat) : Int))) == x.cap)) && (Yw x.sent 0 1000000000)) && (x.got == (IntKind.i64.wrap (x.sent - ((x.queue.length : Nat) : Int))))) && (decide (0 ≤ x.got))) by first | (rw [hg1,hg2,hg3,hg4,hg5,hg6] <;> rfl) | (simp [hg1,hg2,hg3,hg4,hg5,hg6];done) | (simp only [Qo] <;> simp)),trivial⟩ ⟨E,(by omega),h1⟩))))
        ·refine Qg Z Z Z Z (Qg Z Z Z Z (Qg Z Z Z Z (Qa (Qy Z Z) Z (Qp ⟨Z,Z,Z,Z,Z,Z,Z,Z,congrArg (fun b=>some (Value.bool b)) (show false = (((((((Yw x.cap 1 4) && (Yw x.credits 0 x.cap)) && (Yw x.back 0 x.cap)) && ((IntKind.i64.wrap ((IntKind.i64.wrap (x.credits + x.back)) + ((x.queue.length : Nat) : Int))) == x.cap)) && (Yw x.sent 0 1000000000)) && (x.got == (IntKind.i64.wrap (x.sent - ((x.queue.length : Nat) : Int))))) && (decide (0 ≤ x.got))) by first | (rw [hg1,hg2,hg3,hg4,hg5,hg6] <;> rfl) | (simp [hg1,hg2,hg3,hg4,hg5,hg6];done) | (simp only [Qo] <;> simp)),trivial⟩ ⟨E,(by omega),h1⟩))))
       ·refine Qg Z Z Z Z (Qg Z Z Z Z (Qg Z Z Z Z (Qg Z Z Z Z (Qg Z Z Z Z (Qg Z Z Z Z (Qg Z Z Z Z (Qg Z Z Z Z (Qg Z Z Z Z (Qa (Qy Z Z) Z (Qa (Qc Z) Z (Qg Z Z Z Z (Qg Z Z Z Z (Qg Z Z Z Z (Qa (Qy Z Z) Z (Qp ⟨Z,Z,Z,Z,Z,Z,Z,Z,congrArg (fun b=>some (Value.bool b)) (show false = (((((((Yw x.cap 1 4) && (Yw x.credits 0 x.cap)) && (Yw x.back 0 x.cap)) && ((IntKind.i64.wrap ((IntKind.i64.wrap (x.credits + x.back)) + ((x.queue.length : Nat) : Int))) == x.cap)) && (Yw x.sent 0 1000000000)) && (x.got == (IntKind.i64.wrap (x.sent - ((x.queue.length : Nat) : Int))))) && (decide (0 ≤ x.got))) by first | (rw [hg1,hg2,hg3,hg4,hg5] <;> rfl) | (simp [hg1,hg2,hg3,hg4,hg5];done) | (simp only [Qo] <;> simp)),trivial⟩ ⟨E,(by omega),h1⟩)))))))))))))))
      ·refine Qg Z Z Z Z (Qg Z Z Z Z ?_)
       refine Yp Z Z Z Z ?_
       refine Qa (Qy Z Z) Z (Qa (Qc Z) Z (Qg Z Z Z Z (Qg Z Z Z Z (Qg Z Z Z Z (Qg Z Z Z Z (Qg Z Z Z Z (Qg Z Z Z Z (Qg Z Z Z Z (Qg Z Z Z Z (Qg Z Z Z Z (Qa (Qy Z Z) Z (Qa (Qc Z) Z (Qg Z Z Z Z (Qg Z Z Z Z (Qg Z Z Z Z (Qa (Qy Z Z) Z (Qp ⟨Z,Z,Z,Z,Z,Z,Z,Z,congrArg (fun b=>some (Value.bool b)) (show false = (((((((Yw x.cap 1 4) && (Yw x.credits 0 x.cap)) && (Yw x.back 0 x.cap)) && ((IntKind.i64.wrap ((IntKind.i64.wrap (x.credits + x.back)) + ((x.queue.length : Nat) : Int))) == x.cap)) && (Yw x.sent 0 1000000000)) && (x.got == (IntKind.i64.wrap (x.sent - ((x.queue.length : Nat) : Int))))) && (decide (0 ≤ x.got))) by first | (rw [hg1,hg2,hg3,hg4] <;> rfl) | (simp [hg1,hg2,hg3,hg4];done) | (simp only [Qo] <;> simp)),trivial⟩ ⟨E,(by omega),h1⟩)))))))))))))))))
     ·refine Qg Z Z Z Z (Qg Z Z Z Z (Qg Z Z Z Z (Qg Z Z Z Z (Qg Z Z Z Z (Qg Z Z Z Z (Qg Z Z Z Z (Qg Z Z Z Z (Qg Z Z Z Z (Qg Z Z Z Z (Qg Z Z Z Z (Qg Z Z Z Z (Qa (Qy Z Z) Z (Qa (Qc Z) Z (Qg Z Z Z Z (Qg Z Z Z Z ?_)))))))))))))))
      refine Yp Z Z Z Z ?_
      refine Qa (Qy Z Z) Z (Qa (Qc Z) Z (Qg Z Z Z Z (Qg Z Z Z Z (Qg Z Z Z Z (Qg Z Z Z Z (Qg Z Z Z Z (Qg Z Z Z Z (Qg Z Z Z Z (Qg Z Z Z Z (Qg Z Z Z Z (Qa (Qy Z Z) Z (Qa (Qc Z) Z (Qg Z Z Z Z (Qg Z Z Z Z (Qg Z Z Z Z (Qa (Qy Z Z) Z (Qp ⟨Z,Z,Z,Z,Z,Z,Z,Z,congrArg (fun b=>some (Value.bool b)) (show false = (((((((Yw x.cap 1 4) && (Yw x.credits 0 x.cap)) && (Yw x.back 0 x.cap)) && ((IntKind.i64.wrap ((IntKind.i64.wrap (x.credits + x.back)) + ((x.queue.length : Nat) : Int))) == x.cap)) && (Yw x.sent 0 1000000000)) && (x.got == (IntKind.i64.wrap (x.sent - ((x.queue.length : Nat) : Int))))) && (decide (0 ≤ x.got))) by first | (rw [hg1,hg2,hg3] <;> rfl) | (simp [hg1,hg2,hg3];done) | (simp only [Qo] <;> simp)),trivial⟩ ⟨E,(by omega),h1⟩)))))))))))))))))
    ·refine Qg Z Z Z Z (Qg Z Z Z Z (Qg Z Z Z Z (Qg Z Z Z Z ?_)))
     refine Yp Z Z Z Z ?_
     refine Qa (Qy Z Z) Z (Qa (Qc Z) Z (Qg Z Z Z Z (Qg Z Z Z Z (Qg Z Z Z Z (Qg Z Z Z Z (Qg Z Z Z Z (Qg Z Z Z Z (Qg Z Z Z Z (Qg Z Z Z Z (Qg Z Z Z Z (Qg Z Z Z Z (Qg Z Z Z Z (Qg Z Z Z Z (Qa (Qy Z Z) Z (Qa (Qc Z) Z (Qg Z Z Z Z (Qg Z Z Z Z (Yp Z Z Z Z (Qa (Qy Z Z) Z (Qa (Qc Z) Z (Qg Z Z Z Z (Qg Z Z Z Z (Qg Z Z Z Z (Qg Z Z Z Z (Qg Z Z Z Z (Qg Z Z Z Z (Qg Z Z Z Z (Qg Z Z Z Z (Qg Z Z Z Z (Qa (Qy Z Z) Z (Qa (Qc Z) Z (Qg Z Z Z Z (Qg Z Z Z Z (Qg Z Z Z Z (Qa (Qy Z Z) Z (Qp ⟨Z,Z,Z,Z,Z,Z,Z,Z,congrArg (fun b=>some (Value.bool b)) (show false = (((((((Yw x.cap 1 4) && (Yw x.credits 0 x.cap)) && (Yw x.back 0 x.cap)) && ((IntKind.i64.wrap ((IntKind.i64.wrap (x.credits + x.back)) + ((x.queue.length : Nat) : Int))) == x.cap)) && (Yw x.sent 0 1000000000)) && (x.got == (IntKind.i64.wrap (x.sent - ((x.queue.length : Nat) : Int))))) && (decide (0 ≤ x.got))) by first | (rw [hg1,hg2] <;> rfl) | (simp [hg1,hg2];done) | (simp only [Qo] <;> simp)),trivial⟩ ⟨E,(by omega),h1⟩))))))))))))))))))))))))))))))))))))
   ·refine Qg Z Z Z Z (Qg Z Z Z Z (Qg Z Z Z Z (Qg Z Z Z Z ?_)))
    refine Yp Z Z Z Z ?_
    refine Qa (Qy Z Z) Z (Qa (Qc Z) Z (Qg Z Z Z Z (Qg Z Z Z Z (Qg Z Z Z Z (Qg Z Z Z Z (Yp Z Z Z Z (Qa (Qy Z Z) Z (Qa (Qc Z) Z (Qg Z Z Z Z (Qg Z Z Z Z (Qg Z Z Z Z (Qg Z Z Z Z (Qg Z Z Z Z (Qg Z Z Z Z (Qg Z Z Z Z (Qg Z Z Z Z (Qg Z Z Z Z (Qg Z Z Z Z (Qg Z Z Z Z (Qg Z Z Z Z (Qa (Qy Z Z) Z (Qa (Qc Z) Z (Qg Z Z Z Z (Qg Z Z Z Z (Yp Z Z Z Z (Qa (Qy Z Z) Z (Qa (Qc Z) Z (Qg Z Z Z Z (Qg Z Z Z Z (Qg Z Z Z Z (Qg Z Z Z Z (Qg Z Z Z Z (Qg Z Z Z Z (Qg Z Z Z Z (Qg Z Z Z Z (Qg Z Z Z Z (Qa (Qy Z Z) Z (Qa (Qc Z) Z (Qg Z Z Z Z (Qg Z Z Z Z (Qg Z Z Z Z (Qa (Qy Z Z) Z (Qp ⟨Z,Z,Z,Z,Z,Z,Z,Z,congrArg (fun b=>some (Value.bool b)) (show false = (((((((Yw x.cap 1 4) && (Yw x.credits 0 x.cap)) && (Yw x.back 0 x.cap)) && ((IntKind.i64.wrap ((IntKind.i64.wrap (x.credits + x.back)) + ((x.queue.length : Nat) : Int))) == x.cap)) && (Yw x.sent 0 1000000000)) && (x.got == (IntKind.i64.wrap (x.sent - ((x.queue.length : Nat) : Int))))) && (decide (0 ≤ x.got))) by first | (rw [hg1] <;> rfl) | (simp [hg1];done) | (simp only [Qo] <;> simp)),trivial⟩ ⟨E,(by omega),h1⟩)))))))))))))))))))))))))))))))))))))))))))
  clear E h1
  rintro w5 ⟨E,z8,h1⟩
  refine Qa (Qe Z) Z (Qd (Qw (Ql Z Z E ?_)))
  exact congrArg Value.bool (lk_s2 hd1.1.1 (He hI (by omega))).symm

end Go.Proofs.YtaangeddnfnhdaaGreat
