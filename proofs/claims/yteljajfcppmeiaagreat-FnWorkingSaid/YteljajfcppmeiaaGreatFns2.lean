/- What the functions that the laws call come to: a contract each; no condition. -/
import Derived.Test.YteljajfcppmeiaaGreatFns
namespace Go.Proofs.YteljajfcppmeiaaGreat
open Go Go.Proofs.YteljajfcppmeiaaGreat.X Go.Proofs
set_option maxHeartbeats 4000000 in
set_option maxRecDepth 20000 in
theorem c_WorkerOk (cg : List Value) (g : Graph) (cx : List Value) (x : Worker) (w : World) (hg : Dat.R w 0 w.heap.size cg g) (hx : Dat.R w 0 w.heap.size cx x) : Ct Tryz.prog 29 [.agg cg.toArray,.agg cx.toArray] w (fun v _=>v = .bool (Yc g x)):=by
 refine Yx Tryz.func29 Z Tryz.ntmps29 Z ?_
 obtain ⟨o1,rfl,hd1⟩:=Graph.op hg
 obtain ⟨o2,o3,o4,o5,o6,o7,o8,o9,rfl,hd2,hd3,hd4,hd5,hd6,hd7,hd8,hd9⟩:=Worker.op hx
 refine Yh [(0,.agg [o1,.int .i64 g.workers,.int .i64 g.cap].toArray),(1,.agg [o2,o3,o4,o5,o6,o7,o8,o9].toArray)] ⟨Z,Z,trivial⟩ ?_
 have E : Ext w w:=Ext.refl w
 refine Qh (Qi [false,false,true] Z Z (Y5 Z Z (fun b1 w1 e1 s1 h1=>?_)))
 have g_b1 : w.heap.size ≤ b1:=by have:=E.size;omega
 have y_b1:=h1.lt
 replace E:=E.trans e1
 have z1:=e1.size
 refine Y5 Z Z (fun b2 w2 e2 s2 h2=>?_)
 have g_b2 : w.heap.size ≤ b2:=by have:=E.size;omega
 have y_b2:=h2.lt
 replace E:=E.trans e2;replace h1:=h1.ext e2
 have z2:=e2.size
 refine Qa (Qg Z) Z (Qf (Qh (Qh (Qi [true,true,true,false,true,true,true,true,true,false,true,true,true,true,true,true,false,true,true,true,true,true,false,true,true] Z Z (Qa (Qo Xt Z h1.at Z) Z (Qa (Qd Xj Z) Z (Qa (Qj Xi Z (h2.one 0 Z)) Z (Qv Tryz.call54 Z (c_opsOk [o1,.int .i64 g.workers,.int .i64 g.cap] g o2 x.queue _ (Graph.mkR g (RdD.any (hd1.ext E))) (hd2.rd.ext E)) Z (fun _ w3 e3 hv=>?_)))))))))
 subst hv
 replace E:=E.trans e3;replace h1:=h1.ext e3;replace h2:=h2.ext e3
 have z3:=e3.size
 refine Qa (Y1 Z) Z (Qa (Qe Z) Z (Xg 19 [(0,.agg [o1,.int .i64 g.workers,.int .i64 g.cap].toArray),(1,.agg [o2,o3,o4,o5,o6,o7,o8,o9].toArray),(2,.pointer (some ⟨b1,0,none⟩)),(3,.pointer (some ⟨b2,0,none⟩)),(4,.bool false),(35,.bool ((((!(x.queue.all (X6 g))) || (!(x.staged.all (X6 g)))) || (!(x.inputs.all (X6 g)))) || (!((Gg x.cells).all Xm))))] (fun w'=>Ext w w' ∧ w3.heap.size ≤ w'.heap.size ∧ Blk w' b1 ([o1,.int .i64 g.workers,.int .i64 g.cap]) ∧ Blk w' b2 ([o2,o3,o4,o5,o6,o7,o8,o9])) ?_ ?_))
 ·refine Ym (gd:=16) Z Z (fun hg1=>?_) (fun hg1=>?_)
  ·refine Qc Z Z Z Z (Qc Z Z Z Z (Qc Z Z Z Z ?_))
   refine Q1 Z Z Z Z ?_
   refine Qc Z Z Z Z (Qa (Qr Z Z) Z (Qa (Qe Z) Z (Qc Z Z Z Z (Qc Z Z Z Z (Qc Z Z Z Z ?_)))))
   refine Q1 Z Z Z Z ?_
   refine Qc Z Z Z Z (Qa (Qr Z Z) Z (Qa (Qe Z) Z (Qc Z Z Z Z (Qc Z Z Z Z ?_))))
   refine Q1 Z Z Z Z ?_
   refine Qc Z Z Z Z (Qa (Qr Z Z) Z (Ql ⟨Z,Z,Z,Z,Z,congrArg (fun b=>some (Value.bool b)) (show true = ((((!(x.queue.all (X6 g))) || (!(x.staged.all (X6 g)))) || (!(x.inputs.all (X6 g)))) || (!((Gg x.cells).all Xm))) by first | (rw [hg1] <;> rfl) | (simp [hg1];done) | (simp only [Qp] <;> simp)),trivial⟩ ⟨E,(by omega),h1,h2⟩))
  ·refine Qk Z Z (Qo Xt Z h1.at Z) Z (Qk Z Z (Qd K7 Z) Z (Qk Z Z (Qj Xi Z (h2.one 1 Z)) Z ?_))
   refine Y3 Z Z ?_
   refine Qv Tryz.call54 Z (c_opsOk [o1,.int .i64 g.workers,.int .i64 g.cap] g o3 x.staged _ (Graph.mkR g (RdD.any (hd1.ext E))) (hd3.rd.ext E)) Z (fun _ w5 e4 hv=>?_)
   subst hv
   replace E:=E.trans e4;replace h1:=h1.ext e4;replace h2:=h2.ext e4
   have z4:=e4.size
   refine Qk Z Z (Y1 Z) Z (Qa (Qq Z Z) Z (Qa (Qe Z) Z ?_))
   refine Ym (gd:=23) Z Z (fun hg2=>?_) (fun hg2=>?_)
   ·refine Qc Z Z Z Z (Qc Z Z Z Z (Qc Z Z Z Z ?_))
    refine Q1 Z Z Z Z ?_
    refine Qc Z Z Z Z (Qa (Qr Z Z) Z (Qa (Qe Z) Z (Qc Z Z Z Z (Qc Z Z Z Z ?_))))
    refine Q1 Z Z Z Z ?_
    refine Qc Z Z Z Z (Qa (Qr Z Z) Z (Ql ⟨Z,Z,Z,Z,Z,congrArg (fun b=>some (Value.bool b)) (show true = ((((!(x.queue.all (X6 g))) || (!(x.staged.all (X6 g)))) || (!(x.inputs.all (X6 g)))) || (!((Gg x.cells).all Xm))) by first | (rw [hg1,hg2] <;> rfl) | (simp [hg1,hg2];done) | (simp only [Qp] <;> simp)),trivial⟩ ⟨E,(by omega),h1,h2⟩))
   ·refine Qk Z Z (Qo Xt Z h1.at Z) Z (Qk Z Z (Qd Kc Z) Z (Qk Z Z (Qj Xi Z (h2.one 2 Z)) Z ?_))
    refine Y3 Z Z ?_
    refine Qv Tryz.call54 Z (c_opsOk [o1,.int .i64 g.workers,.int .i64 g.cap] g o4 x.inputs _ (Graph.mkR g (RdD.any (hd1.ext E))) (hd4.rd.ext E)) Z (fun _ w6 e5 hv=>?_)
    subst hv
    replace E:=E.trans e5;replace h1:=h1.ext e5;replace h2:=h2.ext e5
    have z5:=e5.size
    refine Qk Z Z (Y1 Z) Z (Qa (Qq Z Z) Z (Qa (Qe Z) Z ?_))
    refine Ym (gd:=30) Z Z (fun hg3=>?_) (fun hg3=>?_)
    ·refine Qc Z Z Z Z (Qc Z Z Z Z ?_)
     refine Q1 Z Z Z Z ?_
     refine Qc Z Z Z Z (Qa (Qr Z Z) Z (Ql ⟨Z,Z,Z,Z,Z,congrArg (fun b=>some (Value.bool b)) (show true = ((((!(x.queue.all (X6 g))) || (!(x.staged.all (X6 g)))) || (!(x.inputs.all (X6 g)))) || (!((Gg x.cells).all Xm))) by first | (rw [hg1,hg2,hg3] <;> rfl) | (simp [hg1,hg2,hg3];done) | (simp only [Qp] <;> simp)),trivial⟩ ⟨E,(by omega),h1,h2⟩))
    ·refine Qk Z Z (Qd Vx Z) Z (Qk Z Z (Qj Cd Z (h2.one 3 Z)) Z ?_)
     refine Y3 Z Z ?_
     refine Qv Tryz.call55 Z (c_CellsOk o5 x.cells _ (hd5.rd.ext E)) Z (fun _ w7 e6 hv=>?_)
     subst hv
     replace E:=E.trans e6;replace h1:=h1.ext e6;replace h2:=h2.ext e6
     have z6:=e6.size
     refine Qk Z Z (Y1 Z) Z (Qa (Qq Z Z) Z (Ql ⟨Z,Z,Z,Z,Z,congrArg (fun b=>some (Value.bool b)) (show (!((Gg x.cells).all Xm)) = ((((!(x.queue.all (X6 g))) || (!(x.staged.all (X6 g)))) || (!(x.inputs.all (X6 g)))) || (!((Gg x.cells).all Xm))) by first | (rw [hg1,hg2,hg3] <;> rfl) | (simp [hg1,hg2,hg3];done) | (simp only [Qp] <;> simp)),trivial⟩ ⟨E,(by omega),h1,h2⟩))
 clear E h1 h2
 rintro w4 ⟨E,z7,h1,h2⟩
 refine Qf (Qw Z (fun hc1=>?_) (fun hc1=>?_))
 ·refine Qh (Qi [true] Z Z (Qa (Qg Z) Z (Qf (Qx (Q0 Z Z E ?_)))))
  exact bf fun h=>by simp only [Yc,Bool.and_eq_true] at h;obtain ⟨⟨⟨⟨⟨⟨⟨⟨⟨q1,q2⟩,q3⟩,q4⟩,q5⟩,q6⟩,q7⟩,q8⟩,q9⟩,q10⟩:=h;simp only [q1,q2,q3,q4] at hc1;simp at hc1
 ·refine Qy (Qh (Qh (Qi [true,true,true,true] Z Z (Qa (Qd Kc Z) Z (Qa (Qj Xi Z (h2.one 2 Z)) Z (Qa (Yg Tryz.underlying27 Z (hd4.ext E).len) Z (Qa (Qe Z) Z (Qf (Q9 (Xk (fun (k : Nat)=>[(3,.pointer (some ⟨b2,0,none⟩)),(4,.bool false),(37,o4),(38,.int .i64 ((x.inputs.length : Nat) : Int)),(39,.int .i64 ((k : Nat) : Int))]) (fun (k : Nat) w'=>Ext w w' ∧ w4.heap.size ≤ w'.heap.size ∧ Blk w' b1 ([o1,.int .i64 g.workers,.int .i64 g.cap]) ∧ Blk w' b2 ([o2,o3,o4,o5,o6,o7,o8,o9]) ∧ k ≤ x.inputs.length ∧ G4 k (fun j=>inAt x.inputs j) = true) (fun (k : Nat)=>x.inputs.length - k) 0 ⟨Z,Z,Z,Z,Z,trivial⟩ ⟨E,Nat.le_refl _,h1,h2,Nat.zero_le _,Z⟩ ?_))))))))))
  clear E h1 h2
  rintro k w8 ⟨E,z8,h1,h2,hk,hI1⟩
  have hmi:=hd4.1.1
  unfold maxLen at hmi
  refine Qh (Qi [true] Z Z (Qa (Xn Z Z) Z (Qf (Qh (Qw Z (fun hc2=>?_) (fun hc2=>?_))))))
  ·have hc2n : k < x.inputs.length:=by first | (have h:=of_decide_eq_true hc2;omega) | (have h:=hc2;simp at h;omega)
   refine Qy (Qh (Q9 (Qh (Qi [true,true,true,false,true,false] Z Z (Qa (Qe Z) Z ?_)))))
   have hi1 : k < x.inputs.length:=(by first | assumption | omega | (simp only [List.length_set];first | assumption | omega) | (simp only [List.getElem_set_self,List.length_set];first | assumption | omega) | (simp only [Xc,Yp,List.length_set];first | assumption | omega) | (simp;done))
   refine Qa (Ye (i:=k) X3 Z Z (hd4.rd.ext E) hi1) Z (Qa (Qo Xh Z ((hd4.rd.ext E).get hi1) Z) Z (Q6 Xh Z (fun b3 w9 e7 s3 h3=>?_)))
   have g_b3 : w.heap.size ≤ b3:=by have:=E.size;omega
   have y_b3:=h3.lt
   replace E:=E.trans e7;replace h1:=h1.ext e7;replace h2:=h2.ext e7
   have z9:=e7.size
   refine Qa (Qg Z) Z (Qs (cs':=[.int .i64 ((x.inputs[k]'hi1).op),.int .i64 (((x.inputs[k]'hi1).stamp).epoch),.int .i64 (((x.inputs[k]'hi1).stamp).turn),.int .i64 ((x.inputs[k]'hi1).key),.int .i64 ((x.inputs[k]'hi1).val)]) Xh Z Z Z Z h3 (Nat.le_of_ble_eq_true Z) Z (fun w10 m1 h3'=>?_))
   replace h3:=h3'
   replace E:=E.step m1 (fun g hg=>by cases hg;omega);replace h1:=h1.mod m1 (fun g hg=>by cases hg;omega);replace h2:=h2.mod m1 (fun g hg=>by cases hg;omega)
   have z10:=m1.size
   refine Qf (Qh (Xu Xo [(0,true),(1,true),(2,true),(3,true),(4,true),(5,true),(6,true),(7,true),(8,true),(9,true),(10,true),(11,true),(12,true),(13,true),(14,true),(15,true),(16,true),(17,true),(18,true),(19,true),(20,true),(21,true),(22,true),(23,true),(24,true),(25,true),(26,true)] (by decide +kernel) Z (fun w11 e8=>?_)))
   replace E:=E.trans e8;replace h1:=h1.ext e8;replace h2:=h2.ext e8;replace h3:=h3.ext e8
   have z11:=e8.size
   refine Qa (Qd Uv Z) Z (Qa (Qj Y6 Z (h3.one 0 Z)) Z (Qa (Xs Z Z) Z (Qa (Qe Z) Z (Xg 23 [(3,.pointer (some ⟨b2,0,none⟩)),(4,.bool false),(5,.int .i64 ((k : Nat) : Int)),(6,.pointer (some ⟨b3,0,none⟩)),(37,o4),(38,.int .i64 ((x.inputs.length : Nat) : Int)),(39,.int .i64 ((k : Nat) : Int)),(40,.bool (decide (((k : Nat) : Int) < ((x.inputs.length : Nat) : Int)))),(41,.int .i64 ((k : Nat) : Int)),(42,.pointer (some ⟨X8 o4,Ko o4 + k * 5,none⟩)),(43,.agg (Enc.enc (x.inputs[k]'hi1)).toArray),(70,.bool (((((x.inputs[k]'hi1).op) != 0) || ((((x.inputs[k]'hi1).stamp).turn) != 0)) || ((decide (0 < ((k : Nat) : Int))) && (decide ((((x.inputs[k]'hi1).stamp).epoch) < (((List.getD x.inputs (k - 1) default).stamp).epoch))))))] (fun w'=>w11 = w') ?_ ?_))))
   ·refine Ym (gd:=47) Z Z (fun hg4=>?_) (fun hg4=>?_)
    ·refine Qc Z Z Z Z (Qc Z Z Z Z (Qc Z Z Z Z (Qc Z Z Z Z (Qa (Qr Z Z) Z (Qa (Qe Z) Z (Qc Z Z Z Z (Qc Z Z Z Z (Qc Z Z Z Z (Q3 Z Z Z (Q3 Z Z Z (Q3 Z Z Z (Q3 Z Z Z (Q3 Z Z Z (Q3 Z Z Z (Q3 Z Z Z (Q3 Z Z Z (Q3 Z Z Z (Q3 Z Z Z (Q3 Z Z Z (Q3 Z Z Z (Qc Z Z Z Z (Qa (Qr Z Z) Z (Ql ⟨Z,Z,Z,Z,Z,Z,Z,Z,Z,Z,Z,congrArg (fun b=>some (Value.bool b)) (show true = (((((x.inputs[k]'hi1).op) != 0) || ((((x.inputs[k]'hi1).stamp).turn) != 0)) || ((decide (0 < ((k : Nat) : Int))) && (decide ((((x.inputs[k]'hi1).stamp).epoch) < (((List.getD x.inputs (k - 1) default).stamp).epoch))))) by first | (rw [hg4] <;> rfl) | (simp [hg4];done) | (simp only [Qp] <;> simp)),trivial⟩ Z)))))))))))))))))))))))
    ·refine Qk Z Z (Qd Kz Z) Z (Qk Z Z (Yt Vv Z) Z (Qk Z Z (Qj Y6 Z (h3.one 2 Z)) Z (Qk Z Z (Xs Z Z) Z (Qa (Qq Z Z) Z (Qa (Qe Z) Z ?_)))))
     refine Ym (gd:=53) Z Z (fun hg5=>?_) (fun hg5=>?_)
     ·refine Qc Z Z Z Z (Qc Z Z Z Z (Qc Z Z Z Z (Q3 Z Z Z (Q3 Z Z Z (Q3 Z Z Z (Q3 Z Z Z (Q3 Z Z Z (Q3 Z Z Z (Q3 Z Z Z (Q3 Z Z Z (Q3 Z Z Z (Q3 Z Z Z (Q3 Z Z Z (Q3 Z Z Z (Qc Z Z Z Z (Qa (Qr Z Z) Z (Ql ⟨Z,Z,Z,Z,Z,Z,Z,Z,Z,Z,Z,congrArg (fun b=>some (Value.bool b)) (show true = (((((x.inputs[k]'hi1).op) != 0) || ((((x.inputs[k]'hi1).stamp).turn) != 0)) || ((decide (0 < ((k : Nat) : Int))) && (decide ((((x.inputs[k]'hi1).stamp).epoch) < (((List.getD x.inputs (k - 1) default).stamp).epoch))))) by first | (rw [hg4,hg5] <;> rfl) | (simp [hg4,hg5];done) | (simp only [Qp] <;> simp)),trivial⟩ Z)))))))))))))))))
     ·refine Qk Z Z (Qe Z) Z (Qk Z Z (Un Z Z) Z (Qk Z Z (Qe Z) Z ?_))
      refine Ym (gd:=56) Z Z (fun hg6=>?_) (fun hg6=>?_)
      ·have hg6n : k > 0:=by first | (have h:=of_decide_eq_true hg6;omega) | (have h:=hg6;simp at h;omega)
       refine Qk Z Z (Qd Kc Z) Z (Qk Z Z (Qj Xi Z (h2.one 2 Z)) Z (Qk Z Z (Qe Z) Z (Qk Z Z (U5 Z Z (sub_nat (by omega) (by unfold maxLen;omega))) Z (Qk Z Z (Ye (i:=(k - 1)) X3 Z Z (hd4.rd.ext E) (by first | assumption | omega | (simp only [List.length_set];first | assumption | omega) | (simp only [List.getElem_set_self,List.length_set];first | assumption | omega) | (simp only [Xc,Yp,List.length_set];first | assumption | omega) | (simp;done))) Z (Qk Z Z (Yt Kz Z) Z (Qk Z Z (Yt Vf Z) Z (Qk Z Z (Qj Y6 Z ((RdS.getD (hd4.rd.ext E) (i:=(k - 1)) (by first | assumption | omega | (simp only [List.length_set];first | assumption | omega) | (simp only [List.getElem_set_self,List.length_set];first | assumption | omega) | (simp only [Xc,Yp,List.length_set];first | assumption | omega) | (simp;done))).one 1 Z)) Z (Qk Z Z (Qd Kz Z) Z (Qk Z Z (Yt Vf Z) Z (Qk Z Z (Qj Y6 Z (h3.one 1 Z)) Z (Qk Z Z (Un Z Z) Z (Qk Z Z (Qr Z Z) Z (Qa (Qq Z Z) Z (Ql ⟨Z,Z,Z,Z,Z,Z,Z,Z,Z,Z,Z,congrArg (fun b=>some (Value.bool b)) (show (decide ((((x.inputs[k]'hi1).stamp).epoch) < (((List.getD x.inputs (k - 1) default).stamp).epoch))) = (((((x.inputs[k]'hi1).op) != 0) || ((((x.inputs[k]'hi1).stamp).turn) != 0)) || ((decide (0 < ((k : Nat) : Int))) && (decide ((((x.inputs[k]'hi1).stamp).epoch) < (((List.getD x.inputs (k - 1) default).stamp).epoch))))) by first | (rw [hg4,hg5,hg6] <;> rfl) | (simp [hg4,hg5,hg6];done) | (simp only [Qp] <;> simp)),trivial⟩ Z))))))))))))))
      ·have hg6n : ¬ k > 0:=by first | (have h:=of_decide_eq_false hg6;omega) | (have h:=hg6;simp at h;omega)
       refine Qc Z Z Z Z (Qc Z Z Z Z (Qc Z Z Z Z (Qc Z Z Z Z (Qc Z Z Z Z (Qc Z Z Z Z (Qc Z Z Z Z (Qc Z Z Z Z (Qc Z Z Z Z (Qc Z Z Z Z (Qc Z Z Z Z (Qc Z Z Z Z (Qk Z Z (Qq Z Z) Z (Qa (Qq Z Z) Z (Ql ⟨Z,Z,Z,Z,Z,Z,Z,Z,Z,Z,Z,congrArg (fun b=>some (Value.bool b)) (show false = (((((x.inputs[k]'hi1).op) != 0) || ((((x.inputs[k]'hi1).stamp).turn) != 0)) || ((decide (0 < ((k : Nat) : Int))) && (decide ((((x.inputs[k]'hi1).stamp).epoch) < (((List.getD x.inputs (k - 1) default).stamp).epoch))))) by first | (rw [hg4,hg5,hg6] <;> rfl) | (simp [hg4,hg5,hg6];done) | (simp only [Qp] <;> simp)),trivial⟩ Z))))))))))))))
   rintro _ rfl
   refine Qf (Qw Z (fun hc3=>?_) (fun hc3=>?_))
   ·refine Qh (Qi [true] Z Z (Qa (Qg Z) Z (Qf (Qx (Qz (Xb (Qz (Q0 Z Z E ?_))))))))
    exact bf fun h=>by simp only [Yc,Bool.and_eq_true] at h;obtain ⟨⟨⟨⟨⟨⟨⟨⟨⟨q1,q2⟩,q3⟩,q4⟩,q5⟩,q6⟩,q7⟩,q8⟩,q9⟩,q10⟩:=h;have:=Gp q5 (by assumption);rw [Ch (by assumption),hc3] at this;cases this
   ·refine Qy (Yb (Yv (Qi [true,true] Z Z (Qa (Yw Z Z (Y7 hc2n (hd4.ext E).1.1)) Z (Qa (Qe Z) Z (Qf (Yb (Yy (k + 1) (by omega) ⟨Z,Z,Z,Z,Z,trivial⟩ ⟨E,(by omega),h1,h2,(by omega),allR_s hI1 ((Ch (by assumption)).trans (congrArg not hc3))⟩))))))))
  ·have hc2n : ¬ k < x.inputs.length:=by first | (have h:=of_decide_eq_false hc2;omega) | (have h:=hc2;simp at h;omega)
   refine Xl (Ys (Yj ?_))
   refine Qh (Qh (Qi [true,true,true,true,true,true,true,true,true,true,true,true,true,true,true,true] Z Z (Qa (Qd Uc Z) Z (Qa (Qj Kg Z (h2.one 4 Z)) Z (Qa (Yg Tryz.underlying29 Z (hd6.ext E).len) Z (Qa (Xs Z Z) Z (Qa (Qe Z) Z (Xg 11 [(3,.pointer (some ⟨b2,0,none⟩)),(4,.bool false),(37,o4),(38,.int .i64 ((x.inputs.length : Nat) : Int)),(39,.int .i64 ((k : Nat) : Int)),(40,.bool (decide (((k : Nat) : Int) < ((x.inputs.length : Nat) : Int)))),(87,.bool (((((x.sums.length : Nat) : Int) != 4) || (((x.black.length : Nat) : Int) != 4)) || (((x.caps.length : Nat) : Int) != 4)))] (fun w'=>w8 = w') ?_ ?_))))))))
   ·refine Ym (gd:=76) Z Z (fun hg7=>?_) (fun hg7=>?_)
    ·have hg7n : ¬ x.sums.length = 4:=by first | (have h:=of_decide_eq_true hg7;omega) | (have h:=hg7;simp at h;omega)
     refine Qc Z Z Z Z (Qc Z Z Z Z (Qc Z Z Z Z (Qc Z Z Z Z (Qa (Qr Z Z) Z (Qa (Qe Z) Z (Qc Z Z Z Z (Qc Z Z Z Z (Qc Z Z Z Z (Qc Z Z Z Z (Qa (Qr Z Z) Z (Ql ⟨Z,Z,Z,Z,Z,Z,congrArg (fun b=>some (Value.bool b)) (show true = (((((x.sums.length : Nat) : Int) != 4) || (((x.black.length : Nat) : Int) != 4)) || (((x.caps.length : Nat) : Int) != 4)) by first | (rw [hg7] <;> rfl) | (simp [hg7];done) | (simp only [Qp] <;> simp)),trivial⟩ Z)))))))))))
    ·have hg7n : x.sums.length = 4:=by first | (have h:=of_decide_eq_false hg7;omega) | (have h:=hg7;simp at h;omega)
     refine Qk Z Z (Qd Vw Z) Z (Qk Z Z (Qj Gk Z (h2.one 5 Z)) Z (Qk Z Z (Yg Tryz.underlying30 Z (hd7.ext E).len) Z (Qk Z Z (Xs Z Z) Z (Qa (Qq Z Z) Z (Qa (Qe Z) Z ?_)))))
     refine Ym (gd:=82) Z Z (fun hg8=>?_) (fun hg8=>?_)
     ·have hg8n : ¬ x.black.length = 4:=by first | (have h:=of_decide_eq_true hg8;omega) | (have h:=hg8;simp at h;omega)
      refine Qc Z Z Z Z (Qc Z Z Z Z (Qc Z Z Z Z (Qc Z Z Z Z (Qa (Qr Z Z) Z (Ql ⟨Z,Z,Z,Z,Z,Z,congrArg (fun b=>some (Value.bool b)) (show true = (((((x.sums.length : Nat) : Int) != 4) || (((x.black.length : Nat) : Int) != 4)) || (((x.caps.length : Nat) : Int) != 4)) by first | (rw [hg7,hg8] <;> rfl) | (simp [hg7,hg8];done) | (simp only [Qp] <;> simp)),trivial⟩ Z)))))
     ·have hg8n : x.black.length = 4:=by first | (have h:=of_decide_eq_false hg8;omega) | (have h:=hg8;simp at h;omega)
      refine Qk Z Z (Qd G9 Z) Z (Qk Z Z (Qj Gk Z (h2.one 6 Z)) Z (Qk Z Z (Yg Tryz.underlying30 Z (hd8.ext E).len) Z (Qk Z Z (Xs Z Z) Z (Qa (Qq Z Z) Z (Ql ⟨Z,Z,Z,Z,Z,Z,congrArg (fun b=>some (Value.bool b)) (show (((x.caps.length : Nat) : Int) != 4) = (((((x.sums.length : Nat) : Int) != 4) || (((x.black.length : Nat) : Int) != 4)) || (((x.caps.length : Nat) : Int) != 4)) by first | (rw [hg7,hg8] <;> rfl) | (simp [hg7,hg8];done) | (simp only [Qp] <;> simp)),trivial⟩ Z)))))
   rintro _ rfl
   refine Qf (Qw Z (fun hc4=>?_) (fun hc4=>?_))
   ·refine Qh (Qi [true] Z Z (Qa (Qg Z) Z (Qf (Qx (Q0 Z Z E ?_)))))
    exact bf fun h=>by simp only [Yc,Bool.and_eq_true] at h;obtain ⟨⟨⟨⟨⟨⟨⟨⟨⟨q1,q2⟩,q3⟩,q4⟩,q5⟩,q6⟩,q7⟩,q8⟩,q9⟩,q10⟩:=h;simp only [beq_iff_eq] at q6 q7 q8;simp [q6,q7,q8] at hc4
   ·refine Qy (Qh (Qh (Qi [true,true,true,true] Z Z (Qa (Qd Uc Z) Z (Qa (Qj Kg Z (h2.one 4 Z)) Z (Qa (Yg Tryz.underlying29 Z (hd6.ext E).len) Z (Qa (Qe Z) Z (Qf (Q9 (Xk (fun (k : Nat)=>[(3,.pointer (some ⟨b2,0,none⟩)),(4,.bool false),(89,o6),(90,.int .i64 ((x.sums.length : Nat) : Int)),(91,.int .i64 ((k : Nat) : Int))]) (fun (k : Nat) w'=>Ext w w' ∧ w8.heap.size ≤ w'.heap.size ∧ Blk w' b1 ([o1,.int .i64 g.workers,.int .i64 g.cap]) ∧ Blk w' b2 ([o2,o3,o4,o5,o6,o7,o8,o9]) ∧ k ≤ x.sums.length ∧ (x.sums.take k).all (Y0 · (-1000000) 1000000) = true) (fun (k : Nat)=>x.sums.length - k) 0 ⟨Z,Z,Z,Z,Z,trivial⟩ ⟨E,Nat.le_refl _,h1,h2,Nat.zero_le _,Z⟩ ?_))))))))))
    clear E h1 h2
    rintro k w14 ⟨E,z12,h1,h2,hk,hI2⟩
    refine Qh (Qi [true] Z Z (Qa (Xn Z Z) Z (Qf (Qh (Qw Z (fun hc5=>?_) (fun hc5=>?_))))))
    ·have hc5n : k < x.sums.length:=by first | (have h:=of_decide_eq_true hc5;omega) | (have h:=hc5;simp at h;omega)
     refine Qy (Qh (Q9 (Qh (Qi [true,true,true] Z Z ?_))))
     have hi2 : k < x.sums.length:=(by first | assumption | omega | (simp only [List.length_set];first | assumption | omega) | (simp only [List.getElem_set_self,List.length_set];first | assumption | omega) | (simp only [Xc,Yp,List.length_set];first | assumption | omega) | (simp;done))
     refine Qa (Ye (i:=k) Ke Z Z (hd6.rd.ext E) hi2) Z (Qa (Qj Y6 Z (((hd6.rd.ext E).get hi2).one 0 Z)) Z (Qa (Qg Z) Z (Qf (Qh (Qi [true,false,true] Z Z (Qa (Qe Z) Z (Qv Tryz.call42 Z (c_within (x.sums[k]'hi2) (-1000000) 1000000 _ ) Z (fun _ w15 e9 hv=>?_))))))))
     subst hv
     replace E:=E.trans e9;replace h1:=h1.ext e9;replace h2:=h2.ext e9
     have z13:=e9.size
     refine Qa (Y1 Z) Z (Qf (Qw Z (fun hc6=>?_) (fun hc6=>?_)))
     ·refine Qh (Qi [true] Z Z (Qa (Qg Z) Z (Qf (Qx (Qz (Xb (Qz (Q0 Z Z E ?_))))))))
      exact bf fun h=>by simp only [Yc,Bool.and_eq_true] at h;obtain ⟨⟨⟨⟨⟨⟨⟨⟨⟨q1,q2⟩,q3⟩,q4⟩,q5⟩,q6⟩,q7⟩,q8⟩,q9⟩,q10⟩:=h;have:=List.all_eq_true.1 q9 _ (List.getElem_mem (by assumption));simp only [this] at hc6;cases hc6
     ·refine Qy (Yb (Yv (Qi [true,true] Z Z (Qa (Yw Z Z (Y7 hc5n (hd6.ext E).1.1)) Z (Qa (Qe Z) Z (Qf (Yb (Yy (k + 1) (by omega) ⟨Z,Z,Z,Z,Z,trivial⟩ ⟨E,(by omega),h1,h2,(by omega),Ux hI2 (by assumption) (by simpa using hc6)⟩))))))))
    ·have hc5n : ¬ k < x.sums.length:=by first | (have h:=of_decide_eq_false hc5;omega) | (have h:=hc5;simp at h;omega)
     refine Xl (Ys (Yj ?_))
     refine Qh (Qh (Qi [true,true,true,true] Z Z (Qa (Qd Vk Z) Z (Qa (Qj Ts Z (h2.one 7 Z)) Z (Qa (Yg Tryz.underlying31 Z (hd9.ext E).len) Z (Qa (Qe Z) Z (Qf (Q9 (Xk (fun (k : Nat)=>[(3,.pointer (some ⟨b2,0,none⟩)),(4,.bool false),(100,o9),(101,.int .i64 ((x.dones.length : Nat) : Int)),(102,.int .i64 ((k : Nat) : Int))]) (fun (k : Nat) w'=>Ext w w' ∧ w14.heap.size ≤ w'.heap.size ∧ Blk w' b1 ([o1,.int .i64 g.workers,.int .i64 g.cap]) ∧ Blk w' b2 ([o2,o3,o4,o5,o6,o7,o8,o9]) ∧ k ≤ x.dones.length ∧ G4 k (fun j=>Vg x.dones j) = true) (fun (k : Nat)=>x.dones.length - k) 0 ⟨Z,Z,Z,Z,Z,trivial⟩ ⟨E,Nat.le_refl _,h1,h2,Nat.zero_le _,Z⟩ ?_)))))))))
     clear E h1 h2
     rintro k w16 ⟨E,z14,h1,h2,hk,hI3⟩
     refine Qh (Qi [true] Z Z (Qa (Xn Z Z) Z (Qf (Qh (Qw Z (fun hc7=>?_) (fun hc7=>?_))))))
     ·have hc7n : k < x.dones.length:=by first | (have h:=of_decide_eq_true hc7;omega) | (have h:=hc7;simp at h;omega)
      refine Qy (Qh (Q9 (Qh (Qi [true,true,true,false,true,false] Z Z (Qa (Qe Z) Z ?_)))))
      have hi3 : k < x.dones.length:=(by first | assumption | omega | (simp only [List.length_set];first | assumption | omega) | (simp only [List.getElem_set_self,List.length_set];first | assumption | omega) | (simp only [Xc,Yp,List.length_set];first | assumption | omega) | (simp;done))
      refine Qa (Ye (i:=k) Ta Z Z (hd9.rd.ext E) hi3) Z (Qa (Qo st69 Z ((hd9.rd.ext E).get hi3) Z) Z (Q6 st69 Z (fun b4 w17 e10 s4 h4=>?_)))
      have g_b4 : w.heap.size ≤ b4:=by have:=E.size;omega
      have y_b4:=h4.lt
      replace E:=E.trans e10;replace h1:=h1.ext e10;replace h2:=h2.ext e10
      have z15:=e10.size
      refine Qa (Qg Z) Z (Qs (cs':=[.int .i64 ((x.dones[k]'hi3).epoch),.bool ((x.dones[k]'hi3).capped)]) st69 Z Z Z Z h4 (Nat.le_of_ble_eq_true Z) Z (fun w18 m2 h4'=>?_))
      replace h4:=h4'
      replace E:=E.step m2 (fun g hg=>by cases hg;omega);replace h1:=h1.mod m2 (fun g hg=>by cases hg;omega);replace h2:=h2.mod m2 (fun g hg=>by cases hg;omega)
      have z16:=m2.size
      refine Qf (Qh (Xu Xo [(0,true),(1,true),(2,false),(3,true),(4,true),(5,true),(6,true),(7,true),(8,true),(9,true),(10,true),(11,false),(12,true)] (by decide +kernel) Z (fun w19 e11=>?_)))
      replace E:=E.trans e11;replace h1:=h1.ext e11;replace h2:=h2.ext e11;replace h4:=h4.ext e11
      have z17:=e11.size
      refine Qa (Qd T4 Z) Z (Qa (Qj Y6 Z (h4.one 0 Z)) Z (Qv Tryz.call42 Z (c_within ((x.dones[k]'hi3).epoch) 0 3 _ ) Z (fun _ w20 e12 hv=>?_)))
      subst hv
      replace E:=E.trans e12;replace h1:=h1.ext e12;replace h2:=h2.ext e12;replace h4:=h4.ext e12
      have z18:=e12.size
      refine Qa (Y1 Z) Z (Qa (Qe Z) Z (Xg 8 [(3,.pointer (some ⟨b2,0,none⟩)),(4,.bool false),(9,.int .i64 ((k : Nat) : Int)),(10,.pointer (some ⟨b4,0,none⟩)),(100,o9),(101,.int .i64 ((x.dones.length : Nat) : Int)),(102,.int .i64 ((k : Nat) : Int)),(103,.bool (decide (((k : Nat) : Int) < ((x.dones.length : Nat) : Int)))),(104,.int .i64 ((k : Nat) : Int)),(105,.pointer (some ⟨X8 o9,Ko o9 + k * 2,none⟩)),(106,.agg (Enc.enc (x.dones[k]'hi3)).toArray),(119,.bool ((!(Y0 ((x.dones[k]'hi3).epoch) 0 3)) || ((List.take k x.dones).any (fun d=>d.epoch == ((x.dones[k]'hi3).epoch)))))] (fun w'=>Ext w w' ∧ w20.heap.size ≤ w'.heap.size ∧ Blk w' b1 ([o1,.int .i64 g.workers,.int .i64 g.cap]) ∧ Blk w' b2 ([o2,o3,o4,o5,o6,o7,o8,o9]) ∧ Blk w' b4 [.int .i64 ((x.dones[k]'hi3).epoch),.bool ((x.dones[k]'hi3).capped)]) ?_ ?_))
      ·refine Ym (gd:=111) Z Z (fun hg9=>?_) (fun hg9=>?_)
       ·refine Qc Z Z Z Z (Qc Z Z Z Z (Qc Z Z Z Z (Qc Z Z Z Z (Qc Z Z Z Z (Qc Z Z Z Z ?_)))))
        refine Q1 Z Z Z Z ?_
        refine Qa (Qr Z Z) Z (Ql ⟨Z,Z,Z,Z,Z,Z,Z,Z,Z,Z,Z,congrArg (fun b=>some (Value.bool b)) (show true = ((!(Y0 ((x.dones[k]'hi3).epoch) 0 3)) || ((List.take k x.dones).any (fun d=>d.epoch == ((x.dones[k]'hi3).epoch)))) by first | (rw [hg9] <;> rfl) | (simp [hg9];done) | (simp only [Qp] <;> simp)),trivial⟩ ⟨E,(by omega),h1,h2,h4⟩)
       ·refine Qk Z Z (Qd Vk Z) Z (Qk Z Z (Qj Ts Z (h2.one 7 Z)) Z (Qk Z Z (Qe Z) Z ?_))
        have hk1 : k ≤ x.dones.length:=by first | assumption | omega
        have hs1 : RdD (α:=Done) w 0 w.heap.size (slTo o9 k) (List.take k x.dones):=RdB.slTo hd9 hk1
        refine Qk Z Z (Hp Ta Z Z (RdL.room (hd9.ext E).1) hk1) Z (Qk Z Z (Qd T4 Z) Z (Qk Z Z (Qj Y6 Z (h4.one 0 Z)) Z ?_))
        refine Y3 Z Z ?_
        refine Qv Tryz.call56 Z (c_doneAt (slTo o9 k) (List.take k x.dones) ((x.dones[k]'hi3).epoch) _ (hs1.rd.ext E)) Z (fun _ w22 e13 hv=>?_)
        subst hv
        replace E:=E.trans e13;replace h1:=h1.ext e13;replace h2:=h2.ext e13;replace h4:=h4.ext e13
        have z19:=e13.size
        refine Qa (Qq Z Z) Z (Ql ⟨Z,Z,Z,Z,Z,Z,Z,Z,Z,Z,Z,congrArg (fun b=>some (Value.bool b)) (show ((List.take k x.dones).any (fun d=>d.epoch == ((x.dones[k]'hi3).epoch))) = ((!(Y0 ((x.dones[k]'hi3).epoch) 0 3)) || ((List.take k x.dones).any (fun d=>d.epoch == ((x.dones[k]'hi3).epoch)))) by first | (rw [hg9] <;> rfl) | (simp [hg9];done) | (simp only [Qp] <;> simp)),trivial⟩ ⟨E,(by omega),h1,h2,h4⟩)
      clear E h1 h2 h4
      rintro w21 ⟨E,z20,h1,h2,h4⟩
      refine Qf (Qw Z (fun hc8=>?_) (fun hc8=>?_))
      ·refine Qh (Qi [true] Z Z (Qa (Qg Z) Z (Qf (Qx (Qz (Xb (Qz (Q0 Z Z E ?_))))))))
       exact bf fun h=>by simp only [Yc,Bool.and_eq_true] at h;obtain ⟨⟨⟨⟨⟨⟨⟨⟨⟨q1,q2⟩,q3⟩,q4⟩,q5⟩,q6⟩,q7⟩,q8⟩,q9⟩,q10⟩:=h;have:=Gp q10 (by assumption);rw [Vq (by assumption),hc8] at this;cases this
      ·refine Qy (Yb (Yv (Qi [true,true] Z Z (Qa (Yw Z Z (Y7 hc7n (hd9.ext E).1.1)) Z (Qa (Qe Z) Z (Qf (Yb (Yy (k + 1) (by omega) ⟨Z,Z,Z,Z,Z,trivial⟩ ⟨E,(by omega),h1,h2,(by omega),allR_s hI3 ((Vq (by assumption)).trans (congrArg not hc8))⟩))))))))
     ·have hc7n : ¬ k < x.dones.length:=by first | (have h:=of_decide_eq_false hc7;omega) | (have h:=hc7;simp at h;omega)
      refine Xl (Ys (Yj ?_))
      refine Qh (Qi [true] Z Z (Qa (Qg Z) Z (Qf (Qx (Q0 Z Z E ?_)))))
      exact wk_yes1 hc1 (Cl hI1 (by omega)) hc4 (all_end hI2 (by omega)) (Cl hI3 (by omega))

set_option maxHeartbeats 4000000 in
set_option maxRecDepth 20000 in
theorem s_WorkerOk (cg : List Value) (g : Graph) (cx : List Value) (x : Worker) (w : World) (hg : Dat.R w 0 w.heap.size cg g) (hx : Dat.R w 0 w.heap.size cx x) : Ct Tryz.prog 24 [.agg cg.toArray,.agg cx.toArray] w (fun v _=>v = .bool (Yc g x)):=by
 refine Yx Tryz.func24 Z Tryz.ntmps24 Z ?_
 obtain ⟨o1,rfl,hd1⟩:=Graph.op hg
 obtain ⟨o2,o3,o4,o5,o6,o7,o8,o9,rfl,hd2,hd3,hd4,hd5,hd6,hd7,hd8,hd9⟩:=Worker.op hx
 refine Yh [(0,.agg [o1,.int .i64 g.workers,.int .i64 g.cap].toArray),(1,.agg [o2,o3,o4,o5,o6,o7,o8,o9].toArray)] ⟨Z,Z,trivial⟩ ?_
 have E : Ext w w:=Ext.refl w
 refine Qh (Qi [false,false,true] Z Z (Y5 Z Z (fun b1 w1 e1 s1 h1=>?_)))
 have g_b1 : w.heap.size ≤ b1:=by have:=E.size;omega
 have y_b1:=h1.lt
 replace E:=E.trans e1
 have z1:=e1.size
 refine Y5 Z Z (fun b2 w2 e2 s2 h2=>?_)
 have g_b2 : w.heap.size ≤ b2:=by have:=E.size;omega
 have y_b2:=h2.lt
 replace E:=E.trans e2;replace h1:=h1.ext e2
 have z2:=e2.size
 refine Qa (Qg Z) Z (Qf (Qh (Qi [true] Z Z (Qa (Qg Z) Z (Qf (Qh (Qh (Qi [true,true,true,false,true,true,true,true,true,false,true,true,true,true,true,true,false,true,true,true,true,true,false,true,true,true,true,true,true,true,true,true,true,true,true,true,true,true,true,true,true,true,true,true,true,true] Z Z (Qa (Qo Xt Z h1.at Z) Z (Qa (Qd Xj Z) Z (Qa (Qj Xi Z (h2.one 0 Z)) Z (Qv Tryz.call46 Z (s_l12Records [o1,.int .i64 g.workers,.int .i64 g.cap] g o2 x.queue _ (Graph.mkR g (RdD.any (hd1.ext E))) (hd2.rd.ext E)) Z (fun _ w3 e3 hv=>?_)))))))))))))
 subst hv
 replace E:=E.trans e3;replace h1:=h1.ext e3;replace h2:=h2.ext e3
 have z3:=e3.size
 refine Qa (Y1 Z) Z (Qa (Qe Z) Z (Xg 40 [(0,.agg [o1,.int .i64 g.workers,.int .i64 g.cap].toArray),(1,.agg [o2,o3,o4,o5,o6,o7,o8,o9].toArray),(2,.pointer (some ⟨b1,0,none⟩)),(3,.pointer (some ⟨b2,0,none⟩)),(4,.bool false),(5,.int .i64 4),(55,.bool (((((((!(x.queue.all (X6 g))) || (!(x.staged.all (X6 g)))) || (!(x.inputs.all (X6 g)))) || (!((Gg x.cells).all Xm))) || (((x.sums.length : Nat) : Int) != 4)) || (((x.black.length : Nat) : Int) != 4)) || (((x.caps.length : Nat) : Int) != 4)))] (fun w'=>Ext w w' ∧ w3.heap.size ≤ w'.heap.size ∧ Blk w' b1 ([o1,.int .i64 g.workers,.int .i64 g.cap]) ∧ Blk w' b2 ([o2,o3,o4,o5,o6,o7,o8,o9])) ?_ ?_))
 ·refine Ym (gd:=15) Z Z (fun hg1=>?_) (fun hg1=>?_)
  ·refine Qc Z Z Z Z (Qc Z Z Z Z (Qc Z Z Z Z ?_))
   refine Q1 Z Z Z Z ?_
   refine Qc Z Z Z Z (Qa (Qr Z Z) Z (Qa (Qe Z) Z (Qc Z Z Z Z (Qc Z Z Z Z (Qc Z Z Z Z ?_)))))
   refine Q1 Z Z Z Z ?_
   refine Qc Z Z Z Z (Qa (Qr Z Z) Z (Qa (Qe Z) Z (Qc Z Z Z Z (Qc Z Z Z Z ?_))))
   refine Q1 Z Z Z Z ?_
   refine Qc Z Z Z Z (Qa (Qr Z Z) Z (Qa (Qe Z) Z (Qc Z Z Z Z (Qc Z Z Z Z (Qc Z Z Z Z (Qc Z Z Z Z (Qc Z Z Z Z (Qa (Qr Z Z) Z (Qa (Qe Z) Z (Qc Z Z Z Z (Qc Z Z Z Z (Qc Z Z Z Z (Qc Z Z Z Z (Qc Z Z Z Z (Qa (Qr Z Z) Z (Qa (Qe Z) Z (Qc Z Z Z Z (Qc Z Z Z Z (Qc Z Z Z Z (Qc Z Z Z Z (Qc Z Z Z Z (Qa (Qr Z Z) Z (Ql ⟨Z,Z,Z,Z,Z,Z,congrArg (fun b=>some (Value.bool b)) (show true = (((((((!(x.queue.all (X6 g))) || (!(x.staged.all (X6 g)))) || (!(x.inputs.all (X6 g)))) || (!((Gg x.cells).all Xm))) || (((x.sums.length : Nat) : Int) != 4)) || (((x.black.length : Nat) : Int) != 4)) || (((x.caps.length : Nat) : Int) != 4)) by first | (rw [hg1] <;> rfl) | (simp [hg1];done) | (simp only [Qp] <;> simp)),trivial⟩ ⟨E,(by omega),h1,h2⟩)))))))))))))))))))))))
  ·refine Qk Z Z (Qo Xt Z h1.at Z) Z (Qk Z Z (Qd K7 Z) Z (Qk Z Z (Qj Xi Z (h2.one 1 Z)) Z ?_))
   refine Y3 Z Z ?_
   refine Qv Tryz.call46 Z (s_l12Records [o1,.int .i64 g.workers,.int .i64 g.cap] g o3 x.staged _ (Graph.mkR g (RdD.any (hd1.ext E))) (hd3.rd.ext E)) Z (fun _ w5 e4 hv=>?_)
   subst hv
   replace E:=E.trans e4;replace h1:=h1.ext e4;replace h2:=h2.ext e4
   have z4:=e4.size
   refine Qk Z Z (Y1 Z) Z (Qa (Qq Z Z) Z (Qa (Qe Z) Z ?_))
   refine Ym (gd:=22) Z Z (fun hg2=>?_) (fun hg2=>?_)
   ·refine Qc Z Z Z Z (Qc Z Z Z Z (Qc Z Z Z Z ?_))
    refine Q1 Z Z Z Z ?_
    refine Qc Z Z Z Z (Qa (Qr Z Z) Z (Qa (Qe Z) Z (Qc Z Z Z Z (Qc Z Z Z Z ?_))))
    refine Q1 Z Z Z Z ?_
    refine Qc Z Z Z Z (Qa (Qr Z Z) Z (Qa (Qe Z) Z (Qc Z Z Z Z (Qc Z Z Z Z (Qc Z Z Z Z (Qc Z Z Z Z (Qc Z Z Z Z (Qa (Qr Z Z) Z (Qa (Qe Z) Z (Qc Z Z Z Z (Qc Z Z Z Z (Qc Z Z Z Z (Qc Z Z Z Z (Qc Z Z Z Z (Qa (Qr Z Z) Z (Qa (Qe Z) Z (Qc Z Z Z Z (Qc Z Z Z Z (Qc Z Z Z Z (Qc Z Z Z Z (Qc Z Z Z Z (Qa (Qr Z Z) Z (Ql ⟨Z,Z,Z,Z,Z,Z,congrArg (fun b=>some (Value.bool b)) (show true = (((((((!(x.queue.all (X6 g))) || (!(x.staged.all (X6 g)))) || (!(x.inputs.all (X6 g)))) || (!((Gg x.cells).all Xm))) || (((x.sums.length : Nat) : Int) != 4)) || (((x.black.length : Nat) : Int) != 4)) || (((x.caps.length : Nat) : Int) != 4)) by first | (rw [hg1,hg2] <;> rfl) | (simp [hg1,hg2];done) | (simp only [Qp] <;> simp)),trivial⟩ ⟨E,(by omega),h1,h2⟩)))))))))))))))))))))))
   ·refine Qk Z Z (Qo Xt Z h1.at Z) Z (Qk Z Z (Qd Kc Z) Z (Qk Z Z (Qj Xi Z (h2.one 2 Z)) Z ?_))
    refine Y3 Z Z ?_
    refine Qv Tryz.call46 Z (s_l12Records [o1,.int .i64 g.workers,.int .i64 g.cap] g o4 x.inputs _ (Graph.mkR g (RdD.any (hd1.ext E))) (hd4.rd.ext E)) Z (fun _ w6 e5 hv=>?_)
    subst hv
    replace E:=E.trans e5;replace h1:=h1.ext e5;replace h2:=h2.ext e5
    have z5:=e5.size
    refine Qk Z Z (Y1 Z) Z (Qa (Qq Z Z) Z (Qa (Qe Z) Z ?_))
    refine Ym (gd:=29) Z Z (fun hg3=>?_) (fun hg3=>?_)
    ·refine Qc Z Z Z Z (Qc Z Z Z Z ?_)
     refine Q1 Z Z Z Z ?_
     refine Qc Z Z Z Z (Qa (Qr Z Z) Z (Qa (Qe Z) Z (Qc Z Z Z Z (Qc Z Z Z Z (Qc Z Z Z Z (Qc Z Z Z Z (Qc Z Z Z Z (Qa (Qr Z Z) Z (Qa (Qe Z) Z (Qc Z Z Z Z (Qc Z Z Z Z (Qc Z Z Z Z (Qc Z Z Z Z (Qc Z Z Z Z (Qa (Qr Z Z) Z (Qa (Qe Z) Z (Qc Z Z Z Z (Qc Z Z Z Z (Qc Z Z Z Z (Qc Z Z Z Z (Qc Z Z Z Z (Qa (Qr Z Z) Z (Ql ⟨Z,Z,Z,Z,Z,Z,congrArg (fun b=>some (Value.bool b)) (show true = (((((((!(x.queue.all (X6 g))) || (!(x.staged.all (X6 g)))) || (!(x.inputs.all (X6 g)))) || (!((Gg x.cells).all Xm))) || (((x.sums.length : Nat) : Int) != 4)) || (((x.black.length : Nat) : Int) != 4)) || (((x.caps.length : Nat) : Int) != 4)) by first | (rw [hg1,hg2,hg3] <;> rfl) | (simp [hg1,hg2,hg3];done) | (simp only [Qp] <;> simp)),trivial⟩ ⟨E,(by omega),h1,h2⟩)))))))))))))))))))))))
    ·refine Qk Z Z (Qd Vx Z) Z (Qk Z Z (Qj Cd Z (h2.one 3 Z)) Z ?_)
     refine Y3 Z Z ?_
     refine Qv Tryz.call47 Z (s_CellsOk o5 x.cells _ (hd5.rd.ext E)) Z (fun _ w7 e6 hv=>?_)
     subst hv
     replace E:=E.trans e6;replace h1:=h1.ext e6;replace h2:=h2.ext e6
     have z6:=e6.size
     refine Qk Z Z (Y1 Z) Z (Qa (Qq Z Z) Z (Qa (Qe Z) Z ?_))
     refine Ym (gd:=35) Z Z (fun hg4=>?_) (fun hg4=>?_)
     ·refine Qc Z Z Z Z (Qc Z Z Z Z (Qc Z Z Z Z (Qc Z Z Z Z (Qc Z Z Z Z (Qa (Qr Z Z) Z (Qa (Qe Z) Z (Qc Z Z Z Z (Qc Z Z Z Z (Qc Z Z Z Z (Qc Z Z Z Z (Qc Z Z Z Z (Qa (Qr Z Z) Z (Qa (Qe Z) Z (Qc Z Z Z Z (Qc Z Z Z Z (Qc Z Z Z Z (Qc Z Z Z Z (Qc Z Z Z Z (Qa (Qr Z Z) Z (Ql ⟨Z,Z,Z,Z,Z,Z,congrArg (fun b=>some (Value.bool b)) (show true = (((((((!(x.queue.all (X6 g))) || (!(x.staged.all (X6 g)))) || (!(x.inputs.all (X6 g)))) || (!((Gg x.cells).all Xm))) || (((x.sums.length : Nat) : Int) != 4)) || (((x.black.length : Nat) : Int) != 4)) || (((x.caps.length : Nat) : Int) != 4)) by first | (rw [hg1,hg2,hg3,hg4] <;> rfl) | (simp [hg1,hg2,hg3,hg4];done) | (simp only [Qp] <;> simp)),trivial⟩ ⟨E,(by omega),h1,h2⟩))))))))))))))))))))
     ·refine Qk Z Z (Qd Uc Z) Z (Qk Z Z (Qj Kg Z (h2.one 4 Z)) Z (Qk Z Z (Yg Tryz.underlying29 Z (hd6.ext E).len) Z (Qk Z Z (Qe Z) Z (Qk Z Z (Xs Z Z) Z (Qa (Qq Z Z) Z (Qa (Qe Z) Z ?_))))))
      refine Ym (gd:=42) Z Z (fun hg5=>?_) (fun hg5=>?_)
      ·have hg5n : ¬ x.sums.length = 4:=by first | (have h:=of_decide_eq_true hg5;omega) | (have h:=hg5;simp at h;omega)
       refine Qc Z Z Z Z (Qc Z Z Z Z (Qc Z Z Z Z (Qc Z Z Z Z (Qc Z Z Z Z (Qa (Qr Z Z) Z (Qa (Qe Z) Z (Qc Z Z Z Z (Qc Z Z Z Z (Qc Z Z Z Z (Qc Z Z Z Z (Qc Z Z Z Z (Qa (Qr Z Z) Z (Ql ⟨Z,Z,Z,Z,Z,Z,congrArg (fun b=>some (Value.bool b)) (show true = (((((((!(x.queue.all (X6 g))) || (!(x.staged.all (X6 g)))) || (!(x.inputs.all (X6 g)))) || (!((Gg x.cells).all Xm))) || (((x.sums.length : Nat) : Int) != 4)) || (((x.black.length : Nat) : Int) != 4)) || (((x.caps.length : Nat) : Int) != 4)) by first | (rw [hg1,hg2,hg3,hg4,hg5] <;> rfl) | (simp [hg1,hg2,hg3,hg4,hg5];done) | (simp only [Qp] <;> simp)),trivial⟩ ⟨E,(by omega),h1,h2⟩)))))))))))))
      ·have hg5n : x.sums.length = 4:=by first | (have h:=of_decide_eq_false hg5;omega) | (have h:=hg5;simp at h;omega)
       refine Qk Z Z (Qd Vw Z) Z (Qk Z Z (Qj Gk Z (h2.one 5 Z)) Z (Qk Z Z (Yg Tryz.underlying30 Z (hd7.ext E).len) Z (Qk Z Z (Qe Z) Z (Qk Z Z (Xs Z Z) Z (Qa (Qq Z Z) Z (Qa (Qe Z) Z ?_))))))
       refine Ym (gd:=49) Z Z (fun hg6=>?_) (fun hg6=>?_)
       ·have hg6n : ¬ x.black.length = 4:=by first | (have h:=of_decide_eq_true hg6;omega) | (have h:=hg6;simp at h;omega)
        refine Qc Z Z Z Z (Qc Z Z Z Z (Qc Z Z Z Z (Qc Z Z Z Z (Qc Z Z Z Z (Qa (Qr Z Z) Z (Ql ⟨Z,Z,Z,Z,Z,Z,congrArg (fun b=>some (Value.bool b)) (show true = (((((((!(x.queue.all (X6 g))) || (!(x.staged.all (X6 g)))) || (!(x.inputs.all (X6 g)))) || (!((Gg x.cells).all Xm))) || (((x.sums.length : Nat) : Int) != 4)) || (((x.black.length : Nat) : Int) != 4)) || (((x.caps.length : Nat) : Int) != 4)) by first | (rw [hg1,hg2,hg3,hg4,hg5,hg6] <;> rfl) | (simp [hg1,hg2,hg3,hg4,hg5,hg6];done) | (simp only [Qp] <;> simp)),trivial⟩ ⟨E,(by omega),h1,h2⟩))))))
       ·have hg6n : x.black.length = 4:=by first | (have h:=of_decide_eq_false hg6;omega) | (have h:=hg6;simp at h;omega)
        refine Qk Z Z (Qd G9 Z) Z (Qk Z Z (Qj Gk Z (h2.one 6 Z)) Z (Qk Z Z (Yg Tryz.underlying30 Z (hd8.ext E).len) Z (Qk Z Z (Qe Z) Z (Qk Z Z (Xs Z Z) Z (Qa (Qq Z Z) Z (Ql ⟨Z,Z,Z,Z,Z,Z,congrArg (fun b=>some (Value.bool b)) (show (((x.caps.length : Nat) : Int) != 4) = (((((((!(x.queue.all (X6 g))) || (!(x.staged.all (X6 g)))) || (!(x.inputs.all (X6 g)))) || (!((Gg x.cells).all Xm))) || (((x.sums.length : Nat) : Int) != 4)) || (((x.black.length : Nat) : Int) != 4)) || (((x.caps.length : Nat) : Int) != 4)) by first | (rw [hg1,hg2,hg3,hg4,hg5,hg6] <;> rfl) | (simp [hg1,hg2,hg3,hg4,hg5,hg6];done) | (simp only [Qp] <;> simp)),trivial⟩ ⟨E,(by omega),h1,h2⟩))))))
 clear E h1 h2
 rintro w4 ⟨E,z7,h1,h2⟩
 refine Qf (Qw Z (fun hc1=>?_) (fun hc1=>?_))
 ·refine Qh (Qi [true] Z Z (Qa (Qg Z) Z (Qf (Qx (Q0 Z Z E ?_)))))
  exact bf fun h=>by simp only [Yc,Bool.and_eq_true] at h;obtain ⟨⟨⟨⟨⟨⟨⟨⟨⟨q1,q2⟩,q3⟩,q4⟩,q5⟩,q6⟩,q7⟩,q8⟩,q9⟩,q10⟩:=h;simp only [beq_iff_eq] at q6 q7 q8;simp only [q1,q2,q3,q4,q6,q7,q8] at hc1;simp at hc1
 ·refine Qy (Qh (Qh (Qi [true] Z Z (Qa (Qg Z) Z (Qf (Q9 (Xk (fun (k : Nat)=>[(3,.pointer (some ⟨b2,0,none⟩)),(4,.bool false),(5,.int .i64 4),(6,.int .i64 ((k : Nat) : Int))]) (fun (k : Nat) w'=>Ext w w' ∧ w4.heap.size ≤ w'.heap.size ∧ Blk w' b1 ([o1,.int .i64 g.workers,.int .i64 g.cap]) ∧ Blk w' b2 ([o2,o3,o4,o5,o6,o7,o8,o9]) ∧ k ≤ x.inputs.length ∧ G4 k (fun j=>inAt x.inputs j) = true) (fun (k : Nat)=>x.inputs.length - k) 0 ⟨Z,Z,Z,Z,trivial⟩ ⟨E,Nat.le_refl _,h1,h2,Nat.zero_le _,Z⟩ ?_)))))))
  clear E h1 h2
  rintro k w8 ⟨E,z8,h1,h2,hk,hI1⟩
  have hmi:=hd4.1.1
  unfold maxLen at hmi
  refine Qh (Qh (Qi [true,true,true,true,true] Z Z (Qa (Qe Z) Z (Qa (Qd Kc Z) Z (Qa (Qj Xi Z (h2.one 2 Z)) Z (Qa (Yg Tryz.underlying27 Z (hd4.ext E).len) Z (Qa (Xn Z Z) Z (Qf (Qw Z (fun hc2=>?_) (fun hc2=>?_))))))))))
  ·have hc2n : k < x.inputs.length:=by first | (have h:=of_decide_eq_true hc2;omega) | (have h:=hc2;simp at h;omega)
   refine Qy (Qh (Q9 (Qh (Xu Xo [(0,true),(1,true),(2,true),(3,true),(4,true),(5,true),(6,true),(7,true),(8,true),(9,true),(10,true),(11,true),(12,true),(13,true),(14,true),(15,true),(16,true),(17,true),(18,true),(19,true),(20,true),(21,true),(22,true),(23,true),(24,true),(25,true),(26,true),(27,true),(28,true),(29,true),(30,true),(31,true),(32,true),(33,true),(34,true),(35,true),(36,true),(37,true),(38,true)] (by decide +kernel) Z (fun w9 e7=>?_)))))
   replace E:=E.trans e7;replace h1:=h1.ext e7;replace h2:=h2.ext e7
   have z9:=e7.size
   refine Qa (Qd Kc Z) Z (Qa (Qj Xi Z (h2.one 2 Z)) Z (Qa (Qe Z) Z ?_))
   have hi1 : k < x.inputs.length:=(by first | assumption | omega | (simp only [List.length_set];first | assumption | omega) | (simp only [List.getElem_set_self,List.length_set];first | assumption | omega) | (simp only [Xc,Yp,List.length_set];first | assumption | omega) | (simp;done))
   refine Qa (Ye (i:=k) X3 Z Z (hd4.rd.ext E) hi1) Z (Qa (Yt Uv Z) Z (Qa (Qj Y6 Z (((hd4.rd.ext E).get hi1).one 0 Z)) Z (Qa (Xs Z Z) Z (Qa (Qe Z) Z (Xg 31 [(3,.pointer (some ⟨b2,0,none⟩)),(4,.bool false),(5,.int .i64 4),(6,.int .i64 ((k : Nat) : Int)),(56,.int .i64 ((k : Nat) : Int)),(57,.pointer (some ⟨b2,2,none⟩)),(58,o4),(59,.int .i64 ((x.inputs.length : Nat) : Int)),(60,.bool (decide (((k : Nat) : Int) < ((x.inputs.length : Nat) : Int)))),(101,.bool (((((x.inputs[k]'hi1).op) != 0) || ((((x.inputs[k]'hi1).stamp).turn) != 0)) || ((decide (0 < ((k : Nat) : Int))) && (decide ((((x.inputs[k]'hi1).stamp).epoch) < (((List.getD x.inputs (k - 1) default).stamp).epoch))))))] (fun w'=>w9 = w') ?_ ?_)))))
   ·refine Ym (gd:=70) Z Z (fun hg7=>?_) (fun hg7=>?_)
    ·refine Qc Z Z Z Z (Qc Z Z Z Z (Qc Z Z Z Z (Qc Z Z Z Z (Qc Z Z Z Z (Qc Z Z Z Z (Qc Z Z Z Z (Qc Z Z Z Z (Qa (Qr Z Z) Z (Qa (Qe Z) Z (Qc Z Z Z Z (Qc Z Z Z Z (Qc Z Z Z Z (Q3 Z Z Z (Q3 Z Z Z (Q3 Z Z Z (Q3 Z Z Z (Q3 Z Z Z (Q3 Z Z Z (Q3 Z Z Z (Q3 Z Z Z (Q3 Z Z Z (Q3 Z Z Z (Q3 Z Z Z (Q3 Z Z Z (Q3 Z Z Z (Q3 Z Z Z (Q3 Z Z Z (Q3 Z Z Z (Qc Z Z Z Z (Qa (Qr Z Z) Z (Ql ⟨Z,Z,Z,Z,Z,Z,Z,Z,Z,congrArg (fun b=>some (Value.bool b)) (show true = (((((x.inputs[k]'hi1).op) != 0) || ((((x.inputs[k]'hi1).stamp).turn) != 0)) || ((decide (0 < ((k : Nat) : Int))) && (decide ((((x.inputs[k]'hi1).stamp).epoch) < (((List.getD x.inputs (k - 1) default).stamp).epoch))))) by first | (rw [hg7] <;> rfl) | (simp [hg7];done) | (simp only [Qp] <;> simp)),trivial⟩ Z)))))))))))))))))))))))))))))))
    ·refine Qk Z Z (Qd Kc Z) Z (Qk Z Z (Qj Xi Z (h2.one 2 Z)) Z (Qk Z Z (Qe Z) Z (Qk Z Z (Ye (i:=k) X3 Z Z (hd4.rd.ext E) hi1) Z (Qk Z Z (Yt Kz Z) Z (Qk Z Z (Yt Vv Z) Z (Qk Z Z (Qj Y6 Z (((hd4.rd.ext E).get hi1).one 2 Z)) Z (Qk Z Z (Xs Z Z) Z (Qa (Qq Z Z) Z (Qa (Qe Z) Z ?_)))))))))
     refine Ym (gd:=80) Z Z (fun hg8=>?_) (fun hg8=>?_)
     ·refine Qc Z Z Z Z (Qc Z Z Z Z (Qc Z Z Z Z (Q3 Z Z Z (Q3 Z Z Z (Q3 Z Z Z (Q3 Z Z Z (Q3 Z Z Z (Q3 Z Z Z (Q3 Z Z Z (Q3 Z Z Z (Q3 Z Z Z (Q3 Z Z Z (Q3 Z Z Z (Q3 Z Z Z (Q3 Z Z Z (Q3 Z Z Z (Q3 Z Z Z (Q3 Z Z Z (Qc Z Z Z Z (Qa (Qr Z Z) Z (Ql ⟨Z,Z,Z,Z,Z,Z,Z,Z,Z,congrArg (fun b=>some (Value.bool b)) (show true = (((((x.inputs[k]'hi1).op) != 0) || ((((x.inputs[k]'hi1).stamp).turn) != 0)) || ((decide (0 < ((k : Nat) : Int))) && (decide ((((x.inputs[k]'hi1).stamp).epoch) < (((List.getD x.inputs (k - 1) default).stamp).epoch))))) by first | (rw [hg7,hg8] <;> rfl) | (simp [hg7,hg8];done) | (simp only [Qp] <;> simp)),trivial⟩ Z)))))))))))))))))))))
     ·refine Qk Z Z (Qe Z) Z (Qk Z Z (Un Z Z) Z (Qk Z Z (Qe Z) Z ?_))
      refine Ym (gd:=83) Z Z (fun hg9=>?_) (fun hg9=>?_)
      ·have hg9n : k > 0:=by first | (have h:=of_decide_eq_true hg9;omega) | (have h:=hg9;simp at h;omega)
       refine Qk Z Z (Qd Kc Z) Z (Qk Z Z (Qj Xi Z (h2.one 2 Z)) Z (Qk Z Z (Qe Z) Z (Qk Z Z (U5 Z Z (sub_nat (by omega) (by unfold maxLen;omega))) Z (Qk Z Z (Ye (i:=(k - 1)) X3 Z Z (hd4.rd.ext E) (by first | assumption | omega | (simp only [List.length_set];first | assumption | omega) | (simp only [List.getElem_set_self,List.length_set];first | assumption | omega) | (simp only [Xc,Yp,List.length_set];first | assumption | omega) | (simp;done))) Z (Qk Z Z (Yt Kz Z) Z (Qk Z Z (Yt Vf Z) Z (Qk Z Z (Qj Y6 Z ((RdS.getD (hd4.rd.ext E) (i:=(k - 1)) (by first | assumption | omega | (simp only [List.length_set];first | assumption | omega) | (simp only [List.getElem_set_self,List.length_set];first | assumption | omega) | (simp only [Xc,Yp,List.length_set];first | assumption | omega) | (simp;done))).one 1 Z)) Z (Qk Z Z (Qd Kc Z) Z (Qk Z Z (Qj Xi Z (h2.one 2 Z)) Z (Qk Z Z (Qe Z) Z (Qk Z Z (Ye (i:=k) X3 Z Z (hd4.rd.ext E) hi1) Z (Qk Z Z (Yt Kz Z) Z (Qk Z Z (Yt Vf Z) Z (Qk Z Z (Qj Y6 Z (((hd4.rd.ext E).get hi1).one 1 Z)) Z (Qk Z Z (Un Z Z) Z (Qk Z Z (Qr Z Z) Z (Qa (Qq Z Z) Z (Ql ⟨Z,Z,Z,Z,Z,Z,Z,Z,Z,congrArg (fun b=>some (Value.bool b)) (show (decide ((((x.inputs[k]'hi1).stamp).epoch) < (((List.getD x.inputs (k - 1) default).stamp).epoch))) = (((((x.inputs[k]'hi1).op) != 0) || ((((x.inputs[k]'hi1).stamp).turn) != 0)) || ((decide (0 < ((k : Nat) : Int))) && (decide ((((x.inputs[k]'hi1).stamp).epoch) < (((List.getD x.inputs (k - 1) default).stamp).epoch))))) by first | (rw [hg7,hg8,hg9] <;> rfl) | (simp [hg7,hg8,hg9];done) | (simp only [Qp] <;> simp)),trivial⟩ Z))))))))))))))))))
      ·have hg9n : ¬ k > 0:=by first | (have h:=of_decide_eq_false hg9;omega) | (have h:=hg9;simp at h;omega)
       refine Qc Z Z Z Z (Qc Z Z Z Z (Qc Z Z Z Z (Qc Z Z Z Z (Qc Z Z Z Z (Qc Z Z Z Z (Qc Z Z Z Z (Qc Z Z Z Z (Qc Z Z Z Z (Qc Z Z Z Z (Qc Z Z Z Z (Qc Z Z Z Z (Qc Z Z Z Z (Qc Z Z Z Z (Qc Z Z Z Z (Qc Z Z Z Z (Qk Z Z (Qq Z Z) Z (Qa (Qq Z Z) Z (Ql ⟨Z,Z,Z,Z,Z,Z,Z,Z,Z,congrArg (fun b=>some (Value.bool b)) (show false = (((((x.inputs[k]'hi1).op) != 0) || ((((x.inputs[k]'hi1).stamp).turn) != 0)) || ((decide (0 < ((k : Nat) : Int))) && (decide ((((x.inputs[k]'hi1).stamp).epoch) < (((List.getD x.inputs (k - 1) default).stamp).epoch))))) by first | (rw [hg7,hg8,hg9] <;> rfl) | (simp [hg7,hg8,hg9];done) | (simp only [Qp] <;> simp)),trivial⟩ Z))))))))))))))))))
   rintro _ rfl
   refine Qf (Qw Z (fun hc3=>?_) (fun hc3=>?_))
   ·refine Qh (Qi [true] Z Z (Qa (Qg Z) Z (Qf (Qx (Qz (Xb (Qz (Q0 Z Z E ?_))))))))
    exact bf fun h=>by simp only [Yc,Bool.and_eq_true] at h;obtain ⟨⟨⟨⟨⟨⟨⟨⟨⟨q1,q2⟩,q3⟩,q4⟩,q5⟩,q6⟩,q7⟩,q8⟩,q9⟩,q10⟩:=h;have:=Gp q5 (by assumption);rw [Ch (by assumption),hc3] at this;cases this
   ·refine Qy (Yb (Yv (Qi [true,true,true] Z Z (Qa (Qe Z) Z (Qa (Yw Z Z (Y7 hc2n (hd4.ext E).1.1)) Z (Qa (Qg Z) Z (Qf (Yb (Yy (k + 1) (by omega) ⟨Z,Z,Z,Z,trivial⟩ ⟨E,(by omega),h1,h2,(by omega),allR_s hI1 ((Ch (by assumption)).trans (congrArg not hc3))⟩)))))))))
  ·have hc2n : ¬ k < x.inputs.length:=by first | (have h:=of_decide_eq_false hc2;omega) | (have h:=hc2;simp at h;omega)
   refine Xl (Ys (Yj ?_))
   refine Qh (Qh (Qi [true] Z Z (Qa (Qg Z) Z (Qf (Q9 (Xk (fun (k : Nat)=>[(3,.pointer (some ⟨b2,0,none⟩)),(4,.bool false),(5,.int .i64 4),(7,.int .i64 ((k : Nat) : Int))]) (fun (k : Nat) w'=>Ext w w' ∧ w8.heap.size ≤ w'.heap.size ∧ Blk w' b1 ([o1,.int .i64 g.workers,.int .i64 g.cap]) ∧ Blk w' b2 ([o2,o3,o4,o5,o6,o7,o8,o9]) ∧ k ≤ 4 ∧ (x.sums.take k).all (Y0 · (-1000000) 1000000) = true) (fun (k : Nat)=>4 - k) 0 ⟨Z,Z,Z,Z,trivial⟩ ⟨E,Nat.le_refl _,h1,h2,Nat.zero_le _,Z⟩ ?_))))))
   clear E h1 h2
   rintro k w11 ⟨E,z10,h1,h2,hk,hI2⟩
   have hs4:=wk_len hc1
   refine Qh (Qh (Qi [true,true,true] Z Z (Qa (Qe Z) Z (Qa (Qe Z) Z (Qa (Xn Z Z) Z (Qf (Qw Z (fun hc4=>?_) (fun hc4=>?_))))))))
   ·have hc4n : k < 4:=by first | (have h:=of_decide_eq_true hc4;omega) | (have h:=hc4;simp at h;omega)
    refine Qy (Qh (Q9 (Qh (Qi [true,true,true,true,true,false,true] Z Z (Qa (Qd Uc Z) Z (Qa (Qj Kg Z (h2.one 4 Z)) Z (Qa (Qe Z) Z ?_)))))))
    have hi2 : k < x.sums.length:=(by first | assumption | omega | (simp only [List.length_set];first | assumption | omega) | (simp only [List.getElem_set_self,List.length_set];first | assumption | omega) | (simp only [Xc,Yp,List.length_set];first | assumption | omega) | (simp;done))
    refine Qa (Ye (i:=k) Ke Z Z (hd6.rd.ext E) hi2) Z (Qa (Qj Y6 Z (((hd6.rd.ext E).get hi2).one 0 Z)) Z (Qv Tryz.call45 Z (s_l01In (x.sums[k]'hi2) (-1000000) 1000000 _ ) Z (fun _ w12 e8 hv=>?_)))
    subst hv
    replace E:=E.trans e8;replace h1:=h1.ext e8;replace h2:=h2.ext e8
    have z11:=e8.size
    refine Qa (Y1 Z) Z (Qf (Qw Z (fun hc5=>?_) (fun hc5=>?_)))
    ·refine Qh (Qi [true] Z Z (Qa (Qg Z) Z (Qf (Qx (Qz (Xb (Qz (Q0 Z Z E ?_))))))))
     exact bf fun h=>by simp only [Yc,Bool.and_eq_true] at h;obtain ⟨⟨⟨⟨⟨⟨⟨⟨⟨q1,q2⟩,q3⟩,q4⟩,q5⟩,q6⟩,q7⟩,q8⟩,q9⟩,q10⟩:=h;have:=List.all_eq_true.1 q9 _ (List.getElem_mem (by omega));simp only [this] at hc5;cases hc5
    ·refine Qy (Yb (Yv (Qi [true,true,true] Z Z (Qa (Qe Z) Z (Qa (Yw Z Z (Y7 hc4n (by first | assumption | (unfold maxLen;omega)))) Z (Qa (Qg Z) Z (Qf (Yb (Yy (k + 1) (by omega) ⟨Z,Z,Z,Z,trivial⟩ ⟨E,(by omega),h1,h2,(by omega),Ux hI2 (by omega) (by simpa using hc5)⟩)))))))))
   ·have hc4n : ¬ k < 4:=by first | (have h:=of_decide_eq_false hc4;omega) | (have h:=hc4;simp at h;omega)
    refine Xl (Ys (Yj ?_))
    refine Qh (Qh (Qi [true] Z Z (Qa (Qg Z) Z (Qf (Q9 (Xk (fun (i : Nat)=>[(3,.pointer (some ⟨b2,0,none⟩)),(4,.bool false),(8,.int .i64 ((i : Nat) : Int))]) (fun (i : Nat) w'=>Ext w w' ∧ w11.heap.size ≤ w'.heap.size ∧ Blk w' b1 ([o1,.int .i64 g.workers,.int .i64 g.cap]) ∧ Blk w' b2 ([o2,o3,o4,o5,o6,o7,o8,o9]) ∧ i ≤ x.dones.length ∧ G4 i (fun j=>Vg x.dones j) = true) (fun (i : Nat)=>x.dones.length - i) 0 ⟨Z,Z,Z,trivial⟩ ⟨E,Nat.le_refl _,h1,h2,Nat.zero_le _,Z⟩ ?_))))))
    clear E h1 h2
    rintro i w13 ⟨E,z12,h1,h2,hle,hI3⟩
    have hmd:=hd9.1.1
    unfold maxLen at hmd
    refine Qh (Qh (Qi [true,true,true,true,true] Z Z (Qa (Qe Z) Z (Qa (Qd Vk Z) Z (Qa (Qj Ts Z (h2.one 7 Z)) Z (Qa (Yg Tryz.underlying31 Z (hd9.ext E).len) Z (Qa (Xn Z Z) Z (Qf (Qw Z (fun hc6=>?_) (fun hc6=>?_))))))))))
    ·have hc6n : i < x.dones.length:=by first | (have h:=of_decide_eq_true hc6;omega) | (have h:=hc6;simp at h;omega)
     refine Qy (Qh (Q9 (Qh (Qh (Qi [true,true,true,true,true,true,false,true] Z Z (Qa (Qd Vk Z) Z (Qa (Qj Ts Z (h2.one 7 Z)) Z (Qa (Qe Z) Z ?_))))))))
     have hi3 : i < x.dones.length:=(by first | assumption | omega | (simp only [List.length_set];first | assumption | omega) | (simp only [List.getElem_set_self,List.length_set];first | assumption | omega) | (simp only [Xc,Yp,List.length_set];first | assumption | omega) | (simp;done))
     refine Qa (Ye (i:=i) Ta Z Z (hd9.rd.ext E) hi3) Z (Qa (Yt T4 Z) Z (Qa (Qj Y6 Z (((hd9.rd.ext E).get hi3).one 0 Z)) Z (Qv Tryz.call45 Z (s_l01In ((x.dones[i]'hi3).epoch) 0 3 _ ) Z (fun _ w14 e9 hv=>?_))))
     subst hv
     replace E:=E.trans e9;replace h1:=h1.ext e9;replace h2:=h2.ext e9
     have z13:=e9.size
     refine Qa (Y1 Z) Z (Qf (Qw Z (fun hc7=>?_) (fun hc7=>?_)))
     ·refine Qh (Qi [true] Z Z (Qa (Qg Z) Z (Qf (Qx (Qz (Xb (Qz (Q0 Z Z E ?_))))))))
      exact bf fun h=>by simp only [Yc,Bool.and_eq_true] at h;obtain ⟨⟨⟨⟨⟨⟨⟨⟨⟨q1,q2⟩,q3⟩,q4⟩,q5⟩,q6⟩,q7⟩,q8⟩,q9⟩,q10⟩:=h;have:=Gp q10 (by assumption);rw [Vq (by assumption)] at this;simp only [hc7,Bool.true_or] at this;cases this
     ·refine Qy (Qh (Qi [true] Z Z (Qa (Qg Z) Z (Qf (Q9 (Xk (fun (j : Nat)=>[(3,.pointer (some ⟨b2,0,none⟩)),(4,.bool false),(8,.int .i64 ((i : Nat) : Int)),(9,.int .i64 ((j : Nat) : Int))]) (fun (j : Nat) w'=>Ext w w' ∧ w14.heap.size ≤ w'.heap.size ∧ Blk w' b1 ([o1,.int .i64 g.workers,.int .i64 g.cap]) ∧ Blk w' b2 ([o2,o3,o4,o5,o6,o7,o8,o9]) ∧ j ≤ i ∧ (x.dones.take j).any (fun d=>d.epoch == (x.dones[i]'hi3).epoch) = false) (fun (j : Nat)=>i - j) 0 ⟨Z,Z,Z,Z,trivial⟩ ⟨E,Nat.le_refl _,h1,h2,Nat.zero_le _,Z⟩ ?_))))))
      clear E h1 h2
      rintro j w15 ⟨E,z14,h1,h2,hk,hJ⟩
      refine Qh (Qh (Qi [true,true,true] Z Z (Qa (Qe Z) Z (Qa (Qe Z) Z (Qa (Xn Z Z) Z (Qf (Qw Z (fun hc8=>?_) (fun hc8=>?_))))))))
      ·have hc8n : j < i:=by first | (have h:=of_decide_eq_true hc8;omega) | (have h:=hc8;simp at h;omega)
       refine Qy (Qh (Q9 (Qh (Xu Xo [(0,true),(1,true),(2,true),(3,true),(4,true),(5,true),(6,true),(7,true),(8,true),(9,true),(10,true),(11,true),(12,true)] (by decide +kernel) Z (fun w16 e10=>?_)))))
       replace E:=E.trans e10;replace h1:=h1.ext e10;replace h2:=h2.ext e10
       have z15:=e10.size
       refine Qa (Qd Vk Z) Z (Qa (Qj Ts Z (h2.one 7 Z)) Z (Qa (Qe Z) Z ?_))
       have hi4 : j < x.dones.length:=(by first | assumption | omega | (simp only [List.length_set];first | assumption | omega) | (simp only [List.getElem_set_self,List.length_set];first | assumption | omega) | (simp only [Xc,Yp,List.length_set];first | assumption | omega) | (simp;done))
       refine Qa (Ye (i:=j) Ta Z Z (hd9.rd.ext E) hi4) Z (Qa (Yt T4 Z) Z (Qa (Qj Y6 Z (((hd9.rd.ext E).get hi4).one 0 Z)) Z (Qa (Qd Vk Z) Z (Qa (Qj Ts Z (h2.one 7 Z)) Z (Qa (Qe Z) Z (Qa (Ye (i:=i) Ta Z Z (hd9.rd.ext E) hi3) Z (Qa (Yt T4 Z) Z (Qa (Qj Y6 Z (((hd9.rd.ext E).get hi3).one 0 Z)) Z (Qa (Yq Z Z) Z (Qf (Qw Z (fun hc9=>?_) (fun hc9=>?_))))))))))))
       ·refine Qh (Qi [true] Z Z (Qa (Qg Z) Z (Qf (Qx (Qz (Xb (Qz (Qz (Xb (Qz (Q0 Z Z E ?_)))))))))))
        exact bf fun h=>by simp only [Yc,Bool.and_eq_true] at h;obtain ⟨⟨⟨⟨⟨⟨⟨⟨⟨q1,q2⟩,q3⟩,q4⟩,q5⟩,q6⟩,q7⟩,q8⟩,q9⟩,q10⟩:=h;have:=Gp (j:=i) q10 (by omega);exact done_n this (by omega) (by assumption)
       ·refine Qy (Yb (Yv (Qi [true,true,true] Z Z (Qa (Qe Z) Z (Qa (Yw Z Z (Y7 hc8n (by first | assumption | (unfold maxLen;omega)))) Z (Qa (Qg Z) Z (Qf (Yb (Yy (j + 1) (by omega) ⟨Z,Z,Z,Z,trivial⟩ ⟨E,(by omega),h1,h2,(by omega),C9 hJ (by omega) (by assumption)⟩)))))))))
      ·have hc8n : ¬ j < i:=by first | (have h:=of_decide_eq_false hc8;omega) | (have h:=hc8;simp at h;omega)
       refine Xl (Ys (Yj ?_))
       refine Yb (Yv (Qi [true,true,true] Z Z (Qa (Qe Z) Z (Qa (Yw Z Z (Y7 hc6n (hd9.ext E).1.1)) Z (Qa (Qg Z) Z (Qf (Yb (Yy (i + 1) (by omega) ⟨Z,Z,Z,trivial⟩ ⟨E,(by omega),h1,h2,(by omega),(allR_s hI3 (done_s (h1:=hi3) (by assumption) hJ (by omega)))⟩))))))))
    ·have hc6n : ¬ i < x.dones.length:=by first | (have h:=of_decide_eq_false hc6;omega) | (have h:=hc6;simp at h;omega)
     refine Xl (Ys (Yj ?_))
     refine Qh (Qi [true] Z Z (Qa (Qg Z) Z (Qf (Qx (Q0 Z Z E ?_)))))
     exact wk_yes2 hc1 (Cl hI1 (by omega)) (all_end hI2 (by have:=wk_len hc1;omega)) (Cl hI3 (by omega))

set_option maxRecDepth 20000 in
theorem s_NodeOf (cg : List Value) (g : Graph) (op : Int) (w : World) (hg : Dat.R w 0 w.heap.size cg g) (hb : Uq g ≤ 1048576) : Ct Tryz.prog 63 [.agg cg.toArray,.int .i64 op] w (fun v w'=>∃ c0,v = .tuple [.agg c0.toArray,.bool ((Qn g op).2)].toArray ∧ Own1.O w' w.heap.size w'.heap.size c0 ((Qn g op).1)):=by
 refine Yx Tryz.func63 Z Tryz.ntmps63 Z ?_
 obtain ⟨o1,rfl,hd1⟩:=Graph.op hg
 refine Yh [(0,.agg [o1,.int .i64 g.workers,.int .i64 g.cap].toArray),(1,.int .i64 op)] ⟨Z,Z,trivial⟩ ?_
 have E : Ext w w:=Ext.refl w
 refine Qh (Qi [false,false,true] Z Z (Y5 Z Z (fun b1 w1 e1 s1 h1=>?_)))
 have g_b1 : w.heap.size ≤ b1:=by have:=E.size;omega
 have y_b1:=h1.lt
 replace E:=E.trans e1
 have z1:=e1.size
 refine Q6 Kn Z (fun b2 w2 e2 s2 h2=>?_)
 have g_b2 : w.heap.size ≤ b2:=by have:=E.size;omega
 have y_b2:=h2.lt
 replace E:=E.trans e2;replace h1:=h1.ext e2
 have z2:=e2.size
 refine Qa (Qg Z) Z (Qf (Qh (Qh (Qi [true,true,true,true,true,false,true] Z Z (Qa (Qe Z) Z (Qa (Qd Kr Z) Z (Qa (Qj V0 Z (h1.one 0 Z)) Z (Qa (Yg Tryz.underlying24 Z (hd1.ext E).len) Z (Qa (U5 Z Z Z) Z (Qv Tryz.call45 Z (s_l01In op 0 (IntKind.i64.wrap (((g.nodes.length : Nat) : Int) - 1)) _ ) Z (fun _ w3 e3 hv=>?_)))))))))))
 subst hv
 replace E:=E.trans e3;replace h1:=h1.ext e3;replace h2:=h2.ext e3
 have z3:=e3.size
 refine Qa (Y1 Z) Z (Qf (Qw Z (fun hc1=>?_) (fun hc1=>?_)))
 ·rw [isN_w hd1.1.1] at hc1
  refine Qh (Qi [true,false,true] Z Z ?_)
  have hbl1 : ∀ w,(Instr.build 77 ([]).toArray).run Tryz.prog w = .ok (.agg [.int .i64 0,.int .i64 0,.int .i64 0,.slice none 0 0].toArray) w:=by clear E;intro w;kernel_rfl
  refine Qa (K0 [.int .i64 0,.int .i64 0,.int .i64 0,.slice none 0 0] Z hbl1) Z (Qs (cs':=[.int .i64 0,.int .i64 0,.int .i64 0,.slice none 0 0]) Kn Z Z Z Z h2 (Nat.le_of_ble_eq_true Z) Z (fun w4 m1 h2'=>?_))
  replace h2:=h2'
  replace E:=E.step m1 (fun g hg=>by cases hg;omega);replace h1:=h1.mod m1 (fun g hg=>by cases hg;omega)
  have z4:=m1.size
  refine Qa (Qg Z) Z (Qf (Qx (Yo (l:=[.cell 4 77,.tmp 5]) (vs:=[.agg [.int .i64 0,.int .i64 0,.int .i64 0,.slice none 0 0].toArray,.bool false]) Z ⟨.cell Z (Qu Kn h2.at Z),.tmp Z,trivial⟩ Z E ?_)))
  rw [nodeOf_no (by simpa [Xd] using hc1)]
  exact ⟨_,Z,(Node.mkO (⟨0,0,0,[]⟩ : Node) ⟨trivial,trivial⟩ (Own.nil _ _ _ _))⟩
 ·rw [isN_w hd1.1.1] at hc1
  have hop:=Ue (by simpa [Xd] using hc1)
  refine Qy (Qh (Qi [true,true,true,true,true,false,false] Z Z (Qa (Qd Kr Z) Z (Qa (Qj V0 Z (h1.one 0 Z)) Z (Qa (Qe Z) Z ?_)))))
  have hi1 : (Int.toNat op) < g.nodes.length:=(by first | assumption | omega | (simp only [List.length_set];first | assumption | omega) | (simp only [List.getElem_set_self,List.length_set];first | assumption | omega) | (simp only [Xc,Yp,List.length_set];first | assumption | omega) | (simp;done))
  obtain ⟨_,hr1,ha1⟩:=RdD.get hd1 hi1
  obtain ⟨o2,rfl,hd2⟩:=Node.op hr1
  replace ha1 : At w (X8 o1) (Ko o1 + (Int.toNat op) * 4) [.int .i64 ((g.nodes[(Int.toNat op)]'hi1).kind),.int .i64 ((g.nodes[(Int.toNat op)]'hi1).a),.int .i64 ((g.nodes[(Int.toNat op)]'hi1).b),o2]:=ha1
  refine Qa (Ki (i:=(Int.toNat op)) Tb Z Z (hd1.ext E).1 (by omega) hi1) Z (Qa (Qo Kn Z (ha1.ext E) Z) Z (Q6 Kn Z (fun b3 w5 e4 s3 h3=>?_)))
  have g_b3 : w.heap.size ≤ b3:=by have:=E.size;omega
  have y_b3:=h3.lt
  replace E:=E.trans e4;replace h1:=h1.ext e4;replace h2:=h2.ext e4
  have z5:=e4.size
  refine Qs (cs':=[.int .i64 ((g.nodes[(Int.toNat op)]'hi1).kind),.int .i64 ((g.nodes[(Int.toNat op)]'hi1).a),.int .i64 ((g.nodes[(Int.toNat op)]'hi1).b),o2]) Kn Z Z Z (Qb Z (Qb Z (Qb Z (Qb (RdD.one (hd2.ext E)) Z)))) h3 (Nat.le_of_ble_eq_true Z) Z (fun w6 m2 h3'=>?_)
  replace h3:=h3'
  replace E:=E.step m2 (fun g hg=>by cases hg;omega);replace h1:=h1.mod m2 (fun g hg=>by cases hg;omega);replace h2:=h2.mod m2 (fun g hg=>by cases hg;omega)
  have z6:=m2.size
  refine Qf (Qh (Qi [false,true,true,false,true,false] Z Z (Q8 (vs:=[]) (css:=[]) Ke Z Z trivial Z Z (fun b4 w7 e5 s4 h4=>?_))))
  replace h4 : Blk w7 b4 []:=h4
  have g_b4 : w.heap.size ≤ b4:=by have:=E.size;omega
  have y_b4:=h4.lt
  replace E:=E.trans e5;replace h1:=h1.ext e5;replace h2:=h2.ext e5;replace h3:=h3.ext e5
  have z7:=e5.size
  refine Qa (Qd Xz Z) Z (Qa (Qj Kg Z (h3.one 3 Z)) Z (K2 Ke Z Z (Own.ofBlk (lo:=b4) (hi:=b4 + 1) (sz:=1) h4 (Nat.le_refl _) (Nat.lt_succ_self _) (by simp) (by simp [maxLen])) (RdS.src (hd2.rd.ext E)) (Xp _) (by have h:=outs_le hb (List.getElem_mem (l:=g.nodes) (n:=Int.toNat op) (by omega));rw [Ya];simp only [List.length_nil,show Enc.sz Int = 1 from Z];omega) (by decide) (by omega) (by omega) Z Z (fun v1 w8 m3 ho1=>?_)))
  replace E:=E.step m3 (fun g hg=>by have:=Own.blk (Own.ofBlk (lo:=b4) (hi:=b4 + 1) (sz:=1) h4 (Nat.le_refl _) (Nat.lt_succ_self _) (by simp) (by simp [maxLen])) g hg;omega);replace h1:=h1.mod m3 (fun g hg=>by have:=Own.blk (Own.ofBlk (lo:=b4) (hi:=b4 + 1) (sz:=1) h4 (Nat.le_refl _) (Nat.lt_succ_self _) (by simp) (by simp [maxLen])) g hg;omega);replace h2:=h2.mod m3 (fun g hg=>by have:=Own.blk (Own.ofBlk (lo:=b4) (hi:=b4 + 1) (sz:=1) h4 (Nat.le_refl _) (Nat.lt_succ_self _) (by simp) (by simp [maxLen])) g hg;omega);replace h3:=h3.mod m3 (fun g hg=>by have:=Own.blk (Own.ofBlk (lo:=b4) (hi:=b4 + 1) (sz:=1) h4 (Nat.le_refl _) (Nat.lt_succ_self _) (by simp) (by simp [maxLen])) g hg;omega)
  have z8:=m3.size
  refine Qa (Qd Xz Z) Z (Y4 (cs':=[.int .i64 ((g.nodes[(Int.toNat op)]'hi1).kind),.int .i64 ((g.nodes[(Int.toNat op)]'hi1).a),.int .i64 ((g.nodes[(Int.toNat op)]'hi1).b),v1]) Kg Z Z ho1.one h3 (Nat.le_of_ble_eq_true Z) Z (fun w9 m4 h3'=>?_))
  replace h3:=h3'
  replace E:=E.step m4 (fun g hg=>by cases hg;omega);replace h1:=h1.mod m4 (fun g hg=>by cases hg;omega);replace h2:=h2.mod m4 (fun g hg=>by cases hg;omega);replace ho1:=ho1.mod m4 (fun g hg=>by cases hg;omega)
  have z9:=m4.size
  refine Qf (Qh (Qi [true,false,true] Z Z (Qa (Qo Kn Z h3.at Z) Z (Qs (cs':=[.int .i64 ((g.nodes[(Int.toNat op)]'hi1).kind),.int .i64 ((g.nodes[(Int.toNat op)]'hi1).a),.int .i64 ((g.nodes[(Int.toNat op)]'hi1).b),v1]) Kn Z Z Z (Qb Z (Qb Z (Qb Z (Qb ho1.one Z)))) h2 (Nat.le_of_ble_eq_true Z) Z (fun w10 m5 h2'=>?_)))))
  replace h2:=h2'
  replace E:=E.step m5 (fun g hg=>by cases hg;omega);replace h1:=h1.mod m5 (fun g hg=>by cases hg;omega);replace h3:=h3.mod m5 (fun g hg=>by cases hg;omega);replace ho1:=ho1.mod m5 (fun g hg=>by cases hg;omega)
  have z10:=m5.size
  refine Qa (Qg Z) Z (Qf (Qx (Yo (l:=[.cell 4 77,.tmp 5]) (vs:=[.agg [.int .i64 ((g.nodes[(Int.toNat op)]'hi1).kind),.int .i64 ((g.nodes[(Int.toNat op)]'hi1).a),.int .i64 ((g.nodes[(Int.toNat op)]'hi1).b),v1].toArray,.bool true]) Z ⟨.cell Z (Qu Kn h2.at Z),.tmp Z,trivial⟩ Z E ?_)))
  rw [Cx (by assumption) ]
  exact ⟨_,Z,(Node.mkO (⟨(g.nodes[(Int.toNat op)]'hi1).kind,(g.nodes[(Int.toNat op)]'hi1).a,(g.nodes[(Int.toNat op)]'hi1).b,[] ++ ((g.nodes[(Int.toNat op)]'hi1).outs)⟩ : Node) ⟨trivial,trivial⟩ (Own.widen ho1 (by omega) (by omega)))⟩

set_option maxRecDepth 20000 in
theorem c_Capped (cg : List Value) (g : Graph) (r : Record) (w : World) (hg : Dat.R w 0 w.heap.size cg g) : Ct Tryz.prog 31 [.agg cg.toArray,.agg (Enc.enc r).toArray] w (fun v _=>v = .bool (Uz g r)):=by
 refine Yx Tryz.func31 Z Tryz.ntmps31 Z ?_
 obtain ⟨o1,rfl,hd1⟩:=Graph.op hg
 refine Yh [(0,.agg [o1,.int .i64 g.workers,.int .i64 g.cap].toArray),(1,.agg (Enc.enc r).toArray)] ⟨Z,Z,trivial⟩ ?_
 have E : Ext w w:=Ext.refl w
 refine Qh (Qi [false,false,true] Z Z (Y5 Z Z (fun b1 w1 e1 s1 h1=>?_)))
 have g_b1 : w.heap.size ≤ b1:=by have:=E.size;omega
 have y_b1:=h1.lt
 replace E:=E.trans e1
 have z1:=e1.size
 refine Y5 Z Z (fun b2 w2 e2 s2 h2=>?_)
 have g_b2 : w.heap.size ≤ b2:=by have:=E.size;omega
 have y_b2:=h2.lt
 replace E:=E.trans e2;replace h1:=h1.ext e2
 have z2:=e2.size
 refine Qa (Qg Z) Z (Qf (Qh (Qh (Qi [true,false,true,true,true,false,true,true,true,true,true,true,false,true,true] Z Z (Qa (Qo Xt Z h1.at Z) Z (Qv Tryz.call28 Z (c_GraphOk [o1,.int .i64 g.workers,.int .i64 g.cap] g _ (Graph.mkR g (RdD.any (hd1.ext E)))) Z (fun _ w3 e3 hv=>?_)))))))
 subst hv
 replace E:=E.trans e3;replace h1:=h1.ext e3;replace h2:=h2.ext e3
 have z3:=e3.size
 refine Qa (Y1 Z) Z (Qa (Qe Z) Z (Xg 11 [(0,.agg [o1,.int .i64 g.workers,.int .i64 g.cap].toArray),(1,.agg (Enc.enc r).toArray),(2,.pointer (some ⟨b1,0,none⟩)),(3,.pointer (some ⟨b2,0,none⟩)),(4,.bool false),(22,.bool (((!(Yf g)) || (!(Yn r))) || (!(Xd g r.op))))] (fun w'=>Ext w w' ∧ w3.heap.size ≤ w'.heap.size ∧ Blk w' b1 ([o1,.int .i64 g.workers,.int .i64 g.cap]) ∧ Blk w' b2 (Enc.enc r)) ?_ ?_))
 ·refine Ym (gd:=11) Z Z (fun hg1=>?_) (fun hg1=>?_)
  ·refine Qc Z Z Z Z ?_
   refine Q1 Z Z Z Z ?_
   refine Qc Z Z Z Z (Qa (Qr Z Z) Z (Qa (Qe Z) Z (Qc Z Z Z Z (Qc Z Z Z Z (Qc Z Z Z Z ?_)))))
   refine Q1 Z Z Z Z ?_
   refine Qc Z Z Z Z (Qa (Qr Z Z) Z (Ql ⟨Z,Z,Z,Z,Z,congrArg (fun b=>some (Value.bool b)) (show true = (((!(Yf g)) || (!(Yn r))) || (!(Xd g r.op))) by first | (rw [hg1] <;> rfl) | (simp [hg1];done) | (simp only [Qp] <;> simp)),trivial⟩ ⟨E,(by omega),h1,h2⟩))
  ·refine Qk Z Z (Qo Xh Z h2.at Z) Z ?_
   refine Y3 Z Z ?_
   refine Qv Tryz.call57 Z (c_RecordOk r _ ) Z (fun _ w5 e4 hv=>?_)
   subst hv
   replace E:=E.trans e4;replace h1:=h1.ext e4;replace h2:=h2.ext e4
   have z4:=e4.size
   refine Qk Z Z (Y1 Z) Z (Qa (Qq Z Z) Z (Qa (Qe Z) Z ?_))
   refine Ym (gd:=16) Z Z (fun hg2=>?_) (fun hg2=>?_)
   ·refine Qc Z Z Z Z (Qc Z Z Z Z (Qc Z Z Z Z ?_))
    refine Q1 Z Z Z Z ?_
    refine Qc Z Z Z Z (Qa (Qr Z Z) Z (Ql ⟨Z,Z,Z,Z,Z,congrArg (fun b=>some (Value.bool b)) (show true = (((!(Yf g)) || (!(Yn r))) || (!(Xd g r.op))) by first | (rw [hg1,hg2] <;> rfl) | (simp [hg1,hg2];done) | (simp only [Qp] <;> simp)),trivial⟩ ⟨E,(by omega),h1,h2⟩))
   ·refine Qk Z Z (Qo Xt Z h1.at Z) Z (Qk Z Z (Qd Uv Z) Z (Qk Z Z (Qj Y6 Z (h2.one 0 Z)) Z ?_))
    refine Y3 Z Z ?_
    refine Qv Tryz.call58 Z (c_isNode [o1,.int .i64 g.workers,.int .i64 g.cap] g r.op _ (Graph.mkR g (RdD.any (hd1.ext E)))) Z (fun _ w6 e5 hv=>?_)
    subst hv
    replace E:=E.trans e5;replace h1:=h1.ext e5;replace h2:=h2.ext e5
    have z5:=e5.size
    refine Qk Z Z (Y1 Z) Z (Qa (Qq Z Z) Z (Ql ⟨Z,Z,Z,Z,Z,congrArg (fun b=>some (Value.bool b)) (show (!(Xd g r.op)) = (((!(Yf g)) || (!(Yn r))) || (!(Xd g r.op))) by first | (rw [hg1,hg2] <;> rfl) | (simp [hg1,hg2];done) | (simp only [Qp] <;> simp)),trivial⟩ ⟨E,(by omega),h1,h2⟩))
 clear E h1 h2
 rintro w4 ⟨E,z6,h1,h2⟩
 refine Qf (Qw Z (fun hc1=>?_) (fun hc1=>?_))
 ·refine Qh (Qi [true] Z Z (Qa (Qg Z) Z (Qf (Qx (Q0 Z Z E ?_)))))
  exact bf fun h=>capped_no h hc1
 ·have hq3:=or3 hc1
  have hop:=Ue hq3.2.2
  refine Qy (Qh (Qi [true,true,true,true,true,true,false,false] Z Z (Qa (Qd Kr Z) Z (Qa (Qj V0 Z (h1.one 0 Z)) Z (Qa (Qd Uv Z) Z (Qa (Qj Y6 Z (h2.one 0 Z)) Z ?_))))))
  have hi1 : (Int.toNat r.op) < g.nodes.length:=(by first | assumption | omega | (simp only [List.length_set];first | assumption | omega) | (simp only [List.getElem_set_self,List.length_set];first | assumption | omega) | (simp only [Xc,Yp,List.length_set];first | assumption | omega) | (simp;done))
  obtain ⟨_,hr1,ha1⟩:=RdD.get hd1 hi1
  obtain ⟨o2,rfl,hd2⟩:=Node.op hr1
  replace ha1 : At w (X8 o1) (Ko o1 + (Int.toNat r.op) * 4) [.int .i64 ((g.nodes[(Int.toNat r.op)]'hi1).kind),.int .i64 ((g.nodes[(Int.toNat r.op)]'hi1).a),.int .i64 ((g.nodes[(Int.toNat r.op)]'hi1).b),o2]:=ha1
  refine Qa (Ki (i:=(Int.toNat r.op)) Tb Z Z (hd1.ext E).1 (by omega) hi1) Z (Qa (Qo Kn Z (ha1.ext E) Z) Z (Q6 Kn Z (fun b3 w7 e6 s3 h3=>?_)))
  have g_b3 : w.heap.size ≤ b3:=by have:=E.size;omega
  have y_b3:=h3.lt
  replace E:=E.trans e6;replace h1:=h1.ext e6;replace h2:=h2.ext e6
  have z7:=e6.size
  refine Qs (cs':=[.int .i64 ((g.nodes[(Int.toNat r.op)]'hi1).kind),.int .i64 ((g.nodes[(Int.toNat r.op)]'hi1).a),.int .i64 ((g.nodes[(Int.toNat r.op)]'hi1).b),o2]) Kn Z Z Z (Qb Z (Qb Z (Qb Z (Qb (RdD.one (hd2.ext E)) Z)))) h3 (Nat.le_of_ble_eq_true Z) Z (fun w8 m1 h3'=>?_)
  replace h3:=h3'
  replace E:=E.step m1 (fun g hg=>by cases hg;omega);replace h1:=h1.mod m1 (fun g hg=>by cases hg;omega);replace h2:=h2.mod m1 (fun g hg=>by cases hg;omega)
  have z8:=m1.size
  refine Qf (Qh (Qi [true,true,false,true,true,true,false,false,true] Z Z (Qa (Qd Kz Z) Z (Qa (Qo X2 Z (h2.part 1 [.int .i64 r.stamp.epoch,.int .i64 r.stamp.turn] Z) Z) Z (Qv Tryz.call61 Z (c_NextTurn r.stamp _ ) Z (fun _ w9 e7 hv=>?_))))))
  subst hv
  replace E:=E.trans e7;replace h1:=h1.ext e7;replace h2:=h2.ext e7;replace h3:=h3.ext e7
  have z9:=e7.size
  refine Qa (Qe Z) Z (Qa (Q5 Z Z) Z (Qa (Q5 Z Z) Z (Q6 X2 Z (fun b4 w10 e8 s4 h4=>?_))))
  have g_b4 : w.heap.size ≤ b4:=by have:=E.size;omega
  have y_b4:=h4.lt
  replace E:=E.trans e8;replace h1:=h1.ext e8;replace h2:=h2.ext e8;replace h3:=h3.ext e8
  have z10:=e8.size
  refine Qs (cs':=[.int .i64 (((Yr r.stamp).1).epoch),.int .i64 (((Yr r.stamp).1).turn)]) X2 Z Z Z Z h4 (Nat.le_of_ble_eq_true Z) Z (fun w11 m2 h4'=>?_)
  replace h4:=h4'
  replace E:=E.step m2 (fun g hg=>by cases hg;omega);replace h1:=h1.mod m2 (fun g hg=>by cases hg;omega);replace h2:=h2.mod m2 (fun g hg=>by cases hg;omega);replace h3:=h3.mod m2 (fun g hg=>by cases hg;omega)
  have z11:=m2.size
  refine Qa (Qg Z) Z (Qf (Qh (Qi [true,true,true,true,true,true,true,true,true,true,true,true,true,true] Z Z (Qa (Qd X7 Z) Z (Qa (Qj Y6 Z (h3.one 0 Z)) Z (Qa (Yq Z Z) Z (Qa (Qe Z) Z (Xg 9 [(0,.agg [o1,.int .i64 g.workers,.int .i64 g.cap].toArray),(1,.agg (Enc.enc r).toArray),(2,.pointer (some ⟨b1,0,none⟩)),(3,.pointer (some ⟨b2,0,none⟩)),(4,.bool false),(5,.pointer (some ⟨b3,0,none⟩)),(6,.pointer (some ⟨b4,0,none⟩)),(7,.bool ((Yr r.stamp).2)),(22,.bool (((!(Yf g)) || (!(Yn r))) || (!(Xd g r.op)))),(23,.pointer (some ⟨b1,0,none⟩)),(24,o1),(25,.pointer (some ⟨b2,0,none⟩)),(26,.int .i64 r.op),(27,.pointer (some ⟨X8 o1,Ko o1 + (Int.toNat r.op) * 4,none⟩)),(28,.agg [.int .i64 ((g.nodes[(Int.toNat r.op)]'hi1).kind),.int .i64 ((g.nodes[(Int.toNat r.op)]'hi1).a),.int .i64 ((g.nodes[(Int.toNat r.op)]'hi1).b),o2].toArray),(29,.tuple [.agg (Enc.enc ((Yr r.stamp).1)).toArray,.bool ((Yr r.stamp).2)].toArray),(30,.pointer (some ⟨b2,1,none⟩)),(31,.agg (Enc.enc r.stamp).toArray),(32,.tuple [.agg (Enc.enc ((Yr r.stamp).1)).toArray,.bool ((Yr r.stamp).2)].toArray),(33,.agg (Enc.enc ((Yr r.stamp).1)).toArray),(34,.bool ((Yr r.stamp).2)),(47,.bool (((((g.nodes[(Int.toNat r.op)]'hi1).kind) == 7) && (decide (0 < ((((g.nodes[(Int.toNat r.op)]'hi1).outs).length : Nat) : Int)))) && (!((Yr r.stamp).2))))] (fun w'=>w11 = w') ?_ ?_))))))))
  ·refine Ym (gd:=38) Z Z (fun hg3=>?_) (fun hg3=>?_)
   ·refine Qk Z Z (Qd Xz Z) Z (Qk Z Z (Qj Kg Z (h3.one 3 Z)) Z (Qk Z Z (Yg Tryz.underlying29 Z (hd2.ext E).len) Z (Qk Z Z (Un Z Z) Z (Qa (Qr Z Z) Z (Qa (Qe Z) Z ?_)))))
    refine Ym (gd:=44) Z Z (fun hg4=>?_) (fun hg4=>?_)
    ·have hg4n : ((g.nodes[(Int.toNat r.op)]'hi1).outs).length > 0:=by first | (have h:=of_decide_eq_true hg4;omega) | (have h:=hg4;simp at h;omega)
     refine Qk Z Z (Qe Z) Z (Qk Z Z (Y1 Z) Z (Qa (Qr Z Z) Z (Ql ⟨Z,Z,Z,Z,Z,Z,Z,Z,Z,Z,Z,Z,Z,Z,Z,Z,Z,Z,Z,Z,Z,congrArg (fun b=>some (Value.bool b)) (show (!((Yr r.stamp).2)) = (((((g.nodes[(Int.toNat r.op)]'hi1).kind) == 7) && (decide (0 < ((((g.nodes[(Int.toNat r.op)]'hi1).outs).length : Nat) : Int)))) && (!((Yr r.stamp).2))) by first | (rw [hg3,hg4] <;> rfl) | (simp [hg3,hg4];done) | (simp only [Qp] <;> simp)),trivial⟩ Z)))
    ·have hg4n : ¬ ((g.nodes[(Int.toNat r.op)]'hi1).outs).length > 0:=by first | (have h:=of_decide_eq_false hg4;omega) | (have h:=hg4;simp at h;omega)
     refine Qc Z Z Z Z (Qc Z Z Z Z (Qa (Qq Z Z) Z (Ql ⟨Z,Z,Z,Z,Z,Z,Z,Z,Z,Z,Z,Z,Z,Z,Z,Z,Z,Z,Z,Z,Z,congrArg (fun b=>some (Value.bool b)) (show false = (((((g.nodes[(Int.toNat r.op)]'hi1).kind) == 7) && (decide (0 < ((((g.nodes[(Int.toNat r.op)]'hi1).outs).length : Nat) : Int)))) && (!((Yr r.stamp).2))) by first | (rw [hg3,hg4] <;> rfl) | (simp [hg3,hg4];done) | (simp only [Qp] <;> simp)),trivial⟩ Z)))
   ·refine Qc Z Z Z Z (Qc Z Z Z Z (Qc Z Z Z Z (Qc Z Z Z Z (Qa (Qq Z Z) Z (Qa (Qe Z) Z (Qc Z Z Z Z (Qc Z Z Z Z (Qa (Qq Z Z) Z (Ql ⟨Z,Z,Z,Z,Z,Z,Z,Z,Z,Z,Z,Z,Z,Z,Z,Z,Z,Z,Z,Z,Z,congrArg (fun b=>some (Value.bool b)) (show false = (((((g.nodes[(Int.toNat r.op)]'hi1).kind) == 7) && (decide (0 < ((((g.nodes[(Int.toNat r.op)]'hi1).outs).length : Nat) : Int)))) && (!((Yr r.stamp).2))) by first | (rw [hg3] <;> rfl) | (simp [hg3];done) | (simp only [Qp] <;> simp)),trivial⟩ Z)))))))))
  rintro _ rfl
  refine Qa (Qg Z) Z (Qf (Qx (Q0 Z Z E ?_)))
  exact congrArg Value.bool (capped_yes hq3 (by omega)).symm

set_option maxRecDepth 20000 in
theorem s_Capped (cg : List Value) (g : Graph) (r : Record) (w : World) (hg : Dat.R w 0 w.heap.size cg g) (hb : Uq g ≤ 1048576) : Ct Tryz.prog 35 [.agg cg.toArray,.agg (Enc.enc r).toArray] w (fun v _=>v = .bool (Uz g r)):=by
 refine Yx Tryz.func35 Z Tryz.ntmps35 Z ?_
 obtain ⟨o1,rfl,hd1⟩:=Graph.op hg
 refine Yh [(0,.agg [o1,.int .i64 g.workers,.int .i64 g.cap].toArray),(1,.agg (Enc.enc r).toArray)] ⟨Z,Z,trivial⟩ ?_
 have E : Ext w w:=Ext.refl w
 refine Qh (Qi [false,false,true] Z Z (Y5 Z Z (fun b1 w1 e1 s1 h1=>?_)))
 have g_b1 : w.heap.size ≤ b1:=by have:=E.size;omega
 have y_b1:=h1.lt
 replace E:=E.trans e1
 have z1:=e1.size
 refine Y5 Z Z (fun b2 w2 e2 s2 h2=>?_)
 have g_b2 : w.heap.size ≤ b2:=by have:=E.size;omega
 have y_b2:=h2.lt
 replace E:=E.trans e2;replace h1:=h1.ext e2
 have z2:=e2.size
 refine Qa (Qg Z) Z (Qf (Qh (Qi [true,true,true,false,true,true,true,false,false,true] Z Z (Qa (Qo Xt Z h1.at Z) Z (Qa (Qd Uv Z) Z (Qa (Qj Y6 Z (h2.one 0 Z)) Z (Qv Tryz.call63 Z (s_NodeOf [o1,.int .i64 g.workers,.int .i64 g.cap] g r.op _ (Graph.mkR g (RdD.any (hd1.ext E))) (by first | omega | (simp only [Qt];omega) | (rw [Qt];done) | (simp only [Qt];done))) Z (fun _ w3 e3 ho1=>?_))))))))
 obtain ⟨_,rfl,ho2⟩:=ho1
 have g_ho1 : w.heap.size ≤ w2.heap.size:=E.size
 replace E:=E.trans e3;replace h1:=h1.ext e3;replace h2:=h2.ext e3
 have z3:=e3.size
 obtain ⟨o2,rfl,sp1,hw1⟩:=Node.opO ho2
 refine Qa (Qe Z) Z (Qa (Q5 Z Z) Z (Qa (Q5 Z Z) Z (Q6 Kn Z (fun b3 w4 e4 s3 h3=>?_))))
 have g_b3 : w.heap.size ≤ b3:=by have:=E.size;omega
 have y_b3:=h3.lt
 replace E:=E.trans e4;replace h1:=h1.ext e4;replace h2:=h2.ext e4;replace hw1:=hw1.ext e4
 have z4:=e4.size
 refine Qs (cs':=[.int .i64 (((Qn g r.op).1).kind),.int .i64 (((Qn g r.op).1).a),.int .i64 (((Qn g r.op).1).b),o2]) Kn Z Z Z (Qb Z (Qb Z (Qb Z (Qb hw1.one Z)))) h3 (Nat.le_of_ble_eq_true Z) Z (fun w5 m1 h3'=>?_)
 replace h3:=h3'
 replace E:=E.step m1 (fun g hg=>by cases hg;omega);replace h1:=h1.mod m1 (fun g hg=>by cases hg;omega);replace h2:=h2.mod m1 (fun g hg=>by cases hg;omega);replace hw1:=hw1.mod m1 (fun g hg=>by cases hg;omega)
 have z5:=m1.size
 refine Qa (Qg Z) Z (Qf (Qh (Qi [true,true,false,true,true,true,false,false,true] Z Z (Qa (Qd Kz Z) Z (Qa (Qo X2 Z (h2.part 1 [.int .i64 r.stamp.epoch,.int .i64 r.stamp.turn] Z) Z) Z (Qv Tryz.call68 Z (s_NextTurn r.stamp _ ) Z (fun _ w6 e5 hv=>?_)))))))
 subst hv
 replace E:=E.trans e5;replace h1:=h1.ext e5;replace h2:=h2.ext e5;replace hw1:=hw1.ext e5;replace h3:=h3.ext e5
 have z6:=e5.size
 refine Qa (Qe Z) Z (Qa (Q5 Z Z) Z (Qa (Q5 Z Z) Z (Q6 X2 Z (fun b4 w7 e6 s4 h4=>?_))))
 have g_b4 : w.heap.size ≤ b4:=by have:=E.size;omega
 have y_b4:=h4.lt
 replace E:=E.trans e6;replace h1:=h1.ext e6;replace h2:=h2.ext e6;replace hw1:=hw1.ext e6;replace h3:=h3.ext e6
 have z7:=e6.size
 refine Qs (cs':=[.int .i64 (((Yr r.stamp).1).epoch),.int .i64 (((Yr r.stamp).1).turn)]) X2 Z Z Z Z h4 (Nat.le_of_ble_eq_true Z) Z (fun w8 m2 h4'=>?_)
 replace h4:=h4'
 replace E:=E.step m2 (fun g hg=>by cases hg;omega);replace h1:=h1.mod m2 (fun g hg=>by cases hg;omega);replace h2:=h2.mod m2 (fun g hg=>by cases hg;omega);replace hw1:=hw1.mod m2 (fun g hg=>by cases hg;omega);replace h3:=h3.mod m2 (fun g hg=>by cases hg;omega)
 have z8:=m2.size
 refine Qa (Qg Z) Z (Qf (Qh (Qi [true,true,true,false,true,true,true,false,true,true,true,true,true,true,true,true,true,true,true,true,true,true,true,true,true] Z Z (Qa (Qe Z) Z (Qa (Qe Z) Z (Xg 22 [(0,.agg [o1,.int .i64 g.workers,.int .i64 g.cap].toArray),(1,.agg (Enc.enc r).toArray),(2,.pointer (some ⟨b1,0,none⟩)),(3,.pointer (some ⟨b2,0,none⟩)),(4,.bool false),(5,.pointer (some ⟨b3,0,none⟩)),(6,.bool ((Qn g r.op).2)),(7,.pointer (some ⟨b4,0,none⟩)),(8,.bool ((Yr r.stamp).2)),(9,.tuple [.agg [.int .i64 (((Qn g r.op).1).kind),.int .i64 (((Qn g r.op).1).a),.int .i64 (((Qn g r.op).1).b),o2].toArray,.bool ((Qn g r.op).2)].toArray),(10,.agg [o1,.int .i64 g.workers,.int .i64 g.cap].toArray),(11,.pointer (some ⟨b2,0,none⟩)),(12,.int .i64 r.op),(13,.tuple [.agg [.int .i64 (((Qn g r.op).1).kind),.int .i64 (((Qn g r.op).1).a),.int .i64 (((Qn g r.op).1).b),o2].toArray,.bool ((Qn g r.op).2)].toArray),(14,.agg [.int .i64 (((Qn g r.op).1).kind),.int .i64 (((Qn g r.op).1).a),.int .i64 (((Qn g r.op).1).b),o2].toArray),(15,.bool ((Qn g r.op).2)),(16,.tuple [.agg (Enc.enc ((Yr r.stamp).1)).toArray,.bool ((Yr r.stamp).2)].toArray),(17,.pointer (some ⟨b2,1,none⟩)),(18,.agg (Enc.enc r.stamp).toArray),(19,.tuple [.agg (Enc.enc ((Yr r.stamp).1)).toArray,.bool ((Yr r.stamp).2)].toArray),(20,.agg (Enc.enc ((Yr r.stamp).1)).toArray),(21,.bool ((Yr r.stamp).2)),(45,.bool (((((((Qn g r.op).2) && (Yf g)) && (Yn r)) && ((((Qn g r.op).1).kind) == 7)) && (decide (0 < (((((Qn g r.op).1).outs).length : Nat) : Int)))) && (!((Yr r.stamp).2))))] (fun w'=>Ext w w' ∧ w8.heap.size ≤ w'.heap.size ∧ Blk w' b1 ([o1,.int .i64 g.workers,.int .i64 g.cap]) ∧ Blk w' b2 (Enc.enc r) ∧ Own w' w2.heap.size w3.heap.size 1 o2 (List.flatMap (Enc.enc (α:=Int)) (((Qn g r.op).1).outs)) ∧ Blk w' b3 [.int .i64 (((Qn g r.op).1).kind),.int .i64 (((Qn g r.op).1).a),.int .i64 (((Qn g r.op).1).b),o2] ∧ Blk w' b4 [.int .i64 (((Yr r.stamp).1).epoch),.int .i64 (((Yr r.stamp).1).turn)]) ?_ ?_))))))
 ·refine Ym (gd:=23) Z Z (fun hg1=>?_) (fun hg1=>?_)
  ·refine Qk Z Z (Qo Xt Z h1.at Z) Z ?_
   refine Y3 Z Z ?_
   refine Qv Tryz.call33 Z (s_GraphOk [o1,.int .i64 g.workers,.int .i64 g.cap] g _ (Graph.mkR g (RdD.any (hd1.ext E)))) Z (fun _ w10 e7 hv=>?_)
   subst hv
   replace E:=E.trans e7;replace h1:=h1.ext e7;replace h2:=h2.ext e7;replace hw1:=hw1.ext e7;replace h3:=h3.ext e7;replace h4:=h4.ext e7
   have z9:=e7.size
   refine Qa (Qr Z Z) Z (Qa (Qe Z) Z (Ym (gd:=27) Z Z (fun hg2=>?_) (fun hg2=>?_)))
   ·refine Qk Z Z (Qo Xh Z h2.at Z) Z ?_
    refine Y3 Z Z ?_
    refine Qv Tryz.call64 Z (s_RecordOk r _ ) Z (fun _ w11 e8 hv=>?_)
    subst hv
    replace E:=E.trans e8;replace h1:=h1.ext e8;replace h2:=h2.ext e8;replace hw1:=hw1.ext e8;replace h3:=h3.ext e8;replace h4:=h4.ext e8
    have z10:=e8.size
    refine Qa (Qr Z Z) Z (Qa (Qe Z) Z (Ym (gd:=31) Z Z (fun hg3=>?_) (fun hg3=>?_)))
    ·refine Qk Z Z (Qd X7 Z) Z (Qk Z Z (Qj Y6 Z (h3.one 0 Z)) Z (Qk Z Z (Yq Z Z) Z (Qa (Qr Z Z) Z (Qa (Qe Z) Z ?_))))
     refine Ym (gd:=36) Z Z (fun hg4=>?_) (fun hg4=>?_)
     ·refine Qk Z Z (Qd Xz Z) Z (Qk Z Z (Qj Kg Z (h3.one 3 Z)) Z (Qk Z Z (Yg Tryz.underlying29 Z (Own.len (by decide) hw1)) Z (Qk Z Z (Un Z Z) Z (Qa (Qr Z Z) Z (Qa (Qe Z) Z ?_)))))
      refine Ym (gd:=42) Z Z (fun hg5=>?_) (fun hg5=>?_)
      ·have hg5n : (((Qn g r.op).1).outs).length > 0:=by first | (have h:=of_decide_eq_true hg5;omega) | (have h:=hg5;simp at h;omega)
       refine Qk Z Z (Qe Z) Z (Qk Z Z (Y1 Z) Z (Qa (Qr Z Z) Z (Ql ⟨Z,Z,Z,Z,Z,Z,Z,Z,Z,Z,Z,Z,Z,Z,Z,Z,Z,Z,Z,Z,Z,Z,congrArg (fun b=>some (Value.bool b)) (show (!((Yr r.stamp).2)) = (((((((Qn g r.op).2) && (Yf g)) && (Yn r)) && ((((Qn g r.op).1).kind) == 7)) && (decide (0 < (((((Qn g r.op).1).outs).length : Nat) : Int)))) && (!((Yr r.stamp).2))) by first | (rw [hg1,hg2,hg3,hg4,hg5] <;> rfl) | (simp [hg1,hg2,hg3,hg4,hg5];done) | (simp only [Qp] <;> simp)),trivial⟩ ⟨E,(by omega),h1,h2,hw1,h3,h4⟩)))
      ·have hg5n : ¬ (((Qn g r.op).1).outs).length > 0:=by first | (have h:=of_decide_eq_false hg5;omega) | (have h:=hg5;simp at h;omega)
       refine Qc Z Z Z Z (Qc Z Z Z Z (Qa (Qq Z Z) Z (Ql ⟨Z,Z,Z,Z,Z,Z,Z,Z,Z,Z,Z,Z,Z,Z,Z,Z,Z,Z,Z,Z,Z,Z,congrArg (fun b=>some (Value.bool b)) (show false = (((((((Qn g r.op).2) && (Yf g)) && (Yn r)) && ((((Qn g r.op).1).kind) == 7)) && (decide (0 < (((((Qn g r.op).1).outs).length : Nat) : Int)))) && (!((Yr r.stamp).2))) by first | (rw [hg1,hg2,hg3,hg4,hg5] <;> rfl) | (simp [hg1,hg2,hg3,hg4,hg5];done) | (simp only [Qp] <;> simp)),trivial⟩ ⟨E,(by omega),h1,h2,hw1,h3,h4⟩)))
     ·refine Qc Z Z Z Z (Qc Z Z Z Z (Qc Z Z Z Z (Qc Z Z Z Z (Qa (Qq Z Z) Z (Qa (Qe Z) Z (Qc Z Z Z Z (Qc Z Z Z Z (Qa (Qq Z Z) Z (Ql ⟨Z,Z,Z,Z,Z,Z,Z,Z,Z,Z,Z,Z,Z,Z,Z,Z,Z,Z,Z,Z,Z,Z,congrArg (fun b=>some (Value.bool b)) (show false = (((((((Qn g r.op).2) && (Yf g)) && (Yn r)) && ((((Qn g r.op).1).kind) == 7)) && (decide (0 < (((((Qn g r.op).1).outs).length : Nat) : Int)))) && (!((Yr r.stamp).2))) by first | (rw [hg1,hg2,hg3,hg4] <;> rfl) | (simp [hg1,hg2,hg3,hg4];done) | (simp only [Qp] <;> simp)),trivial⟩ ⟨E,(by omega),h1,h2,hw1,h3,h4⟩)))))))))
    ·refine Qc Z Z Z Z (Qc Z Z Z Z (Qc Z Z Z Z (Qa (Qq Z Z) Z (Qa (Qe Z) Z (Qc Z Z Z Z (Qc Z Z Z Z (Qc Z Z Z Z (Qc Z Z Z Z (Qa (Qq Z Z) Z (Qa (Qe Z) Z (Qc Z Z Z Z (Qc Z Z Z Z (Qa (Qq Z Z) Z (Ql ⟨Z,Z,Z,Z,Z,Z,Z,Z,Z,Z,Z,Z,Z,Z,Z,Z,Z,Z,Z,Z,Z,Z,congrArg (fun b=>some (Value.bool b)) (show false = (((((((Qn g r.op).2) && (Yf g)) && (Yn r)) && ((((Qn g r.op).1).kind) == 7)) && (decide (0 < (((((Qn g r.op).1).outs).length : Nat) : Int)))) && (!((Yr r.stamp).2))) by first | (rw [hg1,hg2,hg3] <;> rfl) | (simp [hg1,hg2,hg3];done) | (simp only [Qp] <;> simp)),trivial⟩ ⟨E,(by omega),h1,h2,hw1,h3,h4⟩))))))))))))))
   ·refine Qc Z Z Z Z ?_
    refine Q1 Z Z Z Z ?_
    refine Qa (Qq Z Z) Z (Qa (Qe Z) Z (Qc Z Z Z Z (Qc Z Z Z Z (Qc Z Z Z Z (Qa (Qq Z Z) Z (Qa (Qe Z) Z (Qc Z Z Z Z (Qc Z Z Z Z (Qc Z Z Z Z (Qc Z Z Z Z (Qa (Qq Z Z) Z (Qa (Qe Z) Z (Qc Z Z Z Z (Qc Z Z Z Z (Qa (Qq Z Z) Z (Ql ⟨Z,Z,Z,Z,Z,Z,Z,Z,Z,Z,Z,Z,Z,Z,Z,Z,Z,Z,Z,Z,Z,Z,congrArg (fun b=>some (Value.bool b)) (show false = (((((((Qn g r.op).2) && (Yf g)) && (Yn r)) && ((((Qn g r.op).1).kind) == 7)) && (decide (0 < (((((Qn g r.op).1).outs).length : Nat) : Int)))) && (!((Yr r.stamp).2))) by first | (rw [hg1,hg2] <;> rfl) | (simp [hg1,hg2];done) | (simp only [Qp] <;> simp)),trivial⟩ ⟨E,(by omega),h1,h2,hw1,h3,h4⟩))))))))))))))))
  ·refine Qc Z Z Z Z ?_
   refine Q1 Z Z Z Z ?_
   refine Qa (Qq Z Z) Z (Qa (Qe Z) Z (Qc Z Z Z Z (Q1 Z Z Z Z (Qa (Qq Z Z) Z (Qa (Qe Z) Z (Qc Z Z Z Z (Qc Z Z Z Z (Qc Z Z Z Z (Qa (Qq Z Z) Z (Qa (Qe Z) Z (Qc Z Z Z Z (Qc Z Z Z Z (Qc Z Z Z Z (Qc Z Z Z Z (Qa (Qq Z Z) Z (Qa (Qe Z) Z (Qc Z Z Z Z (Qc Z Z Z Z (Qa (Qq Z Z) Z (Ql ⟨Z,Z,Z,Z,Z,Z,Z,Z,Z,Z,Z,Z,Z,Z,Z,Z,Z,Z,Z,Z,Z,Z,congrArg (fun b=>some (Value.bool b)) (show false = (((((((Qn g r.op).2) && (Yf g)) && (Yn r)) && ((((Qn g r.op).1).kind) == 7)) && (decide (0 < (((((Qn g r.op).1).outs).length : Nat) : Int)))) && (!((Yr r.stamp).2))) by first | (rw [hg1] <;> rfl) | (simp [hg1];done) | (simp only [Qp] <;> simp)),trivial⟩ ⟨E,(by omega),h1,h2,hw1,h3,h4⟩))))))))))))))))))))
 clear E h1 h2 hw1 h3 h4
 rintro w9 ⟨E,z11,h1,h2,hw1,h3,h4⟩
 refine Qa (Qg Z) Z (Qf (Qx (Q0 Z Z E ?_)))
 rfl

set_option maxRecDepth 20000 in
theorem c_copyRecords (vxs : Value) (xs : List Record) (w : World) (hxs : RdS w vxs xs) (hb : xs.length ≤ 4194304) : Ct Tryz.prog 51 [vxs] w (fun v w'=>Own w' w.heap.size w'.heap.size 5 v (List.flatMap (Enc.enc (α:=Record)) xs)):=by
 refine Yx Tryz.func51 Z Tryz.ntmps51 Z ?_
 refine Yh [(0,vxs)] ⟨Z,trivial⟩ ?_
 have E : Ext w w:=Ext.refl w
 refine Qh (Qi [true] Z Z (Qa (Qg Z) Z (Qf (Qh (Qi [true,false,true] Z Z (Qa (Qe Z) Z (K2 X3 Z Z (Own.nil w w.heap.size w.heap.size 5) (RdS.src (hxs.ext E)) (Xp _) (by simp only [Ya,List.length_nil];simp only [Enc.sz];omega) (by decide) (by omega) (by omega) Z Z (fun v1 w1 m1 ho1=>?_))))))))
 replace E:=E.step m1 (fun g hg=>by have:=Own.blk (Own.nil w w.heap.size w.heap.size 5) g hg;omega)
 have z1:=m1.size
 refine Qa (Qg Z) Z (Qf (Qx (Q0 Z Z E ?_)))
 exact Own.fin ho1 (by have:=E.size;omega) (by omega) (by simp [*])

set_option maxRecDepth 20000 in
theorem c_copyCells (vxs : Value) (xs : List Cell) (w : World) (hxs : RdS w vxs xs) (hb : xs.length ≤ 4194304) : Ct Tryz.prog 52 [vxs] w (fun v w'=>Own w' w.heap.size w'.heap.size 4 v (List.flatMap (Enc.enc (α:=Cell)) xs)):=by
 refine Yx Tryz.func52 Z Tryz.ntmps52 Z ?_
 refine Yh [(0,vxs)] ⟨Z,trivial⟩ ?_
 have E : Ext w w:=Ext.refl w
 refine Qh (Qi [true] Z Z (Qa (Qg Z) Z (Qf (Qh (Qi [true,false,true] Z Z (Qa (Qe Z) Z (K2 X0 Z Z (Own.nil w w.heap.size w.heap.size 4) (RdS.src (hxs.ext E)) (Xp _) (by simp only [Ya,List.length_nil];simp only [Enc.sz];omega) (by decide) (by omega) (by omega) Z Z (fun v1 w1 m1 ho1=>?_))))))))
 replace E:=E.step m1 (fun g hg=>by have:=Own.blk (Own.nil w w.heap.size w.heap.size 4) g hg;omega)
 have z1:=m1.size
 refine Qa (Qg Z) Z (Qf (Qx (Q0 Z Z E ?_)))
 exact Own.fin ho1 (by have:=E.size;omega) (by omega) (by simp [*])

set_option maxRecDepth 20000 in
theorem c_copyWorker (cx : List Value) (x : Worker) (w : World) (hx : Dat.R w 0 w.heap.size cx x) (hb : Q4 x ≤ 1048576) : Ct Tryz.prog 27 [.agg cx.toArray] w (fun v w'=>∃ cs,v = .agg cs.toArray ∧ Own1.O w' w.heap.size w'.heap.size cs x):=by
 unfold Q4 at hb
 refine Yx Tryz.func27 Z Tryz.ntmps27 Z ?_
 obtain ⟨o1,o2,o3,o4,o5,o6,o7,o8,rfl,hd1,hd2,hd3,hd4,hd5,hd6,hd7,hd8⟩:=Worker.op hx
 refine Yh [(0,.agg [o1,o2,o3,o4,o5,o6,o7,o8].toArray)] ⟨Z,trivial⟩ ?_
 have E : Ext w w:=Ext.refl w
 refine Qh (Qi [false,false] Z Z (Y5 Z Z (fun b1 w1 e1 s1 h1=>?_)))
 have g_b1 : w.heap.size ≤ b1:=by have:=E.size;omega
 have y_b1:=h1.lt
 replace E:=E.trans e1
 have z1:=e1.size
 refine Q6 Q7 Z (fun b2 w2 e2 s2 h2=>?_)
 have g_b2 : w.heap.size ≤ b2:=by have:=E.size;omega
 have y_b2:=h2.lt
 replace E:=E.trans e2;replace h1:=h1.ext e2
 have z2:=e2.size
 refine Qf (Qh (Xu Xo [(0,true),(1,true),(3,true),(4,true),(6,true),(7,true),(9,true),(10,true),(12,true),(13,true),(15,true),(16,true),(18,true),(19,true),(21,true),(22,true),(2,false),(5,false),(8,false),(11,false),(14,false),(17,false),(20,false),(23,false),(24,true),(25,false)] (by decide +kernel) Z (fun w3 e3=>?_)))
 replace E:=E.trans e3;replace h1:=h1.ext e3;replace h2:=h2.ext e3
 have z3:=e3.size
 refine Qa (Qd Xj Z) Z (Qa (Qj Xi Z (h1.one 0 Z)) Z (Qa (Qd K7 Z) Z (Qa (Qj Xi Z (h1.one 1 Z)) Z (Qa (Qd Kc Z) Z (Qa (Qj Xi Z (h1.one 2 Z)) Z (Qa (Qd Vx Z) Z (Qa (Qj Cd Z (h1.one 3 Z)) Z (Qa (Qd Uc Z) Z (Qa (Qj Kg Z (h1.one 4 Z)) Z (Qa (Qd Vw Z) Z (Qa (Qj Gk Z (h1.one 5 Z)) Z (Qa (Qd G9 Z) Z (Qa (Qj Gk Z (h1.one 6 Z)) Z (Qa (Qd Vk Z) Z (Qa (Qj Ts Z (h1.one 7 Z)) Z (Qv Tryz.call51 Z (c_copyRecords o1 x.queue _ (hd1.rd.ext E) (by first | omega | (simp only [Qt];omega) | (rw [Qt];done) | (simp only [Qt];done))) Z (fun v1 w4 e4 ho1=>?_)))))))))))))))))
 have g_ho1 : w.heap.size ≤ w3.heap.size:=E.size
 replace E:=E.trans e4;replace h1:=h1.ext e4;replace h2:=h2.ext e4
 have z4:=e4.size
 refine Qv Tryz.call51 Z (c_copyRecords o2 x.staged _ (hd2.rd.ext E) (by first | omega | (simp only [Qt];omega) | (rw [Qt];done) | (simp only [Qt];done))) Z (fun v2 w5 e5 ho2=>?_)
 have g_ho2 : w.heap.size ≤ w4.heap.size:=E.size
 replace E:=E.trans e5;replace h1:=h1.ext e5;replace h2:=h2.ext e5;replace ho1:=ho1.ext e5
 have z5:=e5.size
 refine Qv Tryz.call51 Z (c_copyRecords o3 x.inputs _ (hd3.rd.ext E) (by first | omega | (simp only [Qt];omega) | (rw [Qt];done) | (simp only [Qt];done))) Z (fun v3 w6 e6 ho3=>?_)
 have g_ho3 : w.heap.size ≤ w5.heap.size:=E.size
 replace E:=E.trans e6;replace h1:=h1.ext e6;replace h2:=h2.ext e6;replace ho1:=ho1.ext e6;replace ho2:=ho2.ext e6
 have z6:=e6.size
 refine Qv Tryz.call52 Z (c_copyCells o4 x.cells _ (hd4.rd.ext E) (by first | omega | (simp only [Qt];omega) | (rw [Qt];done) | (simp only [Qt];done))) Z (fun v4 w7 e7 ho4=>?_)
 have g_ho4 : w.heap.size ≤ w6.heap.size:=E.size
 replace E:=E.trans e7;replace h1:=h1.ext e7;replace h2:=h2.ext e7;replace ho1:=ho1.ext e7;replace ho2:=ho2.ext e7;replace ho3:=ho3.ext e7
 have z7:=e7.size
 refine Gr Ke Z Z (Own.nil w7 w7.heap.size w7.heap.size 1) ⟨_,_,Z⟩ (RdS.src (hd5.rd.ext E)) (Xp _) (by simp only [Ya,List.length_nil];simp only [Enc.sz];omega) (by decide) (by omega) (by omega) Z (fun v5 w8 e8 ho5 hb_ho5=>?_)
 replace E:=E.trans e8;replace h1:=h1.ext e8;replace h2:=h2.ext e8;replace ho1:=ho1.ext e8;replace ho2:=ho2.ext e8;replace ho3:=ho3.ext e8;replace ho4:=ho4.ext e8
 have z8:=e8.size
 have g_ho5 : w.heap.size ≤ w7.heap.size:=by have:=E.size;omega
 replace ho5 : Own w8 w7.heap.size w8.heap.size 1 v5 (List.flatMap (Enc.enc (α:=Int)) x.sums):=ho5
 refine Gr Hr Z Z (Own.nil w8 w8.heap.size w8.heap.size 1) ⟨_,_,Z⟩ (RdS.src (hd6.rd.ext E)) (Xp _) (by simp only [Ya,List.length_nil];simp only [Enc.sz];omega) (by decide) (by omega) (by omega) Z (fun v6 w9 e9 ho6 hb_ho6=>?_)
 replace E:=E.trans e9;replace h1:=h1.ext e9;replace h2:=h2.ext e9;replace ho1:=ho1.ext e9;replace ho2:=ho2.ext e9;replace ho3:=ho3.ext e9;replace ho4:=ho4.ext e9;replace ho5:=ho5.ext e9
 have z9:=e9.size
 have g_ho6 : w.heap.size ≤ w8.heap.size:=by have:=E.size;omega
 replace ho6 : Own w9 w8.heap.size w9.heap.size 1 v6 (List.flatMap (Enc.enc (α:=Bool)) x.black):=ho6
 refine Gr Hr Z Z (Own.nil w9 w9.heap.size w9.heap.size 1) ⟨_,_,Z⟩ (RdS.src (hd7.rd.ext E)) (Xp _) (by simp only [Ya,List.length_nil];simp only [Enc.sz];omega) (by decide) (by omega) (by omega) Z (fun v7 w10 e10 ho7 hb_ho7=>?_)
 replace E:=E.trans e10;replace h1:=h1.ext e10;replace h2:=h2.ext e10;replace ho1:=ho1.ext e10;replace ho2:=ho2.ext e10;replace ho3:=ho3.ext e10;replace ho4:=ho4.ext e10;replace ho5:=ho5.ext e10;replace ho6:=ho6.ext e10
 have z10:=e10.size
 have g_ho7 : w.heap.size ≤ w9.heap.size:=by have:=E.size;omega
 replace ho7 : Own w10 w9.heap.size w10.heap.size 1 v7 (List.flatMap (Enc.enc (α:=Bool)) x.caps):=ho7
 refine Gr Ta Z Z (Own.nil w10 w10.heap.size w10.heap.size 2) ⟨_,_,Z⟩ (RdS.src (hd8.rd.ext E)) (Xp _) (by simp only [Ya,List.length_nil];simp only [Enc.sz];omega) (by decide) (by omega) (by omega) Z (fun v8 w11 e11 ho8 hb_ho8=>?_)
 replace E:=E.trans e11;replace h1:=h1.ext e11;replace h2:=h2.ext e11;replace ho1:=ho1.ext e11;replace ho2:=ho2.ext e11;replace ho3:=ho3.ext e11;replace ho4:=ho4.ext e11;replace ho5:=ho5.ext e11;replace ho6:=ho6.ext e11;replace ho7:=ho7.ext e11
 have z11:=e11.size
 have g_ho8 : w.heap.size ≤ w10.heap.size:=by have:=E.size;omega
 replace ho8 : Own w11 w10.heap.size w11.heap.size 2 v8 (List.flatMap (Enc.enc (α:=Done)) x.dones):=ho8
 have hbl1 : ∀ w,(Instr.build 33 ([(0,v1),(1,v2),(2,v3),(3,v4),(4,v5),(5,v6),(6,v7),(7,v8)]).toArray).run Tryz.prog w = .ok (.agg [v1,v2,v3,v4,v5,v6,v7,v8].toArray) w:=by clear E;obtain ⟨_,_,_,rfl⟩:=Own.shape ho1;obtain ⟨_,_,_,rfl⟩:=Own.shape ho2;obtain ⟨_,_,_,rfl⟩:=Own.shape ho3;obtain ⟨_,_,_,rfl⟩:=Own.shape ho4;obtain ⟨_,_,_,rfl⟩:=Own.shape ho5;obtain ⟨_,_,_,rfl⟩:=Own.shape ho6;obtain ⟨_,_,_,rfl⟩:=Own.shape ho7;obtain ⟨_,_,_,rfl⟩:=Own.shape ho8;intro w;kernel_rfl
 refine Qa (K0 [v1,v2,v3,v4,v5,v6,v7,v8] Z hbl1) Z (Qs (cs':=[v1,v2,v3,v4,v5,v6,v7,v8]) Q7 Z Z Z (Qb ho1.one (Qb ho2.one (Qb ho3.one (Qb ho4.one (Qb ho5.one (Qb ho6.one (Qb ho7.one (Qb ho8.one Z)))))))) h2 (Nat.le_of_ble_eq_true Z) Z (fun w12 m1 h2'=>?_))
 replace h2:=h2'
 replace E:=E.step m1 (fun g hg=>by cases hg;omega);replace h1:=h1.mod m1 (fun g hg=>by cases hg;omega);replace ho1:=ho1.mod m1 (fun g hg=>by cases hg;omega);replace ho2:=ho2.mod m1 (fun g hg=>by cases hg;omega);replace ho3:=ho3.mod m1 (fun g hg=>by cases hg;omega);replace ho4:=ho4.mod m1 (fun g hg=>by cases hg;omega);replace ho5:=ho5.mod m1 (fun g hg=>by cases hg;omega);replace ho6:=ho6.mod m1 (fun g hg=>by cases hg;omega);replace ho7:=ho7.mod m1 (fun g hg=>by cases hg;omega);replace ho8:=ho8.mod m1 (fun g hg=>by cases hg;omega)
 have z12:=m1.size
 refine Qf (Qx (Y8 Z Z (Qu Q7 h2.at Z) E ?_))
 exact ⟨_,Z,Worker.mkO x ⟨⟨(Own.sep ho1 ho2 (by omega)),⟨(Own.sep ho1 ho3 (by omega)),⟨(Own.sep ho1 ho4 (by omega)),⟨(Own.sep ho1 ho5 (by omega)),⟨(Own.sep ho1 ho6 (by omega)),⟨(Own.sep ho1 ho7 (by omega)),⟨(Own.sep ho1 ho8 (by omega)),trivial⟩⟩⟩⟩⟩⟩⟩,⟨⟨(Own.sep ho2 ho3 (by omega)),⟨(Own.sep ho2 ho4 (by omega)),⟨(Own.sep ho2 ho5 (by omega)),⟨(Own.sep ho2 ho6 (by omega)),⟨(Own.sep ho2 ho7 (by omega)),⟨(Own.sep ho2 ho8 (by omega)),trivial⟩⟩⟩⟩⟩⟩,⟨⟨(Own.sep ho3 ho4 (by omega)),⟨(Own.sep ho3 ho5 (by omega)),⟨(Own.sep ho3 ho6 (by omega)),⟨(Own.sep ho3 ho7 (by omega)),⟨(Own.sep ho3 ho8 (by omega)),trivial⟩⟩⟩⟩⟩,⟨⟨(Own.sep ho4 ho5 (by omega)),⟨(Own.sep ho4 ho6 (by omega)),⟨(Own.sep ho4 ho7 (by omega)),⟨(Own.sep ho4 ho8 (by omega)),trivial⟩⟩⟩⟩,⟨⟨(Own.sep ho5 ho6 (by omega)),⟨(Own.sep ho5 ho7 (by omega)),⟨(Own.sep ho5 ho8 (by omega)),trivial⟩⟩⟩,⟨⟨(Own.sep ho6 ho7 (by omega)),⟨(Own.sep ho6 ho8 (by omega)),trivial⟩⟩,⟨⟨(Own.sep ho7 ho8 (by omega)),trivial⟩,⟨trivial,trivial⟩⟩⟩⟩⟩⟩⟩⟩ (Own.widen ho1 (by omega) (by omega)) (Own.widen ho2 (by omega) (by omega)) (Own.widen ho3 (by omega) (by omega)) (Own.widen ho4 (by omega) (by omega)) (Own.widen ho5 (by omega) (by omega)) (Own.widen ho6 (by omega) (by omega)) (Own.widen ho7 (by omega) (by omega)) (Own.widen ho8 (by omega) (by omega))⟩

set_option maxHeartbeats 4000000 in
set_option maxRecDepth 20000 in
theorem s_l12Copy (cx : List Value) (x : Worker) (w : World) (hx : Dat.R w 0 w.heap.size cx x) (hb : Q4 x ≤ 1048576) : Ct Tryz.prog 32 [.agg cx.toArray] w (fun v w'=>∃ cs,v = .agg cs.toArray ∧ Own1.O w' w.heap.size w'.heap.size cs x):=by
 unfold Q4 at hb
 refine Yx Tryz.func32 Z Tryz.ntmps32 Z ?_
 obtain ⟨o1,o2,o3,o4,o5,o6,o7,o8,rfl,hd1,hd2,hd3,hd4,hd5,hd6,hd7,hd8⟩:=Worker.op hx
 refine Yh [(0,.agg [o1,o2,o3,o4,o5,o6,o7,o8].toArray)] ⟨Z,trivial⟩ ?_
 have E : Ext w w:=Ext.refl w
 refine Qh (Qi [false,false] Z Z (Y5 Z Z (fun b1 w1 e1 s1 h1=>?_)))
 have g_b1 : w.heap.size ≤ b1:=by have:=E.size;omega
 have y_b1:=h1.lt
 replace E:=E.trans e1
 have z1:=e1.size
 refine Q6 Q7 Z (fun b2 w2 e2 s2 h2=>?_)
 have g_b2 : w.heap.size ≤ b2:=by have:=E.size;omega
 have y_b2:=h2.lt
 replace E:=E.trans e2;replace h1:=h1.ext e2
 have z2:=e2.size
 refine Qf (Qh (S_regP Xo [(1,true),(2,true),(5,true),(6,true),(9,true),(10,true),(13,true),(14,true),(17,true),(18,true),(21,true),(22,true),(25,true),(26,true),(29,true),(30,true)] [⟨0,3,5,[],true,none,none⟩,⟨3,6,5,List.flatMap (Enc.enc (α:=Record)) x.queue,false,some (0,3),none⟩,⟨4,7,5,[],true,none,none⟩,⟨7,10,5,List.flatMap (Enc.enc (α:=Record)) x.staged,false,some (4,7),none⟩,⟨8,11,5,[],true,none,none⟩,⟨11,14,5,List.flatMap (Enc.enc (α:=Record)) x.inputs,false,some (8,11),none⟩,⟨12,15,4,[],true,none,none⟩,⟨15,18,4,List.flatMap (Enc.enc (α:=Cell)) x.cells,false,some (12,15),none⟩,⟨16,19,1,[],true,none,none⟩,⟨19,22,1,List.flatMap (Enc.enc (α:=Int)) x.sums,false,some (16,19),none⟩,⟨20,23,1,[],true,none,none⟩,⟨23,26,1,List.flatMap (Enc.enc (α:=Bool)) x.black,false,some (20,23),none⟩,⟨24,27,1,[],true,none,none⟩,⟨27,30,1,List.flatMap (Enc.enc (α:=Bool)) x.caps,false,some (24,27),none⟩,⟨28,31,2,[],true,none,none⟩,⟨31,34,2,List.flatMap (Enc.enc (α:=Done)) x.dones,false,some (28,31),none⟩] [(32,true),(33,false)] (by kernel_rfl) Z Z [(0,.agg [o1,o2,o3,o4,o5,o6,o7,o8].toArray),(1,.pointer (some ⟨b1,0,none⟩)),(2,.pointer (some ⟨b2,0,none⟩)),(4,.pointer (some ⟨b1,0,none⟩)),(5,o1),(8,.pointer (some ⟨b1,1,none⟩)),(9,o2),(12,.pointer (some ⟨b1,2,none⟩)),(13,o3),(16,.pointer (some ⟨b1,3,none⟩)),(17,o4),(20,.pointer (some ⟨b1,4,none⟩)),(21,o5),(24,.pointer (some ⟨b1,5,none⟩)),(25,o6),(28,.pointer (some ⟨b1,6,none⟩)),(29,o7),(32,.pointer (some ⟨b1,7,none⟩)),(33,o8)] (fun w'=>Ext w w' ∧ w2.heap.size ≤ w'.heap.size ∧ Blk w' b1 ([o1,o2,o3,o4,o5,o6,o7,o8]) ∧ Blk w' b2 [.slice none 0 0,.slice none 0 0,.slice none 0 0,.slice none 0 0,.slice none 0 0,.slice none 0 0,.slice none 0 0,.slice none 0 0]) (fun w3 e3=>?_) (fun w3 hphi_w3=>?_)))
 ·replace E:=E.trans e3;replace h1:=h1.ext e3;replace h2:=h2.ext e3
  have z3:=e3.size
  refine Qa (Qd Xj Z) Z (Qa (Qj Xi Z (h1.one 0 Z)) Z (Qa (Qd K7 Z) Z (Qa (Qj Xi Z (h1.one 1 Z)) Z (Qa (Qd Kc Z) Z (Qa (Qj Xi Z (h1.one 2 Z)) Z (Qa (Qd Vx Z) Z (Qa (Qj Cd Z (h1.one 3 Z)) Z (Qa (Qd Uc Z) Z (Qa (Qj Kg Z (h1.one 4 Z)) Z (Qa (Qd Vw Z) Z (Qa (Qj Gk Z (h1.one 5 Z)) Z (Qa (Qd G9 Z) Z (Qa (Qj Gk Z (h1.one 6 Z)) Z (Qa (Qd Vk Z) Z (Qa (Qj Ts Z (h1.one 7 Z)) Z (Ql ⟨Z,Z,Z,Z,Z,Z,Z,Z,Z,Z,Z,Z,Z,Z,Z,Z,Z,Z,Z,trivial⟩ ⟨E,(by omega),h1,h2⟩))))))))))))))))
 clear E h1 h2
 obtain ⟨E,z4,h1,h2⟩:=hphi_w3
 refine ⟨⟨⟨_,Z,Z,Z,Z,?_⟩,⟨_,Z,Z,Z,Z,?_⟩,⟨_,Z,Z,Z,Z,?_⟩,⟨_,Z,Z,Z,Z,?_⟩,⟨_,Z,Z,Z,Z,?_⟩,⟨_,Z,Z,Z,Z,?_⟩,⟨_,Z,Z,Z,Z,?_⟩,⟨_,Z,Z,Z,Z,?_⟩,⟨_,Z,Z,Z,Z,?_⟩,⟨_,Z,Z,Z,Z,?_⟩,⟨_,Z,Z,Z,Z,?_⟩,⟨_,Z,Z,Z,Z,?_⟩,⟨_,Z,Z,Z,Z,?_⟩,⟨_,Z,Z,Z,Z,?_⟩,⟨_,Z,Z,Z,Z,?_⟩,⟨_,Z,Z,Z,Z,?_⟩,trivial⟩,fun w4 e4=>?_⟩
 ·exact U7 X3
 ·exact U8 X3 Z (fun _ eX=>RdS.src (RdS.ext (hd1.rd.ext E) eX)) (Xp _) (by simp only [Ya,List.length_nil];simp only [Enc.sz];omega) (by decide)
 ·exact U7 X3
 ·exact U8 X3 Z (fun _ eX=>RdS.src (RdS.ext (hd2.rd.ext E) eX)) (Xp _) (by simp only [Ya,List.length_nil];simp only [Enc.sz];omega) (by decide)
 ·exact U7 X3
 ·exact U8 X3 Z (fun _ eX=>RdS.src (RdS.ext (hd3.rd.ext E) eX)) (Xp _) (by simp only [Ya,List.length_nil];simp only [Enc.sz];omega) (by decide)
 ·exact U7 X0
 ·exact U8 X0 Z (fun _ eX=>RdS.src (RdS.ext (hd4.rd.ext E) eX)) (Xp _) (by simp only [Ya,List.length_nil];simp only [Enc.sz];omega) (by decide)
 ·exact U7 Ke
 ·exact U8 Ke Z (fun _ eX=>RdS.src (RdS.ext (hd5.rd.ext E) eX)) (Xp _) (by simp only [Ya,List.length_nil];simp only [Enc.sz];omega) (by decide)
 ·exact U7 Hr
 ·exact U8 Hr Z (fun _ eX=>RdS.src (RdS.ext (hd6.rd.ext E) eX)) (Xp _) (by simp only [Ya,List.length_nil];simp only [Enc.sz];omega) (by decide)
 ·exact U7 Hr
 ·exact U8 Hr Z (fun _ eX=>RdS.src (RdS.ext (hd7.rd.ext E) eX)) (Xp _) (by simp only [Ya,List.length_nil];simp only [Enc.sz];omega) (by decide)
 ·exact U7 Ta
 ·exact U8 Ta Z (fun _ eX=>RdS.src (RdS.ext (hd8.rd.ext E) eX)) (Xp _) (by simp only [Ya,List.length_nil];simp only [Enc.sz];omega) (by decide)
 intro v1 f1 ho1 v2 f2 ho2 v3 f3 ho3 v4 f4 ho4 v5 f5 ho5 v6 f6 ho6 v7 f7 ho7 v8 f8 ho8 v9 f9 ho9 v10 f10 ho10 v11 f11 ho11 v12 f12 ho12 v13 f13 ho13 v14 f14 ho14 v15 f15 ho15 v16 f16 ho16 sp1
 obtain ⟨ho1,rfl⟩:=ho1
 obtain ⟨ho2,rfl⟩:=ho2
 obtain ⟨ho3,rfl⟩:=ho3
 obtain ⟨ho4,rfl⟩:=ho4
 obtain ⟨ho5,rfl⟩:=ho5
 obtain ⟨ho6,rfl⟩:=ho6
 obtain ⟨ho7,rfl⟩:=ho7
 obtain ⟨ho8,rfl⟩:=ho8
 obtain ⟨ho9,rfl⟩:=ho9
 obtain ⟨ho10,rfl⟩:=ho10
 obtain ⟨ho11,rfl⟩:=ho11
 obtain ⟨ho12,rfl⟩:=ho12
 obtain ⟨ho13,rfl⟩:=ho13
 obtain ⟨ho14,rfl⟩:=ho14
 obtain ⟨ho15,rfl⟩:=ho15
 obtain ⟨ho16,rfl⟩:=ho16
 replace sp1 : SepL [v2,v4,v6,v8,v10,v12,v14,v16]:=DjL.toSep (vs:=[v2,v4,v6,v8,v10,v12,v14,v16]) sp1
 have g_sp1 : w.heap.size ≤ w3.heap.size:=E.size
 replace E:=E.trans e4;replace h1:=h1.ext e4;replace h2:=h2.ext e4
 have z5:=e4.size
 clear ho1
 replace ho2 : Own w4 w3.heap.size w4.heap.size 5 v2 (List.flatMap (Enc.enc (α:=Record)) x.queue):=ho2
 clear ho3
 replace ho4 : Own w4 w3.heap.size w4.heap.size 5 v4 (List.flatMap (Enc.enc (α:=Record)) x.staged):=ho4
 clear ho5
 replace ho6 : Own w4 w3.heap.size w4.heap.size 5 v6 (List.flatMap (Enc.enc (α:=Record)) x.inputs):=ho6
 clear ho7
 replace ho8 : Own w4 w3.heap.size w4.heap.size 4 v8 (List.flatMap (Enc.enc (α:=Cell)) x.cells):=ho8
 clear ho9
 replace ho10 : Own w4 w3.heap.size w4.heap.size 1 v10 (List.flatMap (Enc.enc (α:=Int)) x.sums):=ho10
 clear ho11
 replace ho12 : Own w4 w3.heap.size w4.heap.size 1 v12 (List.flatMap (Enc.enc (α:=Bool)) x.black):=ho12
 clear ho13
 replace ho14 : Own w4 w3.heap.size w4.heap.size 1 v14 (List.flatMap (Enc.enc (α:=Bool)) x.caps):=ho14
 clear ho15
 replace ho16 : Own w4 w3.heap.size w4.heap.size 2 v16 (List.flatMap (Enc.enc (α:=Done)) x.dones):=ho16
 refine J_sub [(0,.agg [o1,o2,o3,o4,o5,o6,o7,o8].toArray),(1,.pointer (some ⟨b1,0,none⟩)),(2,.pointer (some ⟨b2,0,none⟩)),(4,.pointer (some ⟨b1,0,none⟩)),(5,o1),(6,v2),(8,.pointer (some ⟨b1,1,none⟩)),(9,o2),(10,v4),(12,.pointer (some ⟨b1,2,none⟩)),(13,o3),(14,v6),(16,.pointer (some ⟨b1,3,none⟩)),(17,o4),(18,v8),(20,.pointer (some ⟨b1,4,none⟩)),(21,o5),(22,v10),(24,.pointer (some ⟨b1,5,none⟩)),(25,o6),(26,v12),(28,.pointer (some ⟨b1,6,none⟩)),(29,o7),(30,v14),(32,.pointer (some ⟨b1,7,none⟩)),(33,o8),(34,v16)] ⟨Z,Z,Z,Z,Z,Z,Z,Z,Z,Z,Z,Z,Z,Z,Z,Z,Z,Z,Z,Z,Z,Z,Z,Z,Z,Z,Z,trivial⟩ ?_
 have hbl1 : ∀ w,(Instr.build 33 ([(0,v2),(1,v4),(2,v6),(3,v8),(4,v10),(5,v12),(6,v14),(7,v16)]).toArray).run Tryz.prog w = .ok (.agg [v2,v4,v6,v8,v10,v12,v14,v16].toArray) w:=by clear E;obtain ⟨_,_,_,rfl⟩:=Own.shape ho2;obtain ⟨_,_,_,rfl⟩:=Own.shape ho4;obtain ⟨_,_,_,rfl⟩:=Own.shape ho6;obtain ⟨_,_,_,rfl⟩:=Own.shape ho8;obtain ⟨_,_,_,rfl⟩:=Own.shape ho10;obtain ⟨_,_,_,rfl⟩:=Own.shape ho12;obtain ⟨_,_,_,rfl⟩:=Own.shape ho14;obtain ⟨_,_,_,rfl⟩:=Own.shape ho16;intro w;kernel_rfl
 refine Qa (K0 [v2,v4,v6,v8,v10,v12,v14,v16] Z hbl1) Z (Qs (cs':=[v2,v4,v6,v8,v10,v12,v14,v16]) Q7 Z Z Z (Qb ho2.one (Qb ho4.one (Qb ho6.one (Qb ho8.one (Qb ho10.one (Qb ho12.one (Qb ho14.one (Qb ho16.one Z)))))))) h2 (Nat.le_of_ble_eq_true Z) Z (fun w5 m1 h2'=>?_))
 replace h2:=h2'
 replace E:=E.step m1 (fun g hg=>by cases hg;omega);replace h1:=h1.mod m1 (fun g hg=>by cases hg;omega);replace ho2:=ho2.mod m1 (fun g hg=>by cases hg;omega);replace ho4:=ho4.mod m1 (fun g hg=>by cases hg;omega);replace ho6:=ho6.mod m1 (fun g hg=>by cases hg;omega);replace ho8:=ho8.mod m1 (fun g hg=>by cases hg;omega);replace ho10:=ho10.mod m1 (fun g hg=>by cases hg;omega);replace ho12:=ho12.mod m1 (fun g hg=>by cases hg;omega);replace ho14:=ho14.mod m1 (fun g hg=>by cases hg;omega);replace ho16:=ho16.mod m1 (fun g hg=>by cases hg;omega)
 have z6:=m1.size
 refine Qf (Qx (Y8 Z Z (Qu Q7 h2.at Z) E ?_))
 exact ⟨_,Z,Worker.mkO x sp1 (Own.widen ho2 (by omega) (by omega)) (Own.widen ho4 (by omega) (by omega)) (Own.widen ho6 (by omega) (by omega)) (Own.widen ho8 (by omega) (by omega)) (Own.widen ho10 (by omega) (by omega)) (Own.widen ho12 (by omega) (by omega)) (Own.widen ho14 (by omega) (by omega)) (Own.widen ho16 (by omega) (by omega))⟩

set_option maxHeartbeats 4000000 in
set_option maxRecDepth 20000 in
theorem s_WorkerNew (vxs : Value) (xs : List Record) (w : World) (hxs : RdS w vxs xs) (hb : xs.length ≤ 1048576) : Ct Tryz.prog 25 [vxs] w (fun v w'=>∃ cs,v = .agg cs.toArray ∧ Own1.O w' w.heap.size w'.heap.size cs (Yi xs)):=by
 refine Yx Tryz.func25 Z Tryz.ntmps25 Z ?_
 refine Yh [(0,vxs)] ⟨Z,trivial⟩ ?_
 have E : Ext w w:=Ext.refl w
 refine Qh (Qi [false] Z Z (Q6 Q7 Z (fun b1 w1 e1 s1 h1=>?_)))
 have g_b1 : w.heap.size ≤ b1:=by have:=E.size;omega
 have y_b1:=h1.lt
 replace E:=E.trans e1
 have z1:=e1.size
 refine Qf (Qh (Qi [true] Z Z (Qa (Qg Z) Z (Qf (Qh (S_regP Xo [(1,true),(3,true),(5,true),(7,true)] [⟨0,4,5,[],true,none,none⟩,⟨2,6,5,List.flatMap (Enc.enc (α:=Record)) xs,false,some (0,4),none⟩,⟨4,8,1,[.int .i64 0,.int .i64 0,.int .i64 0,.int .i64 0],false,none,none⟩,⟨6,10,1,[.bool false,.bool false,.bool false,.bool false],false,none,none⟩,⟨8,12,1,[.bool false,.bool false,.bool false,.bool false],false,none,none⟩] [(9,true),(10,false)] (by kernel_rfl) Z Z [(0,vxs),(2,.pointer (some ⟨b1,0,none⟩)),(3,.int .i64 4),(5,vxs),(7,.int .i64 4),(9,.int .i64 4),(11,.int .i64 4)] (fun w'=>Ext w w' ∧ w1.heap.size ≤ w'.heap.size ∧ Blk w' b1 [.slice none 0 0,.slice none 0 0,.slice none 0 0,.slice none 0 0,.slice none 0 0,.slice none 0 0,.slice none 0 0,.slice none 0 0]) (fun w2 e2=>?_) (fun w2 hphi_w2=>?_)))))))
 ·replace E:=E.trans e2;replace h1:=h1.ext e2
  have z2:=e2.size
  refine Qa (Qe Z) Z (Qa (Qe Z) Z (Qa (Qe Z) Z (Qa (Qe Z) Z (Ql ⟨Z,Z,Z,Z,Z,Z,Z,trivial⟩ ⟨E,(by omega),h1⟩))))
 clear E h1
 obtain ⟨E,z3,h1⟩:=hphi_w2
 refine ⟨⟨⟨_,Z,Z,Z,Z,?_⟩,⟨_,Z,Z,Z,Z,?_⟩,⟨_,Z,Z,Z,Z,?_⟩,⟨_,Z,Z,Z,Z,?_⟩,⟨_,Z,Z,Z,Z,?_⟩,trivial⟩,fun w3 e3=>?_⟩
 ·exact U7 X3
 ·exact U8 X3 Z (fun _ eX=>RdS.src (RdS.ext (hxs.ext E) eX)) (Xp _) (by simp only [Ya,List.length_nil];simp only [Enc.sz];omega) (by decide)
 ·exact Tq (m:=4) Ke Z Z (by decide) (by decide) Z Z
 ·exact Tq (m:=4) Hr Z Z (by decide) (by decide) Z Z
 ·exact Tq (m:=4) Hr Z Z (by decide) (by decide) Z Z
 intro v1 f1 ho1 v2 f2 ho2 v3 f3 ho3 v4 f4 ho4 v5 f5 ho5 sp1
 obtain ⟨ho1,rfl⟩:=ho1
 obtain ⟨ho2,rfl⟩:=ho2
 obtain ⟨ho3,rfl⟩:=ho3
 obtain ⟨ho4,rfl⟩:=ho4
 obtain ⟨ho5,rfl⟩:=ho5
 replace sp1 : SepL [v2,v3,v4,v5]:=DjL.toSep (vs:=[v2,v3,v4,v5]) sp1
 have g_sp1 : w.heap.size ≤ w2.heap.size:=E.size
 replace E:=E.trans e3;replace h1:=h1.ext e3
 have z4:=e3.size
 clear ho1
 replace ho2 : Own w3 w2.heap.size w3.heap.size 5 v2 (List.flatMap (Enc.enc (α:=Record)) xs):=ho2
 replace ho3 : Own w3 w2.heap.size w3.heap.size 1 v3 (List.flatMap (Enc.enc (α:=Int)) [0,0,0,0]):=ho3
 replace ho4 : Own w3 w2.heap.size w3.heap.size 1 v4 (List.flatMap (Enc.enc (α:=Bool)) [false,false,false,false]):=ho4
 replace ho5 : Own w3 w2.heap.size w3.heap.size 1 v5 (List.flatMap (Enc.enc (α:=Bool)) [false,false,false,false]):=ho5
 refine J_sub [(0,vxs),(2,.pointer (some ⟨b1,0,none⟩)),(3,.int .i64 4),(5,vxs),(6,v2),(7,.int .i64 4),(8,v3),(9,.int .i64 4),(10,v4),(11,.int .i64 4),(12,v5)] ⟨Z,Z,Z,Z,Z,Z,Z,Z,Z,Z,Z,trivial⟩ ?_
 have hbl1 : ∀ w,(Instr.build 33 ([(2,v2),(4,v3),(5,v4),(6,v5)]).toArray).run Tryz.prog w = .ok (.agg [.slice none 0 0,.slice none 0 0,v2,.slice none 0 0,v3,v4,v5,.slice none 0 0].toArray) w:=by clear E;obtain ⟨_,_,_,rfl⟩:=Own.shape ho2;obtain ⟨_,_,_,rfl⟩:=Own.shape ho3;obtain ⟨_,_,_,rfl⟩:=Own.shape ho4;obtain ⟨_,_,_,rfl⟩:=Own.shape ho5;intro w;kernel_rfl
 refine Qa (K0 [.slice none 0 0,.slice none 0 0,v2,.slice none 0 0,v3,v4,v5,.slice none 0 0] Z hbl1) Z (Qs (cs':=[.slice none 0 0,.slice none 0 0,v2,.slice none 0 0,v3,v4,v5,.slice none 0 0]) Q7 Z Z Z (Qb Z (Qb Z (Qb ho2.one (Qb Z (Qb ho3.one (Qb ho4.one (Qb ho5.one (Qb Z Z)))))))) h1 (Nat.le_of_ble_eq_true Z) Z (fun w4 m1 h1'=>?_))
 replace h1:=h1'
 replace E:=E.step m1 (fun g hg=>by cases hg;omega);replace ho2:=ho2.mod m1 (fun g hg=>by cases hg;omega);replace ho3:=ho3.mod m1 (fun g hg=>by cases hg;omega);replace ho4:=ho4.mod m1 (fun g hg=>by cases hg;omega);replace ho5:=ho5.mod m1 (fun g hg=>by cases hg;omega)
 have z5:=m1.size
 refine Qf (Qx (Y8 Z Z (Qu Q7 h1.at Z) E ?_))
 exact ⟨_,Z,Worker.mkO (⟨[],[],xs,[],[0,0,0,0],[false,false,false,false],[false,false,false,false],[]⟩ : Worker) ⟨⟨(Sep.nilL _),⟨(Sep.nilL _),⟨(Sep.nilL _),⟨(Sep.nilL _),⟨(Sep.nilL _),⟨(Sep.nilL _),⟨(Sep.nilL _),trivial⟩⟩⟩⟩⟩⟩⟩,⟨⟨(Sep.nilL _),⟨(Sep.nilL _),⟨(Sep.nilL _),⟨(Sep.nilL _),⟨(Sep.nilL _),⟨(Sep.nilL _),trivial⟩⟩⟩⟩⟩⟩,⟨⟨(Sep.nilR _),⟨sp1.1.1,⟨sp1.1.2.1,⟨sp1.1.2.2.1,⟨(Sep.nilR _),trivial⟩⟩⟩⟩⟩,⟨⟨(Sep.nilL _),⟨(Sep.nilL _),⟨(Sep.nilL _),⟨(Sep.nilL _),trivial⟩⟩⟩⟩,⟨⟨sp1.2.1.1,⟨sp1.2.1.2.1,⟨(Sep.nilR _),trivial⟩⟩⟩,⟨⟨sp1.2.2.1.1,⟨(Sep.nilR _),trivial⟩⟩,⟨⟨(Sep.nilR _),trivial⟩,⟨trivial,trivial⟩⟩⟩⟩⟩⟩⟩⟩ (Own.nil _ _ _ _) (Own.nil _ _ _ _) (Own.widen ho2 (by omega) (by omega)) (Own.nil _ _ _ _) (Own.widen ho3 (by omega) (by omega)) (Own.widen ho4 (by omega) (by omega)) (Own.widen ho5 (by omega) (by omega)) (Own.nil _ _ _ _)⟩

set_option maxRecDepth 20000 in
theorem s_Kept (cx : List Value) (x : Worker) (r : Record) (w : World) (hx : Dat.R w 0 w.heap.size cx x) (hb : Q4 x ≤ 1048576) : Ct Tryz.prog 20 [.agg cx.toArray,.agg (Enc.enc r).toArray] w (fun v w'=>∃ cs,v = .agg cs.toArray ∧ Own1.O w' w.heap.size w'.heap.size cs (Yz x r)):=by
 have hb2:=hb
 unfold Q4 at hb2
 refine Yx Tryz.func20 Z Tryz.ntmps20 Z ?_
 obtain ⟨o1,o2,o3,o4,o5,o6,o7,o8,rfl,hd1,hd2,hd3,hd4,hd5,hd6,hd7,hd8⟩:=Worker.op hx
 refine Yh [(0,.agg [o1,o2,o3,o4,o5,o6,o7,o8].toArray),(1,.agg (Enc.enc r).toArray)] ⟨Z,Z,trivial⟩ ?_
 have E : Ext w w:=Ext.refl w
 refine Qh (Qi [false,false,false] Z Z (Y5 Z Z (fun b1 w1 e1 s1 h1=>?_)))
 have g_b1 : w.heap.size ≤ b1:=by have:=E.size;omega
 have y_b1:=h1.lt
 replace E:=E.trans e1
 have z1:=e1.size
 refine Y5 Z Z (fun b2 w2 e2 s2 h2=>?_)
 have g_b2 : w.heap.size ≤ b2:=by have:=E.size;omega
 have y_b2:=h2.lt
 replace E:=E.trans e2;replace h1:=h1.ext e2
 have z2:=e2.size
 refine Q6 Q7 Z (fun b3 w3 e3 s3 h3=>?_)
 have g_b3 : w.heap.size ≤ b3:=by have:=E.size;omega
 have y_b3:=h3.lt
 replace E:=E.trans e3;replace h1:=h1.ext e3;replace h2:=h2.ext e3
 have z3:=e3.size
 refine Qf (Qh (Qi [true,false,false] Z Z (Qa (Qo Q7 Z h1.at Z) Z (Qv Tryz.call32 Z (s_l12Copy [o1,o2,o3,o4,o5,o6,o7,o8] x _ (Worker.mkR x (RdD.any (hd1.ext E)) (RdD.any (hd2.ext E)) (RdD.any (hd3.ext E)) (RdD.any (hd4.ext E)) (RdD.any (hd5.ext E)) (RdD.any (hd6.ext E)) (RdD.any (hd7.ext E)) (RdD.any (hd8.ext E))) (by first | omega | (simp only [Qt];omega) | (rw [Qt];done) | (simp only [Qt];done))) Z (fun _ w4 e4 ho1=>?_)))))
 obtain ⟨_,rfl,ho1⟩:=ho1
 have g_ho1 : w.heap.size ≤ w3.heap.size:=E.size
 replace E:=E.trans e4;replace h1:=h1.ext e4;replace h2:=h2.ext e4;replace h3:=h3.ext e4
 have z4:=e4.size
 obtain ⟨o9,o10,o11,o12,o13,o14,o15,o16,rfl,sp1,hw1,hw2,hw3,hw4,hw5,hw6,hw7,hw8⟩:=Worker.opO ho1
 refine Qs (cs':=[o9,o10,o11,o12,o13,o14,o15,o16]) Q7 Z Z Z (Qb hw1.one (Qb hw2.one (Qb hw3.one (Qb hw4.one (Qb hw5.one (Qb hw6.one (Qb hw7.one (Qb hw8.one Z)))))))) h1 (Nat.le_of_ble_eq_true Z) Z (fun w5 m1 h1'=>?_)
 replace h1:=h1'
 replace E:=E.step m1 (fun g hg=>by cases hg;omega);replace h2:=h2.mod m1 (fun g hg=>by cases hg;omega);replace h3:=h3.mod m1 (fun g hg=>by cases hg;omega);replace hw1:=hw1.mod m1 (fun g hg=>by cases hg;omega);replace hw2:=hw2.mod m1 (fun g hg=>by cases hg;omega);replace hw3:=hw3.mod m1 (fun g hg=>by cases hg;omega);replace hw4:=hw4.mod m1 (fun g hg=>by cases hg;omega);replace hw5:=hw5.mod m1 (fun g hg=>by cases hg;omega);replace hw6:=hw6.mod m1 (fun g hg=>by cases hg;omega);replace hw7:=hw7.mod m1 (fun g hg=>by cases hg;omega);replace hw8:=hw8.mod m1 (fun g hg=>by cases hg;omega)
 have z5:=m1.size
 refine Qf (Qh (Qi [true,true,true,false,false,true,false] Z Z (Qa (Qd Xj Z) Z (Qa (Qj Xi Z (h1.one 0 Z)) Z (Qa (Qo Xh Z h2.at Z) Z (Q8 (vs:=[.agg (Enc.enc r).toArray]) (css:=[[.int .i64 r.op,.int .i64 r.stamp.epoch,.int .i64 r.stamp.turn,.int .i64 r.key,.int .i64 r.val]]) X3 Z Z ⟨⟨Z,Z⟩,trivial⟩ Z Z (fun b4 w6 e5 s4 h4=>?_)))))))
 replace h4 : Blk w6 b4 [.int .i64 r.op,.int .i64 r.stamp.epoch,.int .i64 r.stamp.turn,.int .i64 r.key,.int .i64 r.val]:=h4
 have g_b4 : w.heap.size ≤ b4:=by have:=E.size;omega
 have y_b4:=h4.lt
 replace E:=E.trans e5;replace h1:=h1.ext e5;replace h2:=h2.ext e5;replace h3:=h3.ext e5;replace hw1:=hw1.ext e5;replace hw2:=hw2.ext e5;replace hw3:=hw3.ext e5;replace hw4:=hw4.ext e5;replace hw5:=hw5.ext e5;replace hw6:=hw6.ext e5;replace hw7:=hw7.ext e5;replace hw8:=hw8.ext e5
 have z6:=e5.size
 refine Kd X3 Z Z hw1 (Src.ofBlk h4 Z) Z (by simp only [Ya];simp [Enc.sz];omega) (by decide) (by omega) (by omega) Z Z (fun v1 w7 m2 ho2 hb1=>?_)
 have hn1 : ∀ g,Value.ownBlock v1 = some g → g < w4.heap.size ∨ w6.heap.size ≤ g:=fun g hg=>(hb1 g hg).elim (fun h=>.inl (by have:=Own.blk hw1 g h;omega)) (fun h=>.inr h)
 have sq1:=sp1
 replace sp1:=SepL.set hb1 0 rfl sp1 ⟨(Own.lt hw1),(Own.lt hw2),(Own.lt hw3),(Own.lt hw4),(Own.lt hw5),(Own.lt hw6),(Own.lt hw7),(Own.lt hw8),trivial⟩
 replace sp1 : SepL [v1,o10,o11,o12,o13,o14,o15,o16]:=sp1
 replace E:=E.step m2 (fun g hg=>by have:=Own.blk hw1 g hg;omega);replace h1:=h1.mod m2 (fun g hg=>by have:=Own.blk hw1 g hg;omega);replace h2:=h2.mod m2 (fun g hg=>by have:=Own.blk hw1 g hg;omega);replace h3:=h3.mod m2 (fun g hg=>by have:=Own.blk hw1 g hg;omega);replace hw2:=Own.modS hw2 m2 sq1.1.1;replace hw3:=Own.modS hw3 m2 sq1.1.2.1;replace hw4:=Own.modS hw4 m2 sq1.1.2.2.1;replace hw5:=Own.modS hw5 m2 sq1.1.2.2.2.1;replace hw6:=Own.modS hw6 m2 sq1.1.2.2.2.2.1;replace hw7:=Own.modS hw7 m2 sq1.1.2.2.2.2.2.1;replace hw8:=Own.modS hw8 m2 sq1.1.2.2.2.2.2.2.1
 have z7:=m2.size
 replace ho2 : Own w7 w3.heap.size w7.heap.size 5 v1 (List.flatMap (Enc.enc (α:=Record)) (x.queue ++ [r])):=by rw [List.flatMap_append];exact ho2
 refine Qa (Qd Xj Z) Z (Y4 (cs':=[v1,o10,o11,o12,o13,o14,o15,o16]) Xi Z Z ho2.one h1 (Nat.le_of_ble_eq_true Z) Z (fun w8 m3 h1'=>?_))
 replace h1:=h1'
 replace E:=E.step m3 (fun g hg=>by cases hg;omega);replace h2:=h2.mod m3 (fun g hg=>by cases hg;omega);replace h3:=h3.mod m3 (fun g hg=>by cases hg;omega);replace hw2:=hw2.mod m3 (fun g hg=>by cases hg;omega);replace hw3:=hw3.mod m3 (fun g hg=>by cases hg;omega);replace hw4:=hw4.mod m3 (fun g hg=>by cases hg;omega);replace hw5:=hw5.mod m3 (fun g hg=>by cases hg;omega);replace hw6:=hw6.mod m3 (fun g hg=>by cases hg;omega);replace hw7:=hw7.mod m3 (fun g hg=>by cases hg;omega);replace hw8:=hw8.mod m3 (fun g hg=>by cases hg;omega);replace ho2:=Own.modN ho2 m3 (fun g hg hv=>by have hN:=hn1 g hv;have hB:=Own.blk ho2 g hv;cases hg;omega)
 have z8:=m3.size
 refine Qf (Qh (Qi [true,false] Z Z (Qa (Qo Q7 Z h1.at Z) Z (Qs (cs':=[v1,o10,o11,o12,o13,o14,o15,o16]) Q7 Z Z Z (Qb ho2.one (Qb hw2.one (Qb hw3.one (Qb hw4.one (Qb hw5.one (Qb hw6.one (Qb hw7.one (Qb hw8.one Z)))))))) h3 (Nat.le_of_ble_eq_true Z) Z (fun w9 m4 h3'=>?_)))))
 replace h3:=h3'
 replace E:=E.step m4 (fun g hg=>by cases hg;omega);replace h1:=h1.mod m4 (fun g hg=>by cases hg;omega);replace h2:=h2.mod m4 (fun g hg=>by cases hg;omega);replace hw2:=hw2.mod m4 (fun g hg=>by cases hg;omega);replace hw3:=hw3.mod m4 (fun g hg=>by cases hg;omega);replace hw4:=hw4.mod m4 (fun g hg=>by cases hg;omega);replace hw5:=hw5.mod m4 (fun g hg=>by cases hg;omega);replace hw6:=hw6.mod m4 (fun g hg=>by cases hg;omega);replace hw7:=hw7.mod m4 (fun g hg=>by cases hg;omega);replace hw8:=hw8.mod m4 (fun g hg=>by cases hg;omega);replace ho2:=Own.modN ho2 m4 (fun g hg hv=>by have hN:=hn1 g hv;have hB:=Own.blk ho2 g hv;cases hg;omega)
 have z9:=m4.size
 refine Qf (Qx (Y8 Z Z (Qu Q7 h3.at Z) E ?_))
 exact ⟨_,Z,Worker.mkO (⟨x.queue ++ [r],x.staged,x.inputs,x.cells,x.sums,x.black,x.caps,x.dones⟩ : Worker) sp1 (Own.widen ho2 (by omega) (by omega)) (Own.widen hw2 (by omega) (by omega)) (Own.widen hw3 (by omega) (by omega)) (Own.widen hw4 (by omega) (by omega)) (Own.widen hw5 (by omega) (by omega)) (Own.widen hw6 (by omega) (by omega)) (Own.widen hw7 (by omega) (by omega)) (Own.widen hw8 (by omega) (by omega))⟩

set_option maxRecDepth 20000 in
theorem c_Kept (cx : List Value) (x : Worker) (r : Record) (w : World) (hx : Dat.R w 0 w.heap.size cx x) (hb : Q4 x ≤ 1048576) : Ct Tryz.prog 13 [.agg cx.toArray,.agg (Enc.enc r).toArray] w (fun v w'=>∃ cs,v = .agg cs.toArray ∧ Own1.O w' w.heap.size w'.heap.size cs (Yz x r)):=by
 have hb2:=hb
 unfold Q4 at hb2
 refine Yx Tryz.func13 Z Tryz.ntmps13 Z ?_
 obtain ⟨o1,o2,o3,o4,o5,o6,o7,o8,rfl,hd1,hd2,hd3,hd4,hd5,hd6,hd7,hd8⟩:=Worker.op hx
 refine Yh [(0,.agg [o1,o2,o3,o4,o5,o6,o7,o8].toArray),(1,.agg (Enc.enc r).toArray)] ⟨Z,Z,trivial⟩ ?_
 have E : Ext w w:=Ext.refl w
 refine Qh (Qi [false,false,false] Z Z (Y5 Z Z (fun b1 w1 e1 s1 h1=>?_)))
 have g_b1 : w.heap.size ≤ b1:=by have:=E.size;omega
 have y_b1:=h1.lt
 replace E:=E.trans e1
 have z1:=e1.size
 refine Y5 Z Z (fun b2 w2 e2 s2 h2=>?_)
 have g_b2 : w.heap.size ≤ b2:=by have:=E.size;omega
 have y_b2:=h2.lt
 replace E:=E.trans e2;replace h1:=h1.ext e2
 have z2:=e2.size
 refine Q6 Q7 Z (fun b3 w3 e3 s3 h3=>?_)
 have g_b3 : w.heap.size ≤ b3:=by have:=E.size;omega
 have y_b3:=h3.lt
 replace E:=E.trans e3;replace h1:=h1.ext e3;replace h2:=h2.ext e3
 have z3:=e3.size
 refine Qf (Qh (Qi [true,false,false,false] Z Z (Qa (Qo Q7 Z h1.at Z) Z (Qv Tryz.call27 Z (c_copyWorker [o1,o2,o3,o4,o5,o6,o7,o8] x _ (Worker.mkR x (RdD.any (hd1.ext E)) (RdD.any (hd2.ext E)) (RdD.any (hd3.ext E)) (RdD.any (hd4.ext E)) (RdD.any (hd5.ext E)) (RdD.any (hd6.ext E)) (RdD.any (hd7.ext E)) (RdD.any (hd8.ext E))) (by first | omega | (simp only [Qt];omega) | (rw [Qt];done) | (simp only [Qt];done))) Z (fun _ w4 e4 ho1=>?_)))))
 obtain ⟨_,rfl,ho1⟩:=ho1
 have g_ho1 : w.heap.size ≤ w3.heap.size:=E.size
 replace E:=E.trans e4;replace h1:=h1.ext e4;replace h2:=h2.ext e4;replace h3:=h3.ext e4
 have z4:=e4.size
 obtain ⟨o9,o10,o11,o12,o13,o14,o15,o16,rfl,sp1,hw1,hw2,hw3,hw4,hw5,hw6,hw7,hw8⟩:=Worker.opO ho1
 refine Q6 Q7 Z (fun b4 w5 e5 s4 h4=>?_)
 have g_b4 : w.heap.size ≤ b4:=by have:=E.size;omega
 have y_b4:=h4.lt
 replace E:=E.trans e5;replace h1:=h1.ext e5;replace h2:=h2.ext e5;replace h3:=h3.ext e5;replace hw1:=hw1.ext e5;replace hw2:=hw2.ext e5;replace hw3:=hw3.ext e5;replace hw4:=hw4.ext e5;replace hw5:=hw5.ext e5;replace hw6:=hw6.ext e5;replace hw7:=hw7.ext e5;replace hw8:=hw8.ext e5
 have z5:=e5.size
 refine Qs (cs':=[o9,o10,o11,o12,o13,o14,o15,o16]) Q7 Z Z Z (Qb hw1.one (Qb hw2.one (Qb hw3.one (Qb hw4.one (Qb hw5.one (Qb hw6.one (Qb hw7.one (Qb hw8.one Z)))))))) h4 (Nat.le_of_ble_eq_true Z) Z (fun w6 m1 h4'=>?_)
 replace h4:=h4'
 replace E:=E.step m1 (fun g hg=>by cases hg;omega);replace h1:=h1.mod m1 (fun g hg=>by cases hg;omega);replace h2:=h2.mod m1 (fun g hg=>by cases hg;omega);replace h3:=h3.mod m1 (fun g hg=>by cases hg;omega);replace hw1:=hw1.mod m1 (fun g hg=>by cases hg;omega);replace hw2:=hw2.mod m1 (fun g hg=>by cases hg;omega);replace hw3:=hw3.mod m1 (fun g hg=>by cases hg;omega);replace hw4:=hw4.mod m1 (fun g hg=>by cases hg;omega);replace hw5:=hw5.mod m1 (fun g hg=>by cases hg;omega);replace hw6:=hw6.mod m1 (fun g hg=>by cases hg;omega);replace hw7:=hw7.mod m1 (fun g hg=>by cases hg;omega);replace hw8:=hw8.mod m1 (fun g hg=>by cases hg;omega)
 have z6:=m1.size
 refine Qf (Qh (Qi [true,true,true,false,false,true,false] Z Z (Qa (Qd Xj Z) Z (Qa (Qj Xi Z (h4.one 0 Z)) Z (Qa (Qo Xh Z h2.at Z) Z (Q8 (vs:=[.agg (Enc.enc r).toArray]) (css:=[[.int .i64 r.op,.int .i64 r.stamp.epoch,.int .i64 r.stamp.turn,.int .i64 r.key,.int .i64 r.val]]) X3 Z Z ⟨⟨Z,Z⟩,trivial⟩ Z Z (fun b5 w7 e6 s5 h5=>?_)))))))
 replace h5 : Blk w7 b5 [.int .i64 r.op,.int .i64 r.stamp.epoch,.int .i64 r.stamp.turn,.int .i64 r.key,.int .i64 r.val]:=h5
 have g_b5 : w.heap.size ≤ b5:=by have:=E.size;omega
 have y_b5:=h5.lt
 replace E:=E.trans e6;replace h1:=h1.ext e6;replace h2:=h2.ext e6;replace h3:=h3.ext e6;replace hw1:=hw1.ext e6;replace hw2:=hw2.ext e6;replace hw3:=hw3.ext e6;replace hw4:=hw4.ext e6;replace hw5:=hw5.ext e6;replace hw6:=hw6.ext e6;replace hw7:=hw7.ext e6;replace hw8:=hw8.ext e6;replace h4:=h4.ext e6
 have z7:=e6.size
 refine Kd X3 Z Z hw1 (Src.ofBlk h5 Z) Z (by simp only [Ya];simp [Enc.sz];omega) (by decide) (by omega) (by omega) Z Z (fun v1 w8 m2 ho2 hb1=>?_)
 have hn1 : ∀ g,Value.ownBlock v1 = some g → g < w4.heap.size ∨ w7.heap.size ≤ g:=fun g hg=>(hb1 g hg).elim (fun h=>.inl (by have:=Own.blk hw1 g h;omega)) (fun h=>.inr h)
 have sq1:=sp1
 replace sp1:=SepL.set hb1 0 rfl sp1 ⟨(Own.lt hw1),(Own.lt hw2),(Own.lt hw3),(Own.lt hw4),(Own.lt hw5),(Own.lt hw6),(Own.lt hw7),(Own.lt hw8),trivial⟩
 replace sp1 : SepL [v1,o10,o11,o12,o13,o14,o15,o16]:=sp1
 replace E:=E.step m2 (fun g hg=>by have:=Own.blk hw1 g hg;omega);replace h1:=h1.mod m2 (fun g hg=>by have:=Own.blk hw1 g hg;omega);replace h2:=h2.mod m2 (fun g hg=>by have:=Own.blk hw1 g hg;omega);replace h3:=h3.mod m2 (fun g hg=>by have:=Own.blk hw1 g hg;omega);replace hw2:=Own.modS hw2 m2 sq1.1.1;replace hw3:=Own.modS hw3 m2 sq1.1.2.1;replace hw4:=Own.modS hw4 m2 sq1.1.2.2.1;replace hw5:=Own.modS hw5 m2 sq1.1.2.2.2.1;replace hw6:=Own.modS hw6 m2 sq1.1.2.2.2.2.1;replace hw7:=Own.modS hw7 m2 sq1.1.2.2.2.2.2.1;replace hw8:=Own.modS hw8 m2 sq1.1.2.2.2.2.2.2.1;replace h4:=h4.mod m2 (fun g hg=>by have:=Own.blk hw1 g hg;omega)
 have z8:=m2.size
 replace ho2 : Own w8 w3.heap.size w8.heap.size 5 v1 (List.flatMap (Enc.enc (α:=Record)) (x.queue ++ [r])):=by rw [List.flatMap_append];exact ho2
 refine Qa (Qd Xj Z) Z (Y4 (cs':=[v1,o10,o11,o12,o13,o14,o15,o16]) Xi Z Z ho2.one h4 (Nat.le_of_ble_eq_true Z) Z (fun w9 m3 h4'=>?_))
 replace h4:=h4'
 replace E:=E.step m3 (fun g hg=>by cases hg;omega);replace h1:=h1.mod m3 (fun g hg=>by cases hg;omega);replace h2:=h2.mod m3 (fun g hg=>by cases hg;omega);replace h3:=h3.mod m3 (fun g hg=>by cases hg;omega);replace hw2:=hw2.mod m3 (fun g hg=>by cases hg;omega);replace hw3:=hw3.mod m3 (fun g hg=>by cases hg;omega);replace hw4:=hw4.mod m3 (fun g hg=>by cases hg;omega);replace hw5:=hw5.mod m3 (fun g hg=>by cases hg;omega);replace hw6:=hw6.mod m3 (fun g hg=>by cases hg;omega);replace hw7:=hw7.mod m3 (fun g hg=>by cases hg;omega);replace hw8:=hw8.mod m3 (fun g hg=>by cases hg;omega);replace ho2:=Own.modN ho2 m3 (fun g hg hv=>by have hN:=hn1 g hv;have hB:=Own.blk ho2 g hv;cases hg;omega)
 have z9:=m3.size
 refine Qf (Qh (Qi [true,false] Z Z (Qa (Qo Q7 Z h4.at Z) Z (Qs (cs':=[v1,o10,o11,o12,o13,o14,o15,o16]) Q7 Z Z Z (Qb ho2.one (Qb hw2.one (Qb hw3.one (Qb hw4.one (Qb hw5.one (Qb hw6.one (Qb hw7.one (Qb hw8.one Z)))))))) h3 (Nat.le_of_ble_eq_true Z) Z (fun w10 m4 h3'=>?_)))))
 replace h3:=h3'
 replace E:=E.step m4 (fun g hg=>by cases hg;omega);replace h1:=h1.mod m4 (fun g hg=>by cases hg;omega);replace h2:=h2.mod m4 (fun g hg=>by cases hg;omega);replace hw2:=hw2.mod m4 (fun g hg=>by cases hg;omega);replace hw3:=hw3.mod m4 (fun g hg=>by cases hg;omega);replace hw4:=hw4.mod m4 (fun g hg=>by cases hg;omega);replace hw5:=hw5.mod m4 (fun g hg=>by cases hg;omega);replace hw6:=hw6.mod m4 (fun g hg=>by cases hg;omega);replace hw7:=hw7.mod m4 (fun g hg=>by cases hg;omega);replace hw8:=hw8.mod m4 (fun g hg=>by cases hg;omega);replace h4:=h4.mod m4 (fun g hg=>by cases hg;omega);replace ho2:=Own.modN ho2 m4 (fun g hg hv=>by have hN:=hn1 g hv;have hB:=Own.blk ho2 g hv;cases hg;omega)
 have z10:=m4.size
 refine Qf (Qx (Y8 Z Z (Qu Q7 h3.at Z) E ?_))
 exact ⟨_,Z,Worker.mkO (⟨x.queue ++ [r],x.staged,x.inputs,x.cells,x.sums,x.black,x.caps,x.dones⟩ : Worker) sp1 (Own.widen ho2 (by omega) (by omega)) (Own.widen hw2 (by omega) (by omega)) (Own.widen hw3 (by omega) (by omega)) (Own.widen hw4 (by omega) (by omega)) (Own.widen hw5 (by omega) (by omega)) (Own.widen hw6 (by omega) (by omega)) (Own.widen hw7 (by omega) (by omega)) (Own.widen hw8 (by omega) (by omega))⟩

set_option maxRecDepth 20000 in
theorem s_SentAway (cx : List Value) (x : Worker) (e : Int) (w : World) (hx : Dat.R w 0 w.heap.size cx x) (hb : Q4 x ≤ 1048576) : Ct Tryz.prog 21 [.agg cx.toArray,.int .i64 e] w (fun v w'=>∃ cs,v = .agg cs.toArray ∧ Own1.O w' w.heap.size w'.heap.size cs (Ga x e)):=by
 refine Yx Tryz.func21 Z Tryz.ntmps21 Z ?_
 obtain ⟨o1,o2,o3,o4,o5,o6,o7,o8,rfl,hd1,hd2,hd3,hd4,hd5,hd6,hd7,hd8⟩:=Worker.op hx
 refine Yh [(0,.agg [o1,o2,o3,o4,o5,o6,o7,o8].toArray),(1,.int .i64 e)] ⟨Z,Z,trivial⟩ ?_
 have E : Ext w w:=Ext.refl w
 refine Qh (Qi [false,false] Z Z (Y5 Z Z (fun b1 w1 e1 s1 h1=>?_)))
 have g_b1 : w.heap.size ≤ b1:=by have:=E.size;omega
 have y_b1:=h1.lt
 replace E:=E.trans e1
 have z1:=e1.size
 refine Q6 Q7 Z (fun b2 w2 e2 s2 h2=>?_)
 have g_b2 : w.heap.size ≤ b2:=by have:=E.size;omega
 have y_b2:=h2.lt
 replace E:=E.trans e2;replace h1:=h1.ext e2
 have z2:=e2.size
 refine Qf (Qh (Qi [true,false,false] Z Z (Qa (Qo Q7 Z h1.at Z) Z (Qv Tryz.call32 Z (s_l12Copy [o1,o2,o3,o4,o5,o6,o7,o8] x _ (Worker.mkR x (RdD.any (hd1.ext E)) (RdD.any (hd2.ext E)) (RdD.any (hd3.ext E)) (RdD.any (hd4.ext E)) (RdD.any (hd5.ext E)) (RdD.any (hd6.ext E)) (RdD.any (hd7.ext E)) (RdD.any (hd8.ext E))) (by first | omega | (simp only [Qt];omega) | (rw [Qt];done) | (simp only [Qt];done))) Z (fun _ w3 e3 ho1=>?_)))))
 obtain ⟨_,rfl,ho1⟩:=ho1
 have g_ho1 : w.heap.size ≤ w2.heap.size:=E.size
 replace E:=E.trans e3;replace h1:=h1.ext e3;replace h2:=h2.ext e3
 have z3:=e3.size
 obtain ⟨o9,o10,o11,o12,o13,o14,o15,o16,rfl,sp1,hw1,hw2,hw3,hw4,hw5,hw6,hw7,hw8⟩:=Worker.opO ho1
 refine Qs (cs':=[o9,o10,o11,o12,o13,o14,o15,o16]) Q7 Z Z Z (Qb hw1.one (Qb hw2.one (Qb hw3.one (Qb hw4.one (Qb hw5.one (Qb hw6.one (Qb hw7.one (Qb hw8.one Z)))))))) h1 (Nat.le_of_ble_eq_true Z) Z (fun w4 m1 h1'=>?_)
 replace h1:=h1'
 replace E:=E.step m1 (fun g hg=>by cases hg;omega);replace h2:=h2.mod m1 (fun g hg=>by cases hg;omega);replace hw1:=hw1.mod m1 (fun g hg=>by cases hg;omega);replace hw2:=hw2.mod m1 (fun g hg=>by cases hg;omega);replace hw3:=hw3.mod m1 (fun g hg=>by cases hg;omega);replace hw4:=hw4.mod m1 (fun g hg=>by cases hg;omega);replace hw5:=hw5.mod m1 (fun g hg=>by cases hg;omega);replace hw6:=hw6.mod m1 (fun g hg=>by cases hg;omega);replace hw7:=hw7.mod m1 (fun g hg=>by cases hg;omega);replace hw8:=hw8.mod m1 (fun g hg=>by cases hg;omega)
 have z4:=m1.size
 refine Qf (Qh (Qh (Qi [true,true,true,true,true,false] Z Z (Qa (Qe Z) Z (Qa (Qd Uc Z) Z (Qa (Qj Kg Z (h1.one 4 Z)) Z (Qa (Yg Tryz.underlying29 Z (Own.len (by decide) hw5)) Z (Qa (U5 Z Z Z) Z (Qv Tryz.call45 Z (s_l01In e 0 (IntKind.i64.wrap (((x.sums.length : Nat) : Int) - 1)) _ ) Z (fun _ w5 e4 hv=>?_))))))))))
 subst hv
 replace E:=E.trans e4;replace h1:=h1.ext e4;replace h2:=h2.ext e4;replace hw1:=hw1.ext e4;replace hw2:=hw2.ext e4;replace hw3:=hw3.ext e4;replace hw4:=hw4.ext e4;replace hw5:=hw5.ext e4;replace hw6:=hw6.ext e4;replace hw7:=hw7.ext e4;replace hw8:=hw8.ext e4
 have z5:=e4.size
 refine Qf (Qw Z (fun hc1=>?_) (fun hc1=>?_))
 ·have hse:=sent_of (by simpa using hd5.1.1) hc1
  refine Xu Xo [(0,true),(1,true),(2,true),(3,true),(4,true),(5,true),(6,true),(7,true),(8,true),(9,true),(10,false)] (by decide +kernel) Z (fun w6 e5=>?_)
  replace E:=E.trans e5;replace h1:=h1.ext e5;replace h2:=h2.ext e5;replace hw1:=hw1.ext e5;replace hw2:=hw2.ext e5;replace hw3:=hw3.ext e5;replace hw4:=hw4.ext e5;replace hw5:=hw5.ext e5;replace hw6:=hw6.ext e5;replace hw7:=hw7.ext e5;replace hw8:=hw8.ext e5
  have z6:=e5.size
  refine Qa (Qd Uc Z) Z (Qa (Qj Kg Z (h1.one 4 Z)) Z (Qa (Qe Z) Z (Qa (Qd Uc Z) Z (Qa (Qj Kg Z (h1.one 4 Z)) Z (Qa (Qe Z) Z ?_)))))
  have hi1 : (Int.toNat e) < x.sums.length:=(by first | assumption | omega | (simp only [List.length_set];first | assumption | omega) | (simp only [List.getElem_set_self,List.length_set];first | assumption | omega) | (simp only [Xc,Yp,List.length_set];first | assumption | omega) | (simp;done))
  refine Qa (Ki (i:=(Int.toNat e)) Ke Z Z (Own.rd (by decide) hw5) (by omega) hi1) Z (Qa (Qj Y6 Z (((Own.rd (by decide) hw5).get hi1).one 0 Z)) Z (Qa (Yw Z Z Z) Z ?_))
  have hi2 : (Int.toNat e) < x.sums.length:=(by first | assumption | omega | (simp only [List.length_set];first | assumption | omega) | (simp only [List.getElem_set_self,List.length_set];first | assumption | omega) | (simp only [Xc,Yp,List.length_set];first | assumption | omega) | (simp;done))
  refine Qa (Ki (i:=(Int.toNat e)) Ke Z Z (Own.rd (by decide) hw5) (by omega) hi2) Z (Ul (α:=Int) (i:=(Int.toNat e)) (f:=0) (IntKind.i64.wrap ((x.sums[(Int.toNat e)]'hi1) + 1)) Y6 Z Z Z Z hw5 hi2 (by decide) Z (fun w7 m2 hw5'=>?_))
  have hq:=Own.blk hw5
  replace hw5:=hw5'
  replace E:=E.step m2 (fun g hg=>by have:=hq g hg;omega);replace h1:=h1.mod m2 (fun g hg=>by have:=hq g hg;omega);replace h2:=h2.mod m2 (fun g hg=>by have:=hq g hg;omega);replace hw1:=Own.modS hw1 m2 (sp1.1.2.2.2.1).symm;replace hw2:=Own.modS hw2 m2 (sp1.2.1.2.2.1).symm;replace hw3:=Own.modS hw3 m2 (sp1.2.2.1.2.1).symm;replace hw4:=Own.modS hw4 m2 (sp1.2.2.2.1.1).symm;replace hw6:=Own.modS hw6 m2 sp1.2.2.2.2.1.1;replace hw7:=Own.modS hw7 m2 sp1.2.2.2.2.1.2.1;replace hw8:=Own.modS hw8 m2 sp1.2.2.2.2.1.2.2.1
  have z7:=m2.size
  clear hq
  refine Qf (Qh (Qi [true,false] Z Z (Qa (Qo Q7 Z h1.at Z) Z (Qs (cs':=[o9,o10,o11,o12,o13,o14,o15,o16]) Q7 Z Z Z (Qb hw1.one (Qb hw2.one (Qb hw3.one (Qb hw4.one (Qb hw5.one (Qb hw6.one (Qb hw7.one (Qb hw8.one Z)))))))) h2 (Nat.le_of_ble_eq_true Z) Z (fun w8 m3 h2'=>?_)))))
  replace h2:=h2'
  replace E:=E.step m3 (fun g hg=>by cases hg;omega);replace h1:=h1.mod m3 (fun g hg=>by cases hg;omega);replace hw1:=hw1.mod m3 (fun g hg=>by cases hg;omega);replace hw2:=hw2.mod m3 (fun g hg=>by cases hg;omega);replace hw3:=hw3.mod m3 (fun g hg=>by cases hg;omega);replace hw4:=hw4.mod m3 (fun g hg=>by cases hg;omega);replace hw6:=hw6.mod m3 (fun g hg=>by cases hg;omega);replace hw7:=hw7.mod m3 (fun g hg=>by cases hg;omega);replace hw8:=hw8.mod m3 (fun g hg=>by cases hg;omega);replace hw5:=hw5.mod m3 (fun g hg=>by cases hg;omega)
  have z8:=m3.size
  refine Qf (Qx (Y8 Z Z (Qu Q7 h2.at Z) E ?_))
  rw [Ai hse]
  exact ⟨_,Z,Worker.mkO (⟨x.queue,x.staged,x.inputs,x.cells,List.set x.sums (Int.toNat e) (IntKind.i64.wrap ((x.sums[(Int.toNat e)]'hi1) + 1)),x.black,x.caps,x.dones⟩ : Worker) sp1 (Own.widen hw1 (by omega) (by omega)) (Own.widen hw2 (by omega) (by omega)) (Own.widen hw3 (by omega) (by omega)) (Own.widen hw4 (by omega) (by omega)) (Own.widen hw5 (by omega) (by omega)) (Own.widen hw6 (by omega) (by omega)) (Own.widen hw7 (by omega) (by omega)) (Own.widen hw8 (by omega) (by omega))⟩
 ·refine Qy (Qh (Qi [true,false] Z Z (Qa (Qo Q7 Z h1.at Z) Z (Qs (cs':=[o9,o10,o11,o12,o13,o14,o15,o16]) Q7 Z Z Z (Qb hw1.one (Qb hw2.one (Qb hw3.one (Qb hw4.one (Qb hw5.one (Qb hw6.one (Qb hw7.one (Qb hw8.one Z)))))))) h2 (Nat.le_of_ble_eq_true Z) Z (fun w9 m4 h2'=>?_)))))
  replace h2:=h2'
  replace E:=E.step m4 (fun g hg=>by cases hg;omega);replace h1:=h1.mod m4 (fun g hg=>by cases hg;omega);replace hw1:=hw1.mod m4 (fun g hg=>by cases hg;omega);replace hw2:=hw2.mod m4 (fun g hg=>by cases hg;omega);replace hw3:=hw3.mod m4 (fun g hg=>by cases hg;omega);replace hw4:=hw4.mod m4 (fun g hg=>by cases hg;omega);replace hw5:=hw5.mod m4 (fun g hg=>by cases hg;omega);replace hw6:=hw6.mod m4 (fun g hg=>by cases hg;omega);replace hw7:=hw7.mod m4 (fun g hg=>by cases hg;omega);replace hw8:=hw8.mod m4 (fun g hg=>by cases hg;omega)
  have z9:=m4.size
  refine Qf (Qx (Y8 Z Z (Qu Q7 h2.at Z) E ?_))
  rw [sentW_no (by simpa using hd5.1.1) hc1]
  exact ⟨_,Z,Worker.mkO x sp1 (Own.widen hw1 (by omega) (by omega)) (Own.widen hw2 (by omega) (by omega)) (Own.widen hw3 (by omega) (by omega)) (Own.widen hw4 (by omega) (by omega)) (Own.widen hw5 (by omega) (by omega)) (Own.widen hw6 (by omega) (by omega)) (Own.widen hw7 (by omega) (by omega)) (Own.widen hw8 (by omega) (by omega))⟩

set_option maxRecDepth 20000 in
theorem c_SentAway (cx : List Value) (x : Worker) (e : Int) (w : World) (hx : Dat.R w 0 w.heap.size cx x) (hb : Q4 x ≤ 1048576) : Ct Tryz.prog 15 [.agg cx.toArray,.int .i64 e] w (fun v w'=>∃ cs,v = .agg cs.toArray ∧ Own1.O w' w.heap.size w'.heap.size cs (Ga x e)):=by
 refine Yx Tryz.func15 Z Tryz.ntmps15 Z ?_
 obtain ⟨o1,o2,o3,o4,o5,o6,o7,o8,rfl,hd1,hd2,hd3,hd4,hd5,hd6,hd7,hd8⟩:=Worker.op hx
 refine Yh [(0,.agg [o1,o2,o3,o4,o5,o6,o7,o8].toArray),(1,.int .i64 e)] ⟨Z,Z,trivial⟩ ?_
 have E : Ext w w:=Ext.refl w
 refine Qh (Qi [false,false] Z Z (Y5 Z Z (fun b1 w1 e1 s1 h1=>?_)))
 have g_b1 : w.heap.size ≤ b1:=by have:=E.size;omega
 have y_b1:=h1.lt
 replace E:=E.trans e1
 have z1:=e1.size
 refine Q6 Q7 Z (fun b2 w2 e2 s2 h2=>?_)
 have g_b2 : w.heap.size ≤ b2:=by have:=E.size;omega
 have y_b2:=h2.lt
 replace E:=E.trans e2;replace h1:=h1.ext e2
 have z2:=e2.size
 refine Qf (Qh (Qi [true,false,false,false] Z Z (Qa (Qo Q7 Z h1.at Z) Z (Qv Tryz.call27 Z (c_copyWorker [o1,o2,o3,o4,o5,o6,o7,o8] x _ (Worker.mkR x (RdD.any (hd1.ext E)) (RdD.any (hd2.ext E)) (RdD.any (hd3.ext E)) (RdD.any (hd4.ext E)) (RdD.any (hd5.ext E)) (RdD.any (hd6.ext E)) (RdD.any (hd7.ext E)) (RdD.any (hd8.ext E))) (by first | omega | (simp only [Qt];omega) | (rw [Qt];done) | (simp only [Qt];done))) Z (fun _ w3 e3 ho1=>?_)))))
 obtain ⟨_,rfl,ho1⟩:=ho1
 have g_ho1 : w.heap.size ≤ w2.heap.size:=E.size
 replace E:=E.trans e3;replace h1:=h1.ext e3;replace h2:=h2.ext e3
 have z3:=e3.size
 obtain ⟨o9,o10,o11,o12,o13,o14,o15,o16,rfl,sp1,hw1,hw2,hw3,hw4,hw5,hw6,hw7,hw8⟩:=Worker.opO ho1
 refine Q6 Q7 Z (fun b3 w4 e4 s3 h3=>?_)
 have g_b3 : w.heap.size ≤ b3:=by have:=E.size;omega
 have y_b3:=h3.lt
 replace E:=E.trans e4;replace h1:=h1.ext e4;replace h2:=h2.ext e4;replace hw1:=hw1.ext e4;replace hw2:=hw2.ext e4;replace hw3:=hw3.ext e4;replace hw4:=hw4.ext e4;replace hw5:=hw5.ext e4;replace hw6:=hw6.ext e4;replace hw7:=hw7.ext e4;replace hw8:=hw8.ext e4
 have z4:=e4.size
 refine Qs (cs':=[o9,o10,o11,o12,o13,o14,o15,o16]) Q7 Z Z Z (Qb hw1.one (Qb hw2.one (Qb hw3.one (Qb hw4.one (Qb hw5.one (Qb hw6.one (Qb hw7.one (Qb hw8.one Z)))))))) h3 (Nat.le_of_ble_eq_true Z) Z (fun w5 m1 h3'=>?_)
 replace h3:=h3'
 replace E:=E.step m1 (fun g hg=>by cases hg;omega);replace h1:=h1.mod m1 (fun g hg=>by cases hg;omega);replace h2:=h2.mod m1 (fun g hg=>by cases hg;omega);replace hw1:=hw1.mod m1 (fun g hg=>by cases hg;omega);replace hw2:=hw2.mod m1 (fun g hg=>by cases hg;omega);replace hw3:=hw3.mod m1 (fun g hg=>by cases hg;omega);replace hw4:=hw4.mod m1 (fun g hg=>by cases hg;omega);replace hw5:=hw5.mod m1 (fun g hg=>by cases hg;omega);replace hw6:=hw6.mod m1 (fun g hg=>by cases hg;omega);replace hw7:=hw7.mod m1 (fun g hg=>by cases hg;omega);replace hw8:=hw8.mod m1 (fun g hg=>by cases hg;omega)
 have z5:=m1.size
 refine Qf (Qh (Qh (Qi [true,true,true,true,true,false] Z Z (Qa (Qe Z) Z (Qa (Qd Uc Z) Z (Qa (Qj Kg Z (h1.one 4 Z)) Z (Qa (Yg Tryz.underlying29 Z (hd5.ext E).len) Z (Qa (U5 Z Z Z) Z (Qv Tryz.call42 Z (c_within e 0 (IntKind.i64.wrap (((x.sums.length : Nat) : Int) - 1)) _ ) Z (fun _ w6 e5 hv=>?_))))))))))
 subst hv
 replace E:=E.trans e5;replace h1:=h1.ext e5;replace h2:=h2.ext e5;replace hw1:=hw1.ext e5;replace hw2:=hw2.ext e5;replace hw3:=hw3.ext e5;replace hw4:=hw4.ext e5;replace hw5:=hw5.ext e5;replace hw6:=hw6.ext e5;replace hw7:=hw7.ext e5;replace hw8:=hw8.ext e5;replace h3:=h3.ext e5
 have z6:=e5.size
 refine Qf (Qw Z (fun hc1=>?_) (fun hc1=>?_))
 ·have hse:=sent_of (by simpa using hd5.1.1) hc1
  refine Qi [true,true,true,true,true,true,true,false] Z Z (Qa (Qd Uc Z) Z (Qa (Qj Kg Z (h3.one 4 Z)) Z (Qa (Qe Z) Z ?_)))
  have hi1 : (Int.toNat e) < x.sums.length:=(by first | assumption | omega | (simp only [List.length_set];first | assumption | omega) | (simp only [List.getElem_set_self,List.length_set];first | assumption | omega) | (simp only [Xc,Yp,List.length_set];first | assumption | omega) | (simp;done))
  refine Qa (Ki (i:=(Int.toNat e)) Ke Z Z (Own.rd (by decide) hw5) (by omega) hi1) Z (Qa (Qj Y6 Z (((Own.rd (by decide) hw5).get hi1).one 0 Z)) Z (Qa (Yw Z Z Z) Z ?_))
  have hi2 : (Int.toNat e) < x.sums.length:=(by first | assumption | omega | (simp only [List.length_set];first | assumption | omega) | (simp only [List.getElem_set_self,List.length_set];first | assumption | omega) | (simp only [Xc,Yp,List.length_set];first | assumption | omega) | (simp;done))
  refine Qa (Ki (i:=(Int.toNat e)) Ke Z Z (Own.rd (by decide) hw5) (by omega) hi2) Z (Ul (α:=Int) (i:=(Int.toNat e)) (f:=0) (IntKind.i64.wrap ((x.sums[(Int.toNat e)]'hi1) + 1)) Y6 Z Z Z Z hw5 hi2 (by decide) Z (fun w7 m2 hw5'=>?_))
  have hq:=Own.blk hw5
  replace hw5:=hw5'
  replace E:=E.step m2 (fun g hg=>by have:=hq g hg;omega);replace h1:=h1.mod m2 (fun g hg=>by have:=hq g hg;omega);replace h2:=h2.mod m2 (fun g hg=>by have:=hq g hg;omega);replace hw1:=Own.modS hw1 m2 (sp1.1.2.2.2.1).symm;replace hw2:=Own.modS hw2 m2 (sp1.2.1.2.2.1).symm;replace hw3:=Own.modS hw3 m2 (sp1.2.2.1.2.1).symm;replace hw4:=Own.modS hw4 m2 (sp1.2.2.2.1.1).symm;replace hw6:=Own.modS hw6 m2 sp1.2.2.2.2.1.1;replace hw7:=Own.modS hw7 m2 sp1.2.2.2.2.1.2.1;replace hw8:=Own.modS hw8 m2 sp1.2.2.2.2.1.2.2.1;replace h3:=h3.mod m2 (fun g hg=>by have:=hq g hg;omega)
  have z7:=m2.size
  clear hq
  refine Qf (Qh (Qi [true,false] Z Z (Qa (Qo Q7 Z h3.at Z) Z (Qs (cs':=[o9,o10,o11,o12,o13,o14,o15,o16]) Q7 Z Z Z (Qb hw1.one (Qb hw2.one (Qb hw3.one (Qb hw4.one (Qb hw5.one (Qb hw6.one (Qb hw7.one (Qb hw8.one Z)))))))) h2 (Nat.le_of_ble_eq_true Z) Z (fun w8 m3 h2'=>?_)))))
  replace h2:=h2'
  replace E:=E.step m3 (fun g hg=>by cases hg;omega);replace h1:=h1.mod m3 (fun g hg=>by cases hg;omega);replace hw1:=hw1.mod m3 (fun g hg=>by cases hg;omega);replace hw2:=hw2.mod m3 (fun g hg=>by cases hg;omega);replace hw3:=hw3.mod m3 (fun g hg=>by cases hg;omega);replace hw4:=hw4.mod m3 (fun g hg=>by cases hg;omega);replace hw6:=hw6.mod m3 (fun g hg=>by cases hg;omega);replace hw7:=hw7.mod m3 (fun g hg=>by cases hg;omega);replace hw8:=hw8.mod m3 (fun g hg=>by cases hg;omega);replace h3:=h3.mod m3 (fun g hg=>by cases hg;omega);replace hw5:=hw5.mod m3 (fun g hg=>by cases hg;omega)
  have z8:=m3.size
  refine Qf (Qx (Y8 Z Z (Qu Q7 h2.at Z) E ?_))
  rw [Ai hse]
  exact ⟨_,Z,Worker.mkO (⟨x.queue,x.staged,x.inputs,x.cells,List.set x.sums (Int.toNat e) (IntKind.i64.wrap ((x.sums[(Int.toNat e)]'hi1) + 1)),x.black,x.caps,x.dones⟩ : Worker) sp1 (Own.widen hw1 (by omega) (by omega)) (Own.widen hw2 (by omega) (by omega)) (Own.widen hw3 (by omega) (by omega)) (Own.widen hw4 (by omega) (by omega)) (Own.widen hw5 (by omega) (by omega)) (Own.widen hw6 (by omega) (by omega)) (Own.widen hw7 (by omega) (by omega)) (Own.widen hw8 (by omega) (by omega))⟩
 ·refine Qy (Qh (Qi [true,false] Z Z (Qa (Qo Q7 Z h3.at Z) Z (Qs (cs':=[o9,o10,o11,o12,o13,o14,o15,o16]) Q7 Z Z Z (Qb hw1.one (Qb hw2.one (Qb hw3.one (Qb hw4.one (Qb hw5.one (Qb hw6.one (Qb hw7.one (Qb hw8.one Z)))))))) h2 (Nat.le_of_ble_eq_true Z) Z (fun w9 m4 h2'=>?_)))))
  replace h2:=h2'
  replace E:=E.step m4 (fun g hg=>by cases hg;omega);replace h1:=h1.mod m4 (fun g hg=>by cases hg;omega);replace hw1:=hw1.mod m4 (fun g hg=>by cases hg;omega);replace hw2:=hw2.mod m4 (fun g hg=>by cases hg;omega);replace hw3:=hw3.mod m4 (fun g hg=>by cases hg;omega);replace hw4:=hw4.mod m4 (fun g hg=>by cases hg;omega);replace hw5:=hw5.mod m4 (fun g hg=>by cases hg;omega);replace hw6:=hw6.mod m4 (fun g hg=>by cases hg;omega);replace hw7:=hw7.mod m4 (fun g hg=>by cases hg;omega);replace hw8:=hw8.mod m4 (fun g hg=>by cases hg;omega);replace h3:=h3.mod m4 (fun g hg=>by cases hg;omega)
  have z9:=m4.size
  refine Qf (Qx (Y8 Z Z (Qu Q7 h2.at Z) E ?_))
  rw [sentW_no (by simpa using hd5.1.1) hc1]
  exact ⟨_,Z,Worker.mkO x sp1 (Own.widen hw1 (by omega) (by omega)) (Own.widen hw2 (by omega) (by omega)) (Own.widen hw3 (by omega) (by omega)) (Own.widen hw4 (by omega) (by omega)) (Own.widen hw5 (by omega) (by omega)) (Own.widen hw6 (by omega) (by omega)) (Own.widen hw7 (by omega) (by omega)) (Own.widen hw8 (by omega) (by omega))⟩

set_option maxRecDepth 20000 in
theorem c_Received (cx : List Value) (x : Worker) (r : Record) (w : World) (hx : Dat.R w 0 w.heap.size cx x) (hb : Q4 x ≤ 1048576) : Ct Tryz.prog 12 [.agg cx.toArray,.agg (Enc.enc r).toArray] w (fun v w'=>∃ cs,v = .agg cs.toArray ∧ Own1.O w' w.heap.size w'.heap.size cs (Ut x r)):=by
 refine Yx Tryz.func12 Z Tryz.ntmps12 Z ?_
 obtain ⟨o1,o2,o3,o4,o5,o6,o7,o8,rfl,hd1,hd2,hd3,hd4,hd5,hd6,hd7,hd8⟩:=Worker.op hx
 refine Yh [(0,.agg [o1,o2,o3,o4,o5,o6,o7,o8].toArray),(1,.agg (Enc.enc r).toArray)] ⟨Z,Z,trivial⟩ ?_
 have E : Ext w w:=Ext.refl w
 refine Qh (Qi [false,false,false] Z Z (Y5 Z Z (fun b1 w1 e1 s1 h1=>?_)))
 have g_b1 : w.heap.size ≤ b1:=by have:=E.size;omega
 have y_b1:=h1.lt
 replace E:=E.trans e1
 have z1:=e1.size
 refine Y5 Z Z (fun b2 w2 e2 s2 h2=>?_)
 have g_b2 : w.heap.size ≤ b2:=by have:=E.size;omega
 have y_b2:=h2.lt
 replace E:=E.trans e2;replace h1:=h1.ext e2
 have z2:=e2.size
 refine Q6 Q7 Z (fun b3 w3 e3 s3 h3=>?_)
 have g_b3 : w.heap.size ≤ b3:=by have:=E.size;omega
 have y_b3:=h3.lt
 replace E:=E.trans e3;replace h1:=h1.ext e3;replace h2:=h2.ext e3
 have z3:=e3.size
 refine Qf (Qh (Qi [true,true,false,false,false] Z Z (Qa (Qo Q7 Z h1.at Z) Z (Qa (Qo Xh Z h2.at Z) Z (Qv Tryz.call13 Z (c_Kept [o1,o2,o3,o4,o5,o6,o7,o8] x r _ (Worker.mkR x (RdD.any (hd1.ext E)) (RdD.any (hd2.ext E)) (RdD.any (hd3.ext E)) (RdD.any (hd4.ext E)) (RdD.any (hd5.ext E)) (RdD.any (hd6.ext E)) (RdD.any (hd7.ext E)) (RdD.any (hd8.ext E))) (by first | omega | (simp only [Qt];omega) | (rw [Qt];done) | (simp only [Qt];done))) Z (fun _ w4 e4 ho1=>?_))))))
 obtain ⟨_,rfl,ho1⟩:=ho1
 have g_ho1 : w.heap.size ≤ w3.heap.size:=E.size
 replace E:=E.trans e4;replace h1:=h1.ext e4;replace h2:=h2.ext e4;replace h3:=h3.ext e4
 have z4:=e4.size
 obtain ⟨o9,o10,o11,o12,o13,o14,o15,o16,rfl,sp1,hw1,hw2,hw3,hw4,hw5,hw6,hw7,hw8⟩:=Worker.opO ho1
 refine Q6 Q7 Z (fun b4 w5 e5 s4 h4=>?_)
 have g_b4 : w.heap.size ≤ b4:=by have:=E.size;omega
 have y_b4:=h4.lt
 replace E:=E.trans e5;replace h1:=h1.ext e5;replace h2:=h2.ext e5;replace h3:=h3.ext e5;replace hw1:=hw1.ext e5;replace hw2:=hw2.ext e5;replace hw3:=hw3.ext e5;replace hw4:=hw4.ext e5;replace hw5:=hw5.ext e5;replace hw6:=hw6.ext e5;replace hw7:=hw7.ext e5;replace hw8:=hw8.ext e5
 have z5:=e5.size
 refine Qs (cs':=[o9,o10,o11,o12,o13,o14,o15,o16]) Q7 Z Z Z (Qb hw1.one (Qb hw2.one (Qb hw3.one (Qb hw4.one (Qb hw5.one (Qb hw6.one (Qb hw7.one (Qb hw8.one Z)))))))) h4 (Nat.le_of_ble_eq_true Z) Z (fun w6 m1 h4'=>?_)
 replace h4:=h4'
 replace E:=E.step m1 (fun g hg=>by cases hg;omega);replace h1:=h1.mod m1 (fun g hg=>by cases hg;omega);replace h2:=h2.mod m1 (fun g hg=>by cases hg;omega);replace h3:=h3.mod m1 (fun g hg=>by cases hg;omega);replace hw1:=hw1.mod m1 (fun g hg=>by cases hg;omega);replace hw2:=hw2.mod m1 (fun g hg=>by cases hg;omega);replace hw3:=hw3.mod m1 (fun g hg=>by cases hg;omega);replace hw4:=hw4.mod m1 (fun g hg=>by cases hg;omega);replace hw5:=hw5.mod m1 (fun g hg=>by cases hg;omega);replace hw6:=hw6.mod m1 (fun g hg=>by cases hg;omega);replace hw7:=hw7.mod m1 (fun g hg=>by cases hg;omega);replace hw8:=hw8.mod m1 (fun g hg=>by cases hg;omega)
 have z6:=m1.size
 refine Qf (Qh (Qh (Qi [true,true,true,true] Z Z (Qa (Qd Kz Z) Z (Qa (Yt Vf Z) Z (Qa (Qj Y6 Z (h2.one 1 Z)) Z (Qa (Qg Z) Z (Qf (Qh (Qi [true,true,true,true,true,true,true,true,true,false] Z Z (Qa (Qe Z) Z (Qa (Qd Uc Z) Z (Qa (Qj Kg Z (h1.one 4 Z)) Z (Qa (Yg Tryz.underlying29 Z (hd5.ext E).len) Z (Qa (Qd Vw Z) Z (Qa (Qj Gk Z (h1.one 5 Z)) Z (Qa (Yg Tryz.underlying30 Z (hd6.ext E).len) Z (Qa (R_min Z Z) Z (Qa (U5 Z Z Z) Z (Qv Tryz.call42 Z (c_within r.stamp.epoch 0 (IntKind.i64.wrap ((if ((x.black.length : Nat) : Int) < ((x.sums.length : Nat) : Int) then ((x.black.length : Nat) : Int) else ((x.sums.length : Nat) : Int)) - 1)) _ ) Z (fun _ w7 e6 hv=>?_)))))))))))))))))))))
 subst hv
 replace E:=E.trans e6;replace h1:=h1.ext e6;replace h2:=h2.ext e6;replace h3:=h3.ext e6;replace hw1:=hw1.ext e6;replace hw2:=hw2.ext e6;replace hw3:=hw3.ext e6;replace hw4:=hw4.ext e6;replace hw5:=hw5.ext e6;replace hw6:=hw6.ext e6;replace hw7:=hw7.ext e6;replace hw8:=hw8.ext e6;replace h4:=h4.ext e6
 have z7:=e6.size
 refine Qf (Qw Z (fun hc1=>?_) (fun hc1=>?_))
 ·have hse:=recv_i hd5.1.1 hd6.1.1 hc1
  have hsq:=hse
  unfold U1 at hsq
  have hk1 : (Yz x r).sums.length = x.sums.length:=rfl
  have hk2 : (Yz x r).black.length = x.black.length:=rfl
  refine Qh (Qi [true,true,true,true,true,true,true,false] Z Z (Qa (Qd Uc Z) Z (Qa (Qj Kg Z (h4.one 4 Z)) Z (Qa (Qe Z) Z ?_))))
  have hi1 : (Int.toNat r.stamp.epoch) < ((Yz x r).sums).length:=(by first | assumption | omega | (simp only [List.length_set];first | assumption | omega) | (simp only [List.getElem_set_self,List.length_set];first | assumption | omega) | (simp only [Xc,Yp,List.length_set];first | assumption | omega) | (simp;done))
  refine Qa (Ki (i:=(Int.toNat r.stamp.epoch)) Ke Z Z (Own.rd (by decide) hw5) (by omega) hi1) Z (Qa (Qj Y6 Z (((Own.rd (by decide) hw5).get hi1).one 0 Z)) Z (Qa (U5 Z Z Z) Z ?_))
  have hi2 : (Int.toNat r.stamp.epoch) < ((Yz x r).sums).length:=(by first | assumption | omega | (simp only [List.length_set];first | assumption | omega) | (simp only [List.getElem_set_self,List.length_set];first | assumption | omega) | (simp only [Xc,Yp,List.length_set];first | assumption | omega) | (simp;done))
  refine Qa (Ki (i:=(Int.toNat r.stamp.epoch)) Ke Z Z (Own.rd (by decide) hw5) (by omega) hi2) Z (Ul (α:=Int) (i:=(Int.toNat r.stamp.epoch)) (f:=0) (IntKind.i64.wrap ((((Yz x r).sums)[(Int.toNat r.stamp.epoch)]'hi1) - 1)) Y6 Z Z Z Z hw5 hi2 (by decide) Z (fun w8 m2 hw5'=>?_))
  have hq:=Own.blk hw5
  replace hw5:=hw5'
  replace E:=E.step m2 (fun g hg=>by have:=hq g hg;omega);replace h1:=h1.mod m2 (fun g hg=>by have:=hq g hg;omega);replace h2:=h2.mod m2 (fun g hg=>by have:=hq g hg;omega);replace h3:=h3.mod m2 (fun g hg=>by have:=hq g hg;omega);replace hw1:=Own.modS hw1 m2 (sp1.1.2.2.2.1).symm;replace hw2:=Own.modS hw2 m2 (sp1.2.1.2.2.1).symm;replace hw3:=Own.modS hw3 m2 (sp1.2.2.1.2.1).symm;replace hw4:=Own.modS hw4 m2 (sp1.2.2.2.1.1).symm;replace hw6:=Own.modS hw6 m2 sp1.2.2.2.2.1.1;replace hw7:=Own.modS hw7 m2 sp1.2.2.2.2.1.2.1;replace hw8:=Own.modS hw8 m2 sp1.2.2.2.2.1.2.2.1;replace h4:=h4.mod m2 (fun g hg=>by have:=hq g hg;omega)
  have z8:=m2.size
  clear hq
  refine Qf (Qi [true,true,true,true,false] Z Z (Qa (Qd Vw Z) Z (Qa (Qj Gk Z (h4.one 5 Z)) Z (Qa (Qe Z) Z ?_))))
  have hi3 : (Int.toNat r.stamp.epoch) < ((Yz x r).black).length:=(by first | assumption | omega | (simp only [List.length_set];first | assumption | omega) | (simp only [List.getElem_set_self,List.length_set];first | assumption | omega) | (simp only [Xc,Yp,List.length_set];first | assumption | omega) | (simp;done))
  refine Qa (Ki (i:=(Int.toNat r.stamp.epoch)) Hr Z Z (Own.rd (by decide) hw6) (by omega) hi3) Z (Ul (α:=Bool) (i:=(Int.toNat r.stamp.epoch)) (f:=0) true sc4 Z Z Z Z hw6 hi3 (by decide) Z (fun w9 m3 hw6'=>?_))
  have hq:=Own.blk hw6
  replace hw6:=hw6'
  replace E:=E.step m3 (fun g hg=>by have:=hq g hg;omega);replace h1:=h1.mod m3 (fun g hg=>by have:=hq g hg;omega);replace h2:=h2.mod m3 (fun g hg=>by have:=hq g hg;omega);replace h3:=h3.mod m3 (fun g hg=>by have:=hq g hg;omega);replace hw1:=Own.modS hw1 m3 (sp1.1.2.2.2.2.1).symm;replace hw2:=Own.modS hw2 m3 (sp1.2.1.2.2.2.1).symm;replace hw3:=Own.modS hw3 m3 (sp1.2.2.1.2.2.1).symm;replace hw4:=Own.modS hw4 m3 (sp1.2.2.2.1.2.1).symm;replace hw7:=Own.modS hw7 m3 sp1.2.2.2.2.2.1.1;replace hw8:=Own.modS hw8 m3 sp1.2.2.2.2.2.1.2.1;replace h4:=h4.mod m3 (fun g hg=>by have:=hq g hg;omega);replace hw5:=Own.modS hw5 m3 (sp1.2.2.2.2.1.1).symm
  have z9:=m3.size
  clear hq
  refine Qf (Qh (Qi [true,false] Z Z (Qa (Qo Q7 Z h4.at Z) Z (Qs (cs':=[o9,o10,o11,o12,o13,o14,o15,o16]) Q7 Z Z Z (Qb hw1.one (Qb hw2.one (Qb hw3.one (Qb hw4.one (Qb hw5.one (Qb hw6.one (Qb hw7.one (Qb hw8.one Z)))))))) h3 (Nat.le_of_ble_eq_true Z) Z (fun w10 m4 h3'=>?_)))))
  replace h3:=h3'
  replace E:=E.step m4 (fun g hg=>by cases hg;omega);replace h1:=h1.mod m4 (fun g hg=>by cases hg;omega);replace h2:=h2.mod m4 (fun g hg=>by cases hg;omega);replace hw1:=hw1.mod m4 (fun g hg=>by cases hg;omega);replace hw2:=hw2.mod m4 (fun g hg=>by cases hg;omega);replace hw3:=hw3.mod m4 (fun g hg=>by cases hg;omega);replace hw4:=hw4.mod m4 (fun g hg=>by cases hg;omega);replace hw7:=hw7.mod m4 (fun g hg=>by cases hg;omega);replace hw8:=hw8.mod m4 (fun g hg=>by cases hg;omega);replace h4:=h4.mod m4 (fun g hg=>by cases hg;omega);replace hw5:=hw5.mod m4 (fun g hg=>by cases hg;omega);replace hw6:=hw6.mod m4 (fun g hg=>by cases hg;omega)
  have z10:=m4.size
  refine Qf (Qx (Y8 Z Z (Qu Q7 h3.at Z) E ?_))
  rw [Aj hse]
  exact ⟨_,Z,Worker.mkO (⟨(Yz x r).queue,(Yz x r).staged,(Yz x r).inputs,(Yz x r).cells,List.set ((Yz x r).sums) (Int.toNat r.stamp.epoch) (IntKind.i64.wrap ((((Yz x r).sums)[(Int.toNat r.stamp.epoch)]'hi1) - 1)),List.set ((Yz x r).black) (Int.toNat r.stamp.epoch) true,(Yz x r).caps,(Yz x r).dones⟩ : Worker) sp1 (Own.widen hw1 (by omega) (by omega)) (Own.widen hw2 (by omega) (by omega)) (Own.widen hw3 (by omega) (by omega)) (Own.widen hw4 (by omega) (by omega)) (Own.widen hw5 (by omega) (by omega)) (Own.widen hw6 (by omega) (by omega)) (Own.widen hw7 (by omega) (by omega)) (Own.widen hw8 (by omega) (by omega))⟩
 ·refine Qy (Qh (Qi [true,false] Z Z (Qa (Qo Q7 Z h4.at Z) Z (Qs (cs':=[o9,o10,o11,o12,o13,o14,o15,o16]) Q7 Z Z Z (Qb hw1.one (Qb hw2.one (Qb hw3.one (Qb hw4.one (Qb hw5.one (Qb hw6.one (Qb hw7.one (Qb hw8.one Z)))))))) h3 (Nat.le_of_ble_eq_true Z) Z (fun w11 m5 h3'=>?_)))))
  replace h3:=h3'
  replace E:=E.step m5 (fun g hg=>by cases hg;omega);replace h1:=h1.mod m5 (fun g hg=>by cases hg;omega);replace h2:=h2.mod m5 (fun g hg=>by cases hg;omega);replace hw1:=hw1.mod m5 (fun g hg=>by cases hg;omega);replace hw2:=hw2.mod m5 (fun g hg=>by cases hg;omega);replace hw3:=hw3.mod m5 (fun g hg=>by cases hg;omega);replace hw4:=hw4.mod m5 (fun g hg=>by cases hg;omega);replace hw5:=hw5.mod m5 (fun g hg=>by cases hg;omega);replace hw6:=hw6.mod m5 (fun g hg=>by cases hg;omega);replace hw7:=hw7.mod m5 (fun g hg=>by cases hg;omega);replace hw8:=hw8.mod m5 (fun g hg=>by cases hg;omega);replace h4:=h4.mod m5 (fun g hg=>by cases hg;omega)
  have z11:=m5.size
  refine Qf (Qx (Y8 Z Z (Qu Q7 h3.at Z) E ?_))
  rw [recvW_no (recv_in hd5.1.1 hd6.1.1 hc1)]
  exact ⟨_,Z,Worker.mkO (Yz x r) sp1 (Own.widen hw1 (by omega) (by omega)) (Own.widen hw2 (by omega) (by omega)) (Own.widen hw3 (by omega) (by omega)) (Own.widen hw4 (by omega) (by omega)) (Own.widen hw5 (by omega) (by omega)) (Own.widen hw6 (by omega) (by omega)) (Own.widen hw7 (by omega) (by omega)) (Own.widen hw8 (by omega) (by omega))⟩

set_option maxRecDepth 20000 in
theorem s_Received (cx : List Value) (x : Worker) (r : Record) (w : World) (hx : Dat.R w 0 w.heap.size cx x) (hb : Q4 x ≤ 1048576) : Ct Tryz.prog 19 [.agg cx.toArray,.agg (Enc.enc r).toArray] w (fun v w'=>∃ cs,v = .agg cs.toArray ∧ Own1.O w' w.heap.size w'.heap.size cs (Ut x r)):=by
 refine Yx Tryz.func19 Z Tryz.ntmps19 Z ?_
 obtain ⟨o1,o2,o3,o4,o5,o6,o7,o8,rfl,hd1,hd2,hd3,hd4,hd5,hd6,hd7,hd8⟩:=Worker.op hx
 refine Yh [(0,.agg [o1,o2,o3,o4,o5,o6,o7,o8].toArray),(1,.agg (Enc.enc r).toArray)] ⟨Z,Z,trivial⟩ ?_
 have E : Ext w w:=Ext.refl w
 refine Qh (Qi [false,false,false] Z Z (Y5 Z Z (fun b1 w1 e1 s1 h1=>?_)))
 have g_b1 : w.heap.size ≤ b1:=by have:=E.size;omega
 have y_b1:=h1.lt
 replace E:=E.trans e1
 have z1:=e1.size
 refine Y5 Z Z (fun b2 w2 e2 s2 h2=>?_)
 have g_b2 : w.heap.size ≤ b2:=by have:=E.size;omega
 have y_b2:=h2.lt
 replace E:=E.trans e2;replace h1:=h1.ext e2
 have z2:=e2.size
 refine Q6 Q7 Z (fun b3 w3 e3 s3 h3=>?_)
 have g_b3 : w.heap.size ≤ b3:=by have:=E.size;omega
 have y_b3:=h3.lt
 replace E:=E.trans e3;replace h1:=h1.ext e3;replace h2:=h2.ext e3
 have z3:=e3.size
 refine Qf (Qh (Qi [true,true,false,false] Z Z (Qa (Qo Q7 Z h1.at Z) Z (Qa (Qo Xh Z h2.at Z) Z (Qv Tryz.call20 Z (s_Kept [o1,o2,o3,o4,o5,o6,o7,o8] x r _ (Worker.mkR x (RdD.any (hd1.ext E)) (RdD.any (hd2.ext E)) (RdD.any (hd3.ext E)) (RdD.any (hd4.ext E)) (RdD.any (hd5.ext E)) (RdD.any (hd6.ext E)) (RdD.any (hd7.ext E)) (RdD.any (hd8.ext E))) (by first | omega | (simp only [Qt];omega) | (rw [Qt];done) | (simp only [Qt];done))) Z (fun _ w4 e4 ho1=>?_))))))
 obtain ⟨_,rfl,ho1⟩:=ho1
 have g_ho1 : w.heap.size ≤ w3.heap.size:=E.size
 replace E:=E.trans e4;replace h1:=h1.ext e4;replace h2:=h2.ext e4;replace h3:=h3.ext e4
 have z4:=e4.size
 obtain ⟨o9,o10,o11,o12,o13,o14,o15,o16,rfl,sp1,hw1,hw2,hw3,hw4,hw5,hw6,hw7,hw8⟩:=Worker.opO ho1
 refine Qs (cs':=[o9,o10,o11,o12,o13,o14,o15,o16]) Q7 Z Z Z (Qb hw1.one (Qb hw2.one (Qb hw3.one (Qb hw4.one (Qb hw5.one (Qb hw6.one (Qb hw7.one (Qb hw8.one Z)))))))) h1 (Nat.le_of_ble_eq_true Z) Z (fun w5 m1 h1'=>?_)
 replace h1:=h1'
 replace E:=E.step m1 (fun g hg=>by cases hg;omega);replace h2:=h2.mod m1 (fun g hg=>by cases hg;omega);replace h3:=h3.mod m1 (fun g hg=>by cases hg;omega);replace hw1:=hw1.mod m1 (fun g hg=>by cases hg;omega);replace hw2:=hw2.mod m1 (fun g hg=>by cases hg;omega);replace hw3:=hw3.mod m1 (fun g hg=>by cases hg;omega);replace hw4:=hw4.mod m1 (fun g hg=>by cases hg;omega);replace hw5:=hw5.mod m1 (fun g hg=>by cases hg;omega);replace hw6:=hw6.mod m1 (fun g hg=>by cases hg;omega);replace hw7:=hw7.mod m1 (fun g hg=>by cases hg;omega);replace hw8:=hw8.mod m1 (fun g hg=>by cases hg;omega)
 have z5:=m1.size
 refine Qf (Qh (Qi [true,true,true,true] Z Z (Qa (Qd Kz Z) Z (Qa (Yt Vf Z) Z (Qa (Qj Y6 Z (h2.one 1 Z)) Z (Qa (Qg Z) Z (Qf (Qh (Qh (Qi [true,true,true,true,true,false,true,true,true,true,true,true,true] Z Z (Qa (Qe Z) Z (Qa (Qd Uc Z) Z (Qa (Qj Kg Z (h1.one 4 Z)) Z (Qa (Yg Tryz.underlying29 Z (Own.len (by decide) hw5)) Z (Qa (U5 Z Z Z) Z (Qv Tryz.call45 Z (s_l01In r.stamp.epoch 0 (IntKind.i64.wrap (((((Yz x r).sums).length : Nat) : Int) - 1)) _ ) Z (fun _ w6 e5 hv=>?_)))))))))))))))))
 subst hv
 replace E:=E.trans e5;replace h1:=h1.ext e5;replace h2:=h2.ext e5;replace h3:=h3.ext e5;replace hw1:=hw1.ext e5;replace hw2:=hw2.ext e5;replace hw3:=hw3.ext e5;replace hw4:=hw4.ext e5;replace hw5:=hw5.ext e5;replace hw6:=hw6.ext e5;replace hw7:=hw7.ext e5;replace hw8:=hw8.ext e5
 have z6:=e5.size
 refine Qa (Qe Z) Z (Xg 6 [(0,.agg [o1,o2,o3,o4,o5,o6,o7,o8].toArray),(1,.agg (Enc.enc r).toArray),(2,.pointer (some ⟨b1,0,none⟩)),(3,.pointer (some ⟨b2,0,none⟩)),(4,.pointer (some ⟨b3,0,none⟩)),(5,.int .i64 r.stamp.epoch),(6,.agg [o1,o2,o3,o4,o5,o6,o7,o8].toArray),(7,.agg (Enc.enc r).toArray),(8,.agg [o9,o10,o11,o12,o13,o14,o15,o16].toArray),(9,.pointer (some ⟨b2,1,none⟩)),(10,.pointer (some ⟨b2,1 + 0,none⟩)),(11,.int .i64 r.stamp.epoch),(24,.bool ((Y0 r.stamp.epoch 0 (IntKind.i64.wrap (((((Yz x r).sums).length : Nat) : Int) - 1))) && (decide (r.stamp.epoch < ((((Yz x r).black).length : Nat) : Int)))))] (fun w'=>w6 = w') ?_ ?_)
 ·refine Ym (gd:=18) Z Z (fun hg1=>?_) (fun hg1=>?_)
  ·refine Qk Z Z (Qe Z) Z (Qk Z Z (Qd Vw Z) Z (Qk Z Z (Qj Gk Z (h1.one 5 Z)) Z (Qk Z Z (Yg Tryz.underlying30 Z (Own.len (by decide) hw6)) Z (Qk Z Z (Xn Z Z) Z (Qa (Qr Z Z) Z (Ql ⟨Z,Z,Z,Z,Z,Z,Z,Z,Z,Z,Z,Z,congrArg (fun b=>some (Value.bool b)) (show (decide (r.stamp.epoch < ((((Yz x r).black).length : Nat) : Int))) = ((Y0 r.stamp.epoch 0 (IntKind.i64.wrap (((((Yz x r).sums).length : Nat) : Int) - 1))) && (decide (r.stamp.epoch < ((((Yz x r).black).length : Nat) : Int)))) by first | (rw [hg1] <;> rfl) | (simp [hg1];done) | (simp only [Qp] <;> simp)),trivial⟩ Z))))))
  ·refine Qc Z Z Z Z (Qc Z Z Z Z (Qc Z Z Z Z (Qc Z Z Z Z (Qc Z Z Z Z (Qa (Qq Z Z) Z (Ql ⟨Z,Z,Z,Z,Z,Z,Z,Z,Z,Z,Z,Z,congrArg (fun b=>some (Value.bool b)) (show false = ((Y0 r.stamp.epoch 0 (IntKind.i64.wrap (((((Yz x r).sums).length : Nat) : Int) - 1))) && (decide (r.stamp.epoch < ((((Yz x r).black).length : Nat) : Int)))) by first | (rw [hg1] <;> rfl) | (simp [hg1];done) | (simp only [Qp] <;> simp)),trivial⟩ Z))))))
 rintro _ rfl
 refine Qf (Qw Z (fun hc1=>?_) (fun hc1=>?_))
 ·have hse:=recv_s hd5.1.1 hc1
  have hsq:=hse
  unfold U1 at hsq
  have hk1 : (Yz x r).sums.length = x.sums.length:=rfl
  have hk2 : (Yz x r).black.length = x.black.length:=rfl
  refine Qh (Xu Xo [(0,true),(1,true),(2,true),(3,true),(4,true),(5,true),(6,true),(7,true),(8,true),(9,true),(10,false)] (by decide +kernel) Z (fun w8 e6=>?_))
  replace E:=E.trans e6;replace h1:=h1.ext e6;replace h2:=h2.ext e6;replace h3:=h3.ext e6;replace hw1:=hw1.ext e6;replace hw2:=hw2.ext e6;replace hw3:=hw3.ext e6;replace hw4:=hw4.ext e6;replace hw5:=hw5.ext e6;replace hw6:=hw6.ext e6;replace hw7:=hw7.ext e6;replace hw8:=hw8.ext e6
  have z7:=e6.size
  refine Qa (Qd Uc Z) Z (Qa (Qj Kg Z (h1.one 4 Z)) Z (Qa (Qe Z) Z (Qa (Qd Uc Z) Z (Qa (Qj Kg Z (h1.one 4 Z)) Z (Qa (Qe Z) Z ?_)))))
  have hi1 : (Int.toNat r.stamp.epoch) < ((Yz x r).sums).length:=(by first | assumption | omega | (simp only [List.length_set];first | assumption | omega) | (simp only [List.getElem_set_self,List.length_set];first | assumption | omega) | (simp only [Xc,Yp,List.length_set];first | assumption | omega) | (simp;done))
  refine Qa (Ki (i:=(Int.toNat r.stamp.epoch)) Ke Z Z (Own.rd (by decide) hw5) (by omega) hi1) Z (Qa (Qj Y6 Z (((Own.rd (by decide) hw5).get hi1).one 0 Z)) Z (Qa (U5 Z Z Z) Z ?_))
  have hi2 : (Int.toNat r.stamp.epoch) < ((Yz x r).sums).length:=(by first | assumption | omega | (simp only [List.length_set];first | assumption | omega) | (simp only [List.getElem_set_self,List.length_set];first | assumption | omega) | (simp only [Xc,Yp,List.length_set];first | assumption | omega) | (simp;done))
  refine Qa (Ki (i:=(Int.toNat r.stamp.epoch)) Ke Z Z (Own.rd (by decide) hw5) (by omega) hi2) Z (Ul (α:=Int) (i:=(Int.toNat r.stamp.epoch)) (f:=0) (IntKind.i64.wrap ((((Yz x r).sums)[(Int.toNat r.stamp.epoch)]'hi1) - 1)) Y6 Z Z Z Z hw5 hi2 (by decide) Z (fun w9 m2 hw5'=>?_))
  have hq:=Own.blk hw5
  replace hw5:=hw5'
  replace E:=E.step m2 (fun g hg=>by have:=hq g hg;omega);replace h1:=h1.mod m2 (fun g hg=>by have:=hq g hg;omega);replace h2:=h2.mod m2 (fun g hg=>by have:=hq g hg;omega);replace h3:=h3.mod m2 (fun g hg=>by have:=hq g hg;omega);replace hw1:=Own.modS hw1 m2 (sp1.1.2.2.2.1).symm;replace hw2:=Own.modS hw2 m2 (sp1.2.1.2.2.1).symm;replace hw3:=Own.modS hw3 m2 (sp1.2.2.1.2.1).symm;replace hw4:=Own.modS hw4 m2 (sp1.2.2.2.1.1).symm;replace hw6:=Own.modS hw6 m2 sp1.2.2.2.2.1.1;replace hw7:=Own.modS hw7 m2 sp1.2.2.2.2.1.2.1;replace hw8:=Own.modS hw8 m2 sp1.2.2.2.2.1.2.2.1
  have z8:=m2.size
  clear hq
  refine Qf (Qi [true,true,true,true,false] Z Z (Qa (Qd Vw Z) Z (Qa (Qj Gk Z (h1.one 5 Z)) Z (Qa (Qe Z) Z ?_))))
  have hi3 : (Int.toNat r.stamp.epoch) < ((Yz x r).black).length:=(by first | assumption | omega | (simp only [List.length_set];first | assumption | omega) | (simp only [List.getElem_set_self,List.length_set];first | assumption | omega) | (simp only [Xc,Yp,List.length_set];first | assumption | omega) | (simp;done))
  refine Qa (Ki (i:=(Int.toNat r.stamp.epoch)) Hr Z Z (Own.rd (by decide) hw6) (by omega) hi3) Z (Ul (α:=Bool) (i:=(Int.toNat r.stamp.epoch)) (f:=0) true sc4 Z Z Z Z hw6 hi3 (by decide) Z (fun w10 m3 hw6'=>?_))
  have hq:=Own.blk hw6
  replace hw6:=hw6'
  replace E:=E.step m3 (fun g hg=>by have:=hq g hg;omega);replace h1:=h1.mod m3 (fun g hg=>by have:=hq g hg;omega);replace h2:=h2.mod m3 (fun g hg=>by have:=hq g hg;omega);replace h3:=h3.mod m3 (fun g hg=>by have:=hq g hg;omega);replace hw1:=Own.modS hw1 m3 (sp1.1.2.2.2.2.1).symm;replace hw2:=Own.modS hw2 m3 (sp1.2.1.2.2.2.1).symm;replace hw3:=Own.modS hw3 m3 (sp1.2.2.1.2.2.1).symm;replace hw4:=Own.modS hw4 m3 (sp1.2.2.2.1.2.1).symm;replace hw7:=Own.modS hw7 m3 sp1.2.2.2.2.2.1.1;replace hw8:=Own.modS hw8 m3 sp1.2.2.2.2.2.1.2.1;replace hw5:=Own.modS hw5 m3 (sp1.2.2.2.2.1.1).symm
  have z9:=m3.size
  clear hq
  refine Qf (Qh (Qi [true,false] Z Z (Qa (Qo Q7 Z h1.at Z) Z (Qs (cs':=[o9,o10,o11,o12,o13,o14,o15,o16]) Q7 Z Z Z (Qb hw1.one (Qb hw2.one (Qb hw3.one (Qb hw4.one (Qb hw5.one (Qb hw6.one (Qb hw7.one (Qb hw8.one Z)))))))) h3 (Nat.le_of_ble_eq_true Z) Z (fun w11 m4 h3'=>?_)))))
  replace h3:=h3'
  replace E:=E.step m4 (fun g hg=>by cases hg;omega);replace h1:=h1.mod m4 (fun g hg=>by cases hg;omega);replace h2:=h2.mod m4 (fun g hg=>by cases hg;omega);replace hw1:=hw1.mod m4 (fun g hg=>by cases hg;omega);replace hw2:=hw2.mod m4 (fun g hg=>by cases hg;omega);replace hw3:=hw3.mod m4 (fun g hg=>by cases hg;omega);replace hw4:=hw4.mod m4 (fun g hg=>by cases hg;omega);replace hw7:=hw7.mod m4 (fun g hg=>by cases hg;omega);replace hw8:=hw8.mod m4 (fun g hg=>by cases hg;omega);replace hw5:=hw5.mod m4 (fun g hg=>by cases hg;omega);replace hw6:=hw6.mod m4 (fun g hg=>by cases hg;omega)
  have z10:=m4.size
  refine Qf (Qx (Y8 Z Z (Qu Q7 h3.at Z) E ?_))
  rw [Aj hse]
  exact ⟨_,Z,Worker.mkO (⟨(Yz x r).queue,(Yz x r).staged,(Yz x r).inputs,(Yz x r).cells,List.set ((Yz x r).sums) (Int.toNat r.stamp.epoch) (IntKind.i64.wrap ((((Yz x r).sums)[(Int.toNat r.stamp.epoch)]'hi1) - 1)),List.set ((Yz x r).black) (Int.toNat r.stamp.epoch) true,(Yz x r).caps,(Yz x r).dones⟩ : Worker) sp1 (Own.widen hw1 (by omega) (by omega)) (Own.widen hw2 (by omega) (by omega)) (Own.widen hw3 (by omega) (by omega)) (Own.widen hw4 (by omega) (by omega)) (Own.widen hw5 (by omega) (by omega)) (Own.widen hw6 (by omega) (by omega)) (Own.widen hw7 (by omega) (by omega)) (Own.widen hw8 (by omega) (by omega))⟩
 ·refine Qy (Qh (Qi [true,false] Z Z (Qa (Qo Q7 Z h1.at Z) Z (Qs (cs':=[o9,o10,o11,o12,o13,o14,o15,o16]) Q7 Z Z Z (Qb hw1.one (Qb hw2.one (Qb hw3.one (Qb hw4.one (Qb hw5.one (Qb hw6.one (Qb hw7.one (Qb hw8.one Z)))))))) h3 (Nat.le_of_ble_eq_true Z) Z (fun w12 m5 h3'=>?_)))))
  replace h3:=h3'
  replace E:=E.step m5 (fun g hg=>by cases hg;omega);replace h1:=h1.mod m5 (fun g hg=>by cases hg;omega);replace h2:=h2.mod m5 (fun g hg=>by cases hg;omega);replace hw1:=hw1.mod m5 (fun g hg=>by cases hg;omega);replace hw2:=hw2.mod m5 (fun g hg=>by cases hg;omega);replace hw3:=hw3.mod m5 (fun g hg=>by cases hg;omega);replace hw4:=hw4.mod m5 (fun g hg=>by cases hg;omega);replace hw5:=hw5.mod m5 (fun g hg=>by cases hg;omega);replace hw6:=hw6.mod m5 (fun g hg=>by cases hg;omega);replace hw7:=hw7.mod m5 (fun g hg=>by cases hg;omega);replace hw8:=hw8.mod m5 (fun g hg=>by cases hg;omega)
  have z11:=m5.size
  refine Qf (Qx (Y8 Z Z (Qu Q7 h3.at Z) E ?_))
  rw [recvW_no (recv_sn hd5.1.1 hc1)]
  exact ⟨_,Z,Worker.mkO (Yz x r) sp1 (Own.widen hw1 (by omega) (by omega)) (Own.widen hw2 (by omega) (by omega)) (Own.widen hw3 (by omega) (by omega)) (Own.widen hw4 (by omega) (by omega)) (Own.widen hw5 (by omega) (by omega)) (Own.widen hw6 (by omega) (by omega)) (Own.widen hw7 (by omega) (by omega)) (Own.widen hw8 (by omega) (by omega))⟩

set_option maxRecDepth 20000 in
theorem c_IndexFuncCell (vxs : Value) (xs : List Cell) (fp : Value) (p : Cell → Bool) (w : World) (hxs : RdS w vxs xs) (hp : PredF Tryz.prog w fp p) : Ct Tryz.prog 105 [vxs,fp] w (fun v _=>v = .int .i64 (Gf xs p)):=by
 refine Yx Tryz.func105 Z Tryz.ntmps105 Z ?_
 obtain ⟨fid,fs,fc,rfl,hcf,hpf⟩:=hp
 refine Yh [(0,vxs),(1,.func (.func fid) fs.toArray fc.toArray)] ⟨Z,Z,trivial⟩ ?_
 have E : Ext w w:=Ext.refl w
 refine Qh (Qi [true] Z Z (Qa (Qg Z) Z (Qf (Qh (Qh (Qi [true,true,true] Z Z (Qa (Qe Z) Z (Qa (Yg Tryz.underlying28 Z (hxs.ext E).len) Z (Qa (Qe Z) Z (Qf (Q9 (Xk (fun (k : Nat)=>[(0,vxs),(1,.func (.func fid) fs.toArray fc.toArray),(4,.int .i64 0),(7,.int .i64 ((xs.length : Nat) : Int)),(8,.int .i64 ((k : Nat) : Int))]) (fun (k : Nat) w'=>Ext w w' ∧ w.heap.size ≤ w'.heap.size ∧ k ≤ xs.length ∧ (xs.take k).any p = false) (fun (k : Nat)=>xs.length - k) 0 ⟨Z,Z,Z,Z,Z,trivial⟩ ⟨E,Nat.le_refl _,Nat.zero_le _,Z⟩ ?_))))))))))))
 clear E
 rintro k w1 ⟨E,z1,hk,hI⟩
 refine Qh (Qi [true] Z Z (Qa (Xn Z Z) Z (Qf (Qh (Qw Z (fun hc1=>?_) (fun hc1=>?_))))))
 ·have hc1n : k < xs.length:=by first | (have h:=of_decide_eq_true hc1;omega) | (have h:=hc1;simp at h;omega)
  refine Qy (Qh (Q9 (Qh (Qi [true,true] Z Z (Qa (Qe Z) Z (Qa (Qg Z) Z (Qf (Qh (Qi [true,true,true,true,true,false] Z Z (Qa (Qe Z) Z (Qa (Qe Z) Z (Qa (Qe Z) Z ?_))))))))))))
  have hi1 : k < xs.length:=(by first | assumption | omega | (simp only [List.length_set];first | assumption | omega) | (simp only [List.getElem_set_self,List.length_set];first | assumption | omega) | (simp only [Xc,Yp,List.length_set];first | assumption | omega) | (simp;done))
  refine Qa (Ye (i:=k) X0 Z Z (hxs.ext E) hi1) Z (Qa (Qo Ku Z ((hxs.ext E).get hi1) Z) Z (J_callV (fs:=fs) (cs:=fc) hcf Z Z (hpf (xs[k]'hi1) _ E) Z (fun _ w2 e1 hv=>?_)))
  subst hv
  replace E:=E.trans e1
  have z2:=e1.size
  refine Qf (Qw Z (fun hc2=>?_) (fun hc2=>?_))
  ·refine Qh (Qi [true,true] Z Z (Qa (Qe Z) Z (Qa (Qg Z) Z (Qf (Qx (Qz (Xb (Qz (Q0 Z Z E ?_)))))))))
   exact find_yes hI (by assumption) hc2
  ·refine Qy (Yb (Yv (Qi [true,true] Z Z (Qa (Yw Z Z (Y7 hc1n hxs.1)) Z (Qa (Qe Z) Z (Qf (Yb (Yy (k + 1) (by omega) ⟨Z,Z,Z,Z,Z,trivial⟩ ⟨E,(by omega),(by omega),C9 hI (by assumption) hc2⟩))))))))
 ·have hc1n : ¬ k < xs.length:=by first | (have h:=of_decide_eq_false hc1;omega) | (have h:=hc1;simp at h;omega)
  refine Xl (Ys (Yj ?_))
  refine Qh (Qi [true] Z Z (Qa (Qg Z) Z (Qf (Qx (Q0 Z Z E ?_)))))
  exact find_no hI (by omega)

set_option maxRecDepth 20000 in
theorem c_DeleteFuncCell (vxs : Value) (lo hi : Nat) (xs : List Cell) (fp : Value) (p : Cell → Bool) (w : World) (hxs : Own w lo hi 4 vxs (List.flatMap (Enc.enc (α:=Cell)) xs)) (hp : PredR Tryz.prog w lo hi fp p) (hhi : hi ≤ w.heap.size) : CtR Tryz.prog 98 [vxs,fp] w lo hi (fun v w'=>Own w' lo w'.heap.size 4 v (List.flatMap (Enc.enc (α:=Cell)) (List.filter (fun y=>!(p y)) xs))):=by
 have hmx:=(Own.rd (α:=Cell) (by decide) hxs).1
 unfold maxLen at hmx
 refine U2 Tryz.func98 Z Tryz.ntmps98 Z ?_
 obtain ⟨fid,fs,fc,rfl,hcf,hpf⟩:=hp
 refine Yh [(0,vxs),(1,.func (.func fid) fs.toArray fc.toArray)] ⟨Z,Z,trivial⟩ ?_
 have E : ModR w w lo hi:=ModR.refl w lo hi
 refine Qh (Qi [true] Z Z (Qa (Qg Z) Z (Qf (Qh (Qi [true,true,false,true] Z Z (Qa (Qe Z) Z (Qa (Qe Z) Z (Qv Tryz.call105 (by rfl) (c_IndexFuncCell vxs xs (.func (.func fid) fs.toArray fc.toArray) (p) _ (Own.rd (by decide) hxs) ⟨fid,fs,fc,Z,hcf,fun y w' e=>hpf y w' (E.ext e)⟩) Z (fun _ w1 e1 hv=>?_)))))))))
 subst hv
 replace E:=E.ext e1;replace hxs:=hxs.ext e1
 have z1:=e1.size
 refine Qa (Qg Z) Z (Qf (Qh (Qh (Qi [true,true] Z Z (Qa (Qe Z) Z (Qa (Yq Z Z) Z (Qf (Qw Z (fun hc1=>?_) (fun hc1=>?_)))))))))
 ·refine Qh (Qi [true,true] Z Z (Qa (Qe Z) Z (Qa (Qg Z) Z (Qf (Qx (Q0 Z Z E ?_))))))
  exact Own.fin hxs (Nat.le_refl _) (by have:=E.size;omega) (by rw [del_none (by simpa using hc1)])
 ·have hany:=find_some (by simpa using hc1)
  have hfl:=find_lt hany
  rw [find_eq hany]
  refine Qy (Qh (Qh (Qi [true,true,true] Z Z (Qa (Qe Z) Z (Qa (Yw Z Z (K5 (by unfold maxLen;omega))) Z (Qa (Qg Z) Z (Qf (Q9 (Xk (fun (xq : Nat × Nat × List Cell)=>let ⟨j,i,ys⟩:=xq;[(0,vxs),(1,.func (.func fid) fs.toArray fc.toArray),(4,.slice none 0 0),(5,.int .i64 ((i : Nat) : Int)),(6,.int .i64 ((j : Nat) : Int))]) (fun (xq : Nat × Nat × List Cell) w'=>let ⟨j,i,ys⟩:=xq;ModR w w' lo hi ∧ w1.heap.size ≤ w'.heap.size ∧ ys.length = xs.length ∧ i < j ∧ j ≤ xs.length ∧ ys.take i = (xs.take j).filter (fun y=>!p y) ∧ ys.drop j = xs.drop j ∧ Own w' lo hi 4 vxs (List.flatMap (Enc.enc (α:=Cell)) ys)) (fun (xq : Nat × Nat × List Cell)=>let ⟨j,i,ys⟩:=xq;xs.length - j) (xs.findIdx p + 1,xs.findIdx p,xs) ⟨Z,Z,Z,Z,Z,trivial⟩ ⟨E,Nat.le_refl _,Z,(by omega),(by omega),(del_start hany),Z,hxs⟩ ?_)))))))))
  clear E hxs
  rintro ⟨j,i,ys⟩ w2 ⟨E,z2,hyl,hij,hjl,hI,hD,hxs⟩
  refine Yh [(0,vxs),(1,.func (.func fid) fs.toArray fc.toArray),(4,.slice none 0 0),(5,.int .i64 ((i : Nat) : Int)),(6,.int .i64 ((j : Nat) : Int))] ⟨Z,Z,Z,Z,Z,trivial⟩ ?_
  refine Qh (Qh (Qi [true,true,true,true] Z Z (Qa (Qe Z) Z (Qa (Qe Z) Z (Qa (Yg Tryz.underlying28 Z (Own.lenE (by decide) hxs hyl)) Z (Qa (Xn Z Z) Z (Qf (Qw Z (fun hc2=>?_) (fun hc2=>?_)))))))))
  ·have hc2n : j < xs.length:=by first | (have h:=of_decide_eq_true hc2;omega) | (have h:=hc2;simp at h;omega)
   refine Qy (Qh (Q9 (Qh (Qi [true,true,true,true,false,false] Z Z (Qa (Qe Z) Z (Qa (Qe Z) Z ?_))))))
   have hi1 : j < ys.length:=(by first | assumption | omega | (simp only [List.length_set];first | assumption | omega) | (simp only [List.getElem_set_self,List.length_set];first | assumption | omega) | (simp only [Xc,Yp,List.length_set];first | assumption | omega) | (simp;done))
   refine Qa (Ye (i:=j) X0 Z Z (Own.rd (by decide) hxs) hi1) Z (Qa (Qo Ku Z ((Own.rd (by decide) hxs).get hi1) Z) Z (Q6 Ku Z (fun b1 w3 e2 s1 h1=>?_)))
   have g_b1 : w.heap.size ≤ b1:=by have:=E.size;omega
   have y_b1:=h1.lt
   replace E:=E.ext e2;replace hxs:=hxs.ext e2
   have z3:=e2.size
   refine Qs (cs':=[.int .i64 ((ys[j]'hi1).op),.int .i64 ((ys[j]'hi1).epoch),.int .i64 ((ys[j]'hi1).key),.int .i64 ((ys[j]'hi1).val)]) Ku Z Z Z Z h1 (Nat.le_of_ble_eq_true Z) Z (fun w4 m1 h1'=>?_)
   replace h1:=h1'
   replace E:=E.mod m1 (fun g hg=>by cases hg;omega);replace hxs:=hxs.mod m1 (fun g hg=>by cases hg;omega)
   have z4:=m1.size
   refine Qf (Qh (Qi [true,true,false,true] Z Z (Qa (Qe Z) Z (Qa (Qo Ku Z h1.at Z) Z (J_callV (fs:=fs) (cs:=fc) hcf Z Z (hpf (ys[j]'hi1) _ E) Z (fun _ w5 e3 hv=>?_))))))
   subst hv
   replace E:=E.ext e3;replace hxs:=hxs.ext e3;replace h1:=h1.ext e3
   have z5:=e3.size
   refine Qa (Y1 Z) Z (Qf (Qw Z (fun hc3=>?_) (fun hc3=>?_)))
   ·refine Qh (Qi [true,true,true,true,false] Z Z (Qa (Qe Z) Z (Qa (Qe Z) Z (Qa (Qo Ku Z h1.at Z) Z ?_))))
    have hi2 : i < ys.length:=(by first | assumption | omega | (simp only [List.length_set];first | assumption | omega) | (simp only [List.getElem_set_self,List.length_set];first | assumption | omega) | (simp only [Xc,Yp,List.length_set];first | assumption | omega) | (simp;done))
    refine Qa (Ye (i:=i) X0 Z Z (Own.rd (by decide) hxs) hi2) Z (J_storeElem (α:=Cell) (i:=i) (ys[j]'hi1) Ku Z Z Z hxs hi2 (fun w6 m2 hxs'=>?_))
    have hq:=Own.blk hxs
    replace hxs:=hxs'
    replace E:=E.mod m2 (fun g hg=>by have:=hq g hg;omega);replace h1:=h1.mod m2 (fun g hg=>by have:=hq g hg;omega)
    have z6:=m2.size
    clear hq
    refine Qf (Qi [true,true,true] Z Z (Qa (Qe Z) Z (Qa (Yw Z Z (K5 (by unfold maxLen;omega))) Z (Qa (Qg Z) Z (Qf (Yb (Yv (Qi [true,true,true] Z Z (Qa (Qe Z) Z (Qa (Yw Z Z (K5 (by unfold maxLen;omega))) Z (Qa (Qg Z) Z (Qf (Yb (Yy (j + 1,i + 1,List.set ys i (ys[j]'hi1)) (by simp;omega) ⟨Z,Z,Z,Z,Z,trivial⟩ ⟨E,(by omega),(by simpa using hyl),(by omega),(by omega),(del_yes1 hI hD hyl hij (by omega) (by simpa using hc3)),(del_yes2 hD hyl hij),hxs⟩))))))))))))))
   ·refine Qy (Yb (Yv (Qi [true,true,true] Z Z (Qa (Qe Z) Z (Qa (Yw Z Z (K5 (by unfold maxLen;omega))) Z (Qa (Qg Z) Z (Qf (Yb (Yy (j + 1,i,ys) (by simp;omega) ⟨Z,Z,Z,Z,Z,trivial⟩ ⟨E,(by omega),(by simpa using hyl),(by omega),(by omega),(del_no1 hI hD hyl hij (by omega) (by simpa using hc3)),(del_no2 hD hyl hij),hxs⟩)))))))))
  ·have hc2n : ¬ j < xs.length:=by first | (have h:=of_decide_eq_false hc2;omega) | (have h:=hc2;simp at h;omega)
   refine Xl (Ys (Yj ?_))
   refine Qh (Qi [true,true,true,false] Z Z (Qa (Qe Z) Z (Qa (Qe Z) Z ?_)))
   have hk1 : i ≤ ys.length:=by first | assumption | omega
   refine Qa (Kt X0 Z Z (Own.roomE (α:=Cell) hxs) hk1) Z ?_
   have hrm1:=Own.roomE (α:=Cell) hxs
   have hq:=Own.blk hxs
   refine J_clear (α:=Cell) X0 Ku Z Z hxs (by first | assumption | omega) (fun w7 m3 ho1=>?_)
   replace E:=E.mod m3 (fun g hg=>by have:=hq g hg;omega)
   have z7:=m3.size
   clear hq
   refine Qf (Qh (Qi [true,true,true,true] Z Z (Qa (Qe Z) Z (Qa (Qe Z) Z ?_))))
   have hk2 : i ≤ ys.length:=by first | assumption | omega
   refine Qa (Hp X0 Z Z hrm1 hk2) Z (Qa (Qg Z) Z (Qf (Qx (Q0 Z Z E ?_))))
   exact Own.fin ho1 (Nat.le_refl _) (by have:=E.size;omega) (by rw [del_end hI (by omega)])

set_option maxHeartbeats 4000000 in
set_option maxRecDepth 20000 in
theorem c_InsertCell (vxs : Value) (lo hi : Nat) (xs : List Cell) (i : Nat) (bqy : Nat) (y : Cell) (w : World) (hxs : Own w lo hi 4 vxs (List.flatMap (Enc.enc (α:=Cell)) xs)) (hy : Blk w bqy (Enc.enc y)) (hlo : lo ≤ w.heap.size) (hhi : hi ≤ w.heap.size) (hil : i ≤ xs.length) (hyb : hi ≤ bqy) (hbd : xs.length ≤ 4194304) : CtR Tryz.prog 101 [vxs,.int .i64 ((i : Nat) : Int),.slice (some ⟨bqy,0,none⟩) 1 1] w lo hi (fun v w'=>Own w' lo w'.heap.size 4 v (List.flatMap (Enc.enc (α:=Cell)) (Ce xs i y))):=by
 have hyl:=hy.lt
 refine U2 Tryz.func101 Z Tryz.ntmps101 Z ?_
 refine Yh [(0,vxs),(1,.int .i64 ((i : Nat) : Int)),(2,.slice (some ⟨bqy,0,none⟩) 1 1)] ⟨Z,Z,Z,trivial⟩ ?_
 have E : ModR w w lo hi:=ModR.refl w lo hi
 refine Qh (Qi [true] Z Z (Qa (Qg Z) Z (Qf (Qh (Qi [true,true,true] Z Z (Qa (Qe Z) Z (Qa (Qe Z) Z ?_)))))))
 have hk1 : i ≤ xs.length:=by first | assumption | omega
 refine Qa (Kt X0 Z Z (Own.roomE (α:=Cell) hxs) hk1) Z (Qf (Qh (Qi [true,true,true] Z Z (Qa (Qe Z) Z (Qa (Yg Tryz.underlying28 Z ⟨_,_,Z⟩) Z (Qa (Qg Z) Z (Qf (Qh (Qh (Qi [true,true] Z Z (Qa (Qe Z) Z (Qa (Yq Z Z) Z (Qf (Aa Z (by decide) (Qy (Qh (Qi [true,true,true] Z Z (Qa (Qe Z) Z (Qa (Yg Tryz.underlying28 Z (Own.len (by decide) hxs)) Z (Qa (Qg Z) Z (Qf (Qh (Qh (Qi [true,true,true] Z Z (Qa (Qe Z) Z (Qa (Qe Z) Z (Qa (Yq Z Z) Z (Qf (Qw Z (fun hc1=>?_) (fun hc1=>?_))))))))))))))))))))))))))))))
 ·have hc1n : i = xs.length:=by first | (have h:=of_decide_eq_true hc1;omega) | (have h:=hc1;simp at h;omega)
  refine Qh (Qi [true,true,false,true] Z Z (Qa (Qe Z) Z (Qa (Qe Z) Z (K2 X0 Z Z hxs (Src.ofBlk hy (by rfl)) (Enc.one _) (by simp only [Ya,Enc.len];simp only [show Enc.sz Cell = 4 from Z];omega) (by decide) (by omega) (by omega) Z Z (fun v1 w1 m1 ho1=>?_)))))
  replace E:=E.mod m1 (fun g hg=>by have:=Own.blk hxs g hg;omega);replace hy:=hy.mod m1 (fun g hg=>by have:=Own.blk hxs g hg;omega)
  have z1:=m1.size
  refine Qa (Qg Z) Z (Qf (Qx (Q0 Z Z E ?_)))
  exact Own.fin ho1 (Nat.le_refl _) (by omega) (ins_end (by have h:=hc1;simp at h;omega))
 ·have hlt : i < xs.length:=by have h:=hc1;simp at h;omega
  obtain ⟨g,off,cap,cur,rfl,hg1,hg2,hB,hn,hcm,hrr,hcur⟩:=Own.conc (n:=xs.length) hxs (Ya xs) (by decide) (by omega)
  have hc1n : ¬ i = xs.length:=by first | (have h:=of_decide_eq_false hc1;omega) | (have h:=hc1;simp at h;omega)
  refine Qy (Qh (Qh (Qi [true,true,true,true,true,true] Z Z (Qa (Qe Z) Z (Qa (Qe Z) Z (Qa (Yw Z Z (K5 (by unfold maxLen;omega))) Z (Qa (Qe Z) Z (Qa (R_cap Tryz.underlying28 Z) Z (Qa (Un Z Z) Z (Qf (Qw Z (fun hc2=>?_) (fun hc2=>?_))))))))))))
  ·have hc2n : xs.length + 1 > cap:=by first | (have h:=of_decide_eq_true hc2;omega) | (have h:=hc2;simp at h;omega)
   refine Qh (Qi [true,true,true,true,true,true,true,true,false,true] Z Z (Qa (Qe Z) Z (Qa (Qe Z) Z (Qa (Ab X0 Z Z (by omega)) Z (Qa (Qe Z) Z (Qa (Qe Z) Z (Qa (Yw Z Z (K5 (by unfold maxLen;omega))) Z (Qa (Qe Z) Z (Qa (U5 Z Z (nat_sub (by omega) (by unfold maxLen;omega))) Z (J_appendZ X0 Tryz.underlying3 Z Z (Blk.seg hB (fun j u hj=>hcur j u (take_pre hj))) (by rw [Ya,List.length_take,Nat.min_eq_left (by omega)];rfl) (by omega) (by omega) (by omega) (by decide) Z (fun b2 G rest wZ eZ sZ h2 hG hGm hrl=>?_)))))))))))
   have g_b2 : w.heap.size ≤ b2:=by have:=E.size;omega
   have y_b2:=h2.lt
   replace E:=E.ext eZ;replace hy:=hy.ext eZ;replace hB:=hB.ext eZ
   have z2:=eZ.size
   have hLA : (List.flatMap (Enc.enc (α:=Cell)) (xs.take i)).length = i * 4:=by rw [Ya,List.length_take,Nat.min_eq_left (by omega)];rfl
   refine Qa (Qg Z) Z (Qf (Qh (Qi [true,true,true,true,false] Z Z (Qa (Qe Z) Z (Qa (Qe Z) Z (Qa (Uk X0 Z Z (by omega) (by omega) (by omega)) Z (Qa (Qe Z) Z (J_copy 1 X0 Z Z (Nat.min_eq_left (by omega)) h2 (Blk.at hy) (by rfl) (Enc.one y) (by rw [Enc.len,List.length_append,hLA,hrl];simp only [show Enc.sz Cell = 4 from Z];omega) Z (fun w2 m2 h2'=>?_)))))))))
   replace h2:=h2'
   replace E:=E.mod m2 (fun g hg=>by cases hg;omega);replace hy:=hy.mod m2 (fun g hg=>by cases hg;omega);replace hB:=hB.mod m2 (fun g hg=>by cases hg;omega)
   have z3:=m2.size
   refine Qf (Qh (Xu Xo [(0,true),(1,true),(2,true),(3,true),(4,true),(5,true),(6,true),(7,true),(8,false)] (by decide +kernel) Z (fun w3 e1=>?_)))
   replace E:=E.ext e1;replace hy:=hy.ext e1;replace hB:=hB.ext e1;replace h2:=h2.ext e1
   have z4:=e1.size
   refine Qa (Qe Z) Z (Qa (Qe Z) Z (Qa (Qe Z) Z (Qa (Yw Z Z (K5 (by unfold maxLen;omega))) Z (Qa (Uk X0 Z Z (by omega) (by omega) (by omega)) Z (Qa (Qe Z) Z (Qa (Qe Z) Z (Qa (Uk X0 Z Z (by omega) (by omega) (by omega)) Z (J_copy (xs.length - i) X0 Z Z (by show min _ _ = _;omega) h2 (Blk.seg hB (fun j u hj=>by rw [Nat.add_assoc];exact hcur _ u (drop_pre hj))) (by rw [Ya,List.length_drop];rfl) (Xp _) (by rw [X9,Ya,List.length_drop,List.length_append,hLA,hrl];simp only [show Enc.sz Cell = 4 from Z];omega) Z (fun w4 m3 h2'=>?_)))))))))
   replace h2:=h2'
   replace E:=E.mod m3 (fun g hg=>by cases hg;omega);replace hy:=hy.mod m3 (fun g hg=>by cases hg;omega);replace hB:=hB.mod m3 (fun g hg=>by cases hg;omega)
   have z5:=m3.size
   refine Qf (Qh (Qi [true,true] Z Z (Qa (Qe Z) Z (Qa (Qg Z) Z (Qf (Qx (Q0 Z Z E ?_)))))))
   have hLC : (List.flatMap (Enc.enc (α:=Cell)) (xs.drop i)).length = (xs.length - i) * 4:=by rw [Ya,List.length_drop];rfl
   have hLB : (Enc.enc y).length = 4:=rfl
   exact Own.of h2 (by omega) h2.lt (by omega) hGm (by rw [X9,X9,List.length_append,hLA,hrl];omega) (by rw [Gn];simp only [List.length_append,hLA,hLB,hLC];omega) (by rw [Gn];exact ins_rowE (by omega) (by omega) (fun j u hj=>by rw [Nat.zero_add,List.getElem?_append_left (List.getElem?_eq_some_iff.1 hj).1];exact hj) (by rw [List.length_append,hLA,hLB,hLC,hrl];omega))
  ·have hc2n : ¬ xs.length + 1 > cap:=by first | (have h:=of_decide_eq_false hc2;omega) | (have h:=hc2;simp at h;omega)
   refine Qy (Qh (Qi [true,true,true,true,true,true] Z Z (Qa (Qe Z) Z (Qa (Qe Z) Z (Qa (Qe Z) Z (Qa (Yw Z Z (K5 (by unfold maxLen;omega))) Z (Qa (Ab X0 Z Z (by omega)) Z (Qa (Qg Z) Z (Qf (Qh (Qh (Qi [true,true,true,true,true,true,false,true] Z Z (Qa (Qe Z) Z (Qa (Qe Z) Z (Qa (Qe Z) Z (Qa (Qe Z) Z (Qa (Yw Z Z (K5 (by unfold maxLen;omega))) Z (Qa (Uk X0 Z Z (by omega) (by omega) (by omega)) Z ?_))))))))))))))))))
   have hov : (callFunc 106 ([.slice (some ⟨bqy,0,none⟩) 1 1,.slice (some ⟨g,off + (i + 1) * 4,none⟩) ((xs.length + 1) - (i + 1)) (cap - (i + 1))]).toArray).run Tryz.prog w = .ok (.value (.bool false)) w:=by rw [run_callFunc_extern Tryz.func106 (by kernel_rfl) (by kernel_rfl) (by kernel_rfl) (e:=Extern.SlicesOverlaps.overlaps #[28,28] #[4]) (by kernel_rfl)];show ((Extern.SlicesOverlaps.overlaps #[28,28] #[4] #[.slice (some ⟨bqy,0,none⟩) 1 1,.slice (some ⟨g,off + (i + 1) * 4,none⟩) ((xs.length + 1) - (i + 1)) (cap - (i + 1))]).run Tryz.prog w).andThen _ = _;rw [run_ov X0 Ku.size hy hB (by omega) (by omega)];rfl
   refine J_extern (vs:=[.slice (some ⟨bqy,0,none⟩) 1 1,.slice (some ⟨g,off + (i + 1) * 4,none⟩) ((xs.length + 1) - (i + 1)) (cap - (i + 1))]) Z hov Z ?_
   refine Qa (Y1 Z) Z (Qf (V8 Z (by first | (simp;done) | (simp only [Qp] <;> simp) | (simp only [Qt,Qp] <;> simp) | (simp only [Qt] <;> simp)) (Qh (Xu Xo [(0,true),(1,true),(2,true),(3,true),(4,true),(5,true),(6,true),(7,true),(8,false)] (by decide +kernel) Z (fun w5 e2=>?_)))))
   replace E:=E.ext e2;replace hy:=hy.ext e2;replace hB:=hB.ext e2
   have z6:=e2.size
   refine Qa (Qe Z) Z (Qa (Qe Z) Z (Qa (Qe Z) Z (Qa (Yw Z Z (K5 (by unfold maxLen;omega))) Z (Qa (Uk X0 Z Z (by omega) (by omega) (by omega)) Z (Qa (Qe Z) Z (Qa (Qe Z) Z (Qa (Uk X0 Z Z (by omega) (by omega) (by omega)) Z (J_copy (xs.length - i) X0 Z Z (by show min _ _ = _;omega) hB (Blk.seg hB (fun j u hj=>by rw [Nat.add_assoc];exact hcur _ u (drop_pre hj))) (by rw [Ya,List.length_drop];rfl) (Xp _) (by rw [Ya,List.length_drop];simp only [show Enc.sz Cell = 4 from Z];omega) Z (fun w6 m4 hB'=>?_)))))))))
   replace hB:=hB'
   replace E:=E.mod m4 (fun g hg=>by cases hg;omega);replace hy:=hy.mod m4 (fun g hg=>by cases hg;omega)
   have z7:=m4.size
   refine Qf (Qh (Qi [true,true,true,true,false] Z Z (Qa (Qe Z) Z (Qa (Qe Z) Z (Qa (Uk X0 Z Z (by omega) (by omega) (by omega)) Z (Qa (Qe Z) Z (J_copy 1 X0 Z Z (Nat.min_eq_left (by omega)) hB (Blk.at hy) (by rfl) (Enc.one y) (by rw [X9,Enc.len];simp only [show Enc.sz Cell = 4 from Z];omega) Z (fun w7 m5 hB'=>?_))))))))
   replace hB:=hB'
   replace E:=E.mod m5 (fun g hg=>by cases hg;omega);replace hy:=hy.mod m5 (fun g hg=>by cases hg;omega)
   have z8:=m5.size
   refine Qf (Qh (Qi [true,true] Z Z (Qa (Qe Z) Z (Qa (Qg Z) Z (Qf (Qx (Q0 Z Z E ?_)))))))
   have hLA : (List.flatMap (Enc.enc (α:=Cell)) (xs.take i)).length = i * 4:=by rw [Ya,List.length_take,Nat.min_eq_left (by omega)];rfl
   have hLC : (List.flatMap (Enc.enc (α:=Cell)) (xs.drop i)).length = (xs.length - i) * 4:=by rw [Ya,List.length_drop];rfl
   have hLB : (Enc.enc y).length = 4:=rfl
   exact Own.of hB hg1 (by omega) (by omega) hcm (by rw [X9,X9];exact hrr) (by rw [Gn];simp only [List.length_append,hLA,hLB,hLC];omega) (by rw [Gn];exact ins_row2E (by omega) (by omega) (fun j u hj=>hcur j u (take_pre hj)) (by rw [hLA,hLB,hLC];omega))

set_option maxRecDepth 20000 in
theorem c_PutCell (vxs : Value) (xs : List Cell) (x : Cell) (w : World) (hxs : RdS w vxs xs) (hb : xs.length ≤ 4194304) : Ct Tryz.prog 82 [vxs,.agg (Enc.enc x).toArray] w (fun v w'=>Own w' w.heap.size w'.heap.size 4 v (List.flatMap (Enc.enc (α:=Cell)) (Gw xs x))):=by
 refine Yx Tryz.func82 Z Tryz.ntmps82 Z ?_
 refine Yh [(0,vxs),(1,.agg (Enc.enc x).toArray)] ⟨Z,Z,trivial⟩ ?_
 have E : Ext w w:=Ext.refl w
 refine Qh (Qi [false,true] Z Z (Y5 Z Z (fun b1 w1 e1 s1 h1=>?_)))
 have g_b1 : w.heap.size ≤ b1:=by have:=E.size;omega
 have y_b1:=h1.lt
 replace E:=E.trans e1
 have z1:=e1.size
 refine Qa (Qg Z) Z (Qf (Qh (Qi [true,false,true] Z Z (Qa (Qe Z) Z (Qv Tryz.call52 Z (c_copyCells vxs xs _ (hxs.ext E) (by first | omega | (simp only [Qt];omega) | (rw [Qt];done) | (simp only [Qt];done))) Z (fun v1 w2 e2 ho1=>?_))))))
 have g_ho1 : w.heap.size ≤ w1.heap.size:=E.size
 replace E:=E.trans e2;replace h1:=h1.ext e2
 have z2:=e2.size
 refine Qa (Qg Z) Z (Qf (Qh (Qh (Qi [true,true,false] Z Z (Qa (Qe Z) Z (Qa (Qo Ku Z h1.at Z) Z (Qv Tryz.call83 Z (c_HasCell vxs xs x _ (hxs.ext E)) Z (fun _ w3 e3 hv=>?_))))))))
 subst hv
 replace E:=E.trans e3;replace h1:=h1.ext e3;replace ho1:=ho1.ext e3
 have z3:=e3.size
 refine Qf (Qw Z (fun hc1=>?_) (fun hc1=>?_))
 ·refine Qh (Qi [true,true] Z Z (Qa (Qe Z) Z (Qa (Qg Z) Z (Qf (Qx (Q0 Z Z E ?_))))))
  exact Own.fin ho1 (by omega) (by omega) (by simp only [Cr hc1,List.nil_append])
 ·refine Qy (Qh (Qi [true] Z Z (Qa (Qg Z) Z (Qf (Qh (Q9 (Xk (fun (k : Nat)=>[(0,vxs),(3,.pointer (some ⟨b1,0,none⟩)),(4,.slice none 0 0),(5,v1),(6,.int .i64 ((k : Nat) : Int))]) (fun (k : Nat) w'=>Ext w w' ∧ w3.heap.size ≤ w'.heap.size ∧ Blk w' b1 (Enc.enc x) ∧ Own w' w1.heap.size w2.heap.size 4 v1 (List.flatMap (Enc.enc (α:=Cell)) xs) ∧ k ≤ xs.length ∧ (xs.take k).all (Gc x) = true) (fun (k : Nat)=>xs.length - k) 0 ⟨Z,Z,Z,Z,Z,trivial⟩ ⟨E,Nat.le_refl _,h1,ho1,Nat.zero_le _,Z⟩ ?_)))))))
  clear E h1 ho1
  rintro k w4 ⟨E,z4,h1,ho1,hk,hI⟩
  refine Qh (Qh (Xu Xo [(0,true),(1,true),(2,true),(3,true),(4,true),(5,true),(6,true),(7,true),(8,true),(9,true),(10,false),(11,true),(12,true)] (by decide +kernel) Z (fun w5 e4=>?_)))
  replace E:=E.trans e4;replace h1:=h1.ext e4;replace ho1:=ho1.ext e4
  have z5:=e4.size
  refine Qa (Qe Z) Z (Qa (Qe Z) Z (Qa (Yg Tryz.underlying28 Z (hxs.ext E).len) Z (Qa (Xn Z Z) Z (Qa (Qe Z) Z (Xg 8 [(0,vxs),(3,.pointer (some ⟨b1,0,none⟩)),(4,.slice none 0 0),(5,v1),(6,.int .i64 ((k : Nat) : Int)),(25,.bool ((decide (((k : Nat) : Int) < ((xs.length : Nat) : Int))) && (decide ((X4 (List.getD xs k default) x) < 0))))] (fun w'=>Ext w w' ∧ w5.heap.size ≤ w'.heap.size ∧ Blk w' b1 (Enc.enc x) ∧ Own w' w1.heap.size w2.heap.size 4 v1 (List.flatMap (Enc.enc (α:=Cell)) xs)) ?_ ?_)))))
  ·refine Ym (gd:=17) Z Z (fun hg1=>?_) (fun hg1=>?_)
   ·have hg1n : k < xs.length:=by first | (have h:=of_decide_eq_true hg1;omega) | (have h:=hg1;simp at h;omega)
    refine Qk Z Z (Qe Z) Z (Qk Z Z (Qe Z) Z (Qk Z Z (Ye (i:=k) X0 Z Z (hxs.ext E) (by first | assumption | omega | (simp only [List.length_set];first | assumption | omega) | (simp only [List.getElem_set_self,List.length_set];first | assumption | omega) | (simp only [Xc,Yp,List.length_set];first | assumption | omega) | (simp;done))) Z (Qk Z Z (Qo Ku Z (RdS.getD (hxs.ext E) (i:=k) (by first | assumption | omega | (simp only [List.length_set];first | assumption | omega) | (simp only [List.getElem_set_self,List.length_set];first | assumption | omega) | (simp only [Xc,Yp,List.length_set];first | assumption | omega) | (simp;done))) Z) Z (Qk Z Z (Qo Ku Z h1.at Z) Z ?_))))
    refine Y3 Z Z ?_
    refine Qv Tryz.call76 Z (c_CellOrder (List.getD xs k default) x _ ) Z (fun _ w7 e5 hv=>?_)
    subst hv
    replace E:=E.trans e5;replace h1:=h1.ext e5;replace ho1:=ho1.ext e5
    have z6:=e5.size
    refine Qk Z Z (Xn Z Z) Z (Qa (Qr Z Z) Z (Ql ⟨Z,Z,Z,Z,Z,congrArg (fun b=>some (Value.bool b)) (show (decide ((X4 (List.getD xs k default) x) < 0)) = ((decide (((k : Nat) : Int) < ((xs.length : Nat) : Int))) && (decide ((X4 (List.getD xs k default) x) < 0))) by first | (rw [hg1] <;> rfl) | (simp [hg1];done) | (simp only [Qp] <;> simp)),trivial⟩ ⟨E,(by omega),h1,ho1⟩))
   ·have hg1n : ¬ k < xs.length:=by first | (have h:=of_decide_eq_false hg1;omega) | (have h:=hg1;simp at h;omega)
    refine Qc Z Z Z Z (Qc Z Z Z Z (Qc Z Z Z Z (Qc Z Z Z Z (Qc Z Z Z Z ?_))))
    refine Q1 Z Z Z Z ?_
    refine Qc Z Z Z Z (Qa (Qq Z Z) Z (Ql ⟨Z,Z,Z,Z,Z,congrArg (fun b=>some (Value.bool b)) (show false = ((decide (((k : Nat) : Int) < ((xs.length : Nat) : Int))) && (decide ((X4 (List.getD xs k default) x) < 0))) by first | (rw [hg1] <;> rfl) | (simp [hg1];done) | (simp only [Qp] <;> simp)),trivial⟩ ⟨E,(by omega),h1,ho1⟩))
  clear E h1 ho1
  rintro w6 ⟨E,z7,h1,ho1⟩
  refine Qf (Qw Z (fun hc2=>?_) (fun hc2=>?_))
  ·have hlt:=put_lt hc2
   refine Qy (Q9 (Qi [true,true,true] Z Z (Qa (Qe Z) Z (Qa (Yw Z Z (K5 (by unfold maxLen;omega))) Z (Qa (Qg Z) Z (Qf (Yb (Yv (Yb (Yy (k + 1) (by omega) ⟨Z,Z,Z,Z,Z,trivial⟩ ⟨E,(by omega),h1,ho1,(by omega),(put_step hI hc2)⟩))))))))))
  ·refine Xl (Ys (Yj ?_))
   refine Qh (Qi [true,true,true,false,false,true] Z Z (Qa (Qe Z) Z (Qa (Qe Z) Z (Qa (Qo Ku Z h1.at Z) Z (Q8 (vs:=[.agg (Enc.enc x).toArray]) (css:=[[.int .i64 x.op,.int .i64 x.epoch,.int .i64 x.key,.int .i64 x.val]]) X0 Z Z ⟨⟨Z,Z⟩,trivial⟩ Z Z (fun b2 w8 e6 s2 h2=>?_))))))
   replace h2 : Blk w8 b2 [.int .i64 x.op,.int .i64 x.epoch,.int .i64 x.key,.int .i64 x.val]:=h2
   have g_b2 : w.heap.size ≤ b2:=by have:=E.size;omega
   have y_b2:=h2.lt
   replace E:=E.trans e6;replace h1:=h1.ext e6;replace ho1:=ho1.ext e6
   have z8:=e6.size
   refine Yu Tryz.call101 Z (by rfl) (c_InsertCell v1 w1.heap.size w2.heap.size xs k b2 x _ ho1 h2 (by omega) (by omega) (by omega) (by omega) (by omega)) Z (fun v2 w9 e7 ho2=>?_)
   replace E:=E.stepR e7 (by omega);replace h1:=h1.modR e7 (by omega);replace h2:=h2.modR e7 (by omega)
   have z9:=e7.size
   refine Qa (Qg Z) Z (Qf (Qx (Q0 Z Z E ?_)))
   exact Own.fin ho2 (by omega) (by omega) (by rw [putM_no hc1 hI hk hc2])

end Go.Proofs.YteljajfcppmeiaaGreat
