/- What the functions that the laws call come to: a contract each; no condition. -/
import Derived.Test.YtcpjlfikdobckaaGreatFns
namespace Go.Proofs.YtcpjlfikdobckaaGreat
open Go Go.Proofs.YtcpjlfikdobckaaGreat.X Go.Proofs
set_option maxHeartbeats 4000000 in
set_option maxRecDepth 20000 in
theorem c_WorkerOk (cg : List Value) (g : Graph) (cx : List Value) (x : Worker) (w : World) (hg : Dat.R w 0 w.heap.size cg g) (hx : Dat.R w 0 w.heap.size cx x) : Ct Tryz.prog 6 [.agg cg.toArray,.agg cx.toArray] w (fun v _=>v = .bool (Yv g x)):=by
 refine Yp Tryz.func6 Z Tryz.ntmps6 Z ?_
 obtain ⟨o1,rfl,hd1⟩:=Graph.op hg
 obtain ⟨o2,o3,o4,o5,o6,o7,o8,o9,rfl,hd2,hd3,hd4,hd5,hd6,hd7,hd8,hd9⟩:=Worker.op hx
 refine Yb [(0,.agg [o1,.int .i64 g.workers,.int .i64 g.cap].toArray),(1,.agg [o2,o3,o4,o5,o6,o7,o8,o9].toArray)] ⟨Z,Z,trivial⟩ ?_
 have E : Ext w w:=Ext.refl w
 refine Qh (Qi [false,false,true] Z Z (Xb Z Z (fun b1 w1 e1 s1 h1=>?_)))
 have g_b1 : w.heap.size ≤ b1:=by have:=E.size;omega
 have y_b1:=h1.lt
 replace E:=E.trans e1
 have z1:=e1.size
 refine Xb Z Z (fun b2 w2 e2 s2 h2=>?_)
 have g_b2 : w.heap.size ≤ b2:=by have:=E.size;omega
 have y_b2:=h2.lt
 replace E:=E.trans e2;replace h1:=h1.ext e2
 have z2:=e2.size
 refine Qa (Qe Z) Z (Qd (Qh (Qh (Qi [true,true,true,false,true,true,true,true,true,false,true,true,true,true,true,true,false,true,true,true,true,true,false,true,true] Z Z (Qa (Ql Xz Z h1.at Z) Z (Qa (Qf Kf Z) Z (Qa (Qk Xv Z (h2.one 0 Z)) Z (Qw Tryz.call26 Z (c_opsOk [o1,.int .i64 g.workers,.int .i64 g.cap] g o2 x.queue _ (Graph.mkR g (RdD.any (hd1.ext E))) (hd2.rd.ext E)) Z (fun _ w3 e3 hv=>?_)))))))))
 subst hv
 replace E:=E.trans e3;replace h1:=h1.ext e3;replace h2:=h2.ext e3
 have z3:=e3.size
 refine Qa (Xn Z) Z (Qa (Qb Z) Z (Xr 19 [(0,.agg [o1,.int .i64 g.workers,.int .i64 g.cap].toArray),(1,.agg [o2,o3,o4,o5,o6,o7,o8,o9].toArray),(2,.pointer (some ⟨b1,0,none⟩)),(3,.pointer (some ⟨b2,0,none⟩)),(4,.bool false),(35,.bool ((((!(x.queue.all (X0 g))) || (!(x.staged.all (X0 g)))) || (!(x.inputs.all (X0 g)))) || (!((G9 x.cells).all X6))))] (fun w'=>Ext w w' ∧ w3.heap.size ≤ w'.heap.size ∧ Blk w' b1 ([o1,.int .i64 g.workers,.int .i64 g.cap]) ∧ Blk w' b2 ([o2,o3,o4,o5,o6,o7,o8,o9])) ?_ ?_))
 ·refine Yz (gd:=16) Z Z (fun hg1=>?_) (fun hg1=>?_)
  ·refine Qc Z Z Z Z (Qc Z Z Z Z (Qc Z Z Z Z ?_))
   refine Q3 Z Z Z Z ?_
   refine Qc Z Z Z Z (Qa (Qr Z Z) Z (Qa (Qb Z) Z (Qc Z Z Z Z (Qc Z Z Z Z (Qc Z Z Z Z ?_)))))
   refine Q3 Z Z Z Z ?_
   refine Qc Z Z Z Z (Qa (Qr Z Z) Z (Qa (Qb Z) Z (Qc Z Z Z Z (Qc Z Z Z Z ?_))))
   refine Q3 Z Z Z Z ?_
   refine Qc Z Z Z Z (Qa (Qr Z Z) Z (Qn ⟨Z,Z,Z,Z,Z,congrArg (fun b=>some (Value.bool b)) (show true = ((((!(x.queue.all (X0 g))) || (!(x.staged.all (X0 g)))) || (!(x.inputs.all (X0 g)))) || (!((G9 x.cells).all X6))) by first | (rw [hg1] <;> rfl) | (simp [hg1];done) | (simp only [Qq] <;> simp)),trivial⟩ ⟨E,(by omega),h1,h2⟩))
  ·refine Qm Z Z (Ql Xz Z h1.at Z) Z (Qm Z Z (Qf Ui Z) Z (Qm Z Z (Qk Xv Z (h2.one 1 Z)) Z ?_))
   refine Xa Z Z ?_
   refine Qw Tryz.call26 Z (c_opsOk [o1,.int .i64 g.workers,.int .i64 g.cap] g o3 x.staged _ (Graph.mkR g (RdD.any (hd1.ext E))) (hd3.rd.ext E)) Z (fun _ w5 e4 hv=>?_)
   subst hv
   replace E:=E.trans e4;replace h1:=h1.ext e4;replace h2:=h2.ext e4
   have z4:=e4.size
   refine Qm Z Z (Xn Z) Z (Qa (Qp Z Z) Z (Qa (Qb Z) Z ?_))
   refine Yz (gd:=23) Z Z (fun hg2=>?_) (fun hg2=>?_)
   ·refine Qc Z Z Z Z (Qc Z Z Z Z (Qc Z Z Z Z ?_))
    refine Q3 Z Z Z Z ?_
    refine Qc Z Z Z Z (Qa (Qr Z Z) Z (Qa (Qb Z) Z (Qc Z Z Z Z (Qc Z Z Z Z ?_))))
    refine Q3 Z Z Z Z ?_
    refine Qc Z Z Z Z (Qa (Qr Z Z) Z (Qn ⟨Z,Z,Z,Z,Z,congrArg (fun b=>some (Value.bool b)) (show true = ((((!(x.queue.all (X0 g))) || (!(x.staged.all (X0 g)))) || (!(x.inputs.all (X0 g)))) || (!((G9 x.cells).all X6))) by first | (rw [hg1,hg2] <;> rfl) | (simp [hg1,hg2];done) | (simp only [Qq] <;> simp)),trivial⟩ ⟨E,(by omega),h1,h2⟩))
   ·refine Qm Z Z (Ql Xz Z h1.at Z) Z (Qm Z Z (Qf X5 Z) Z (Qm Z Z (Qk Xv Z (h2.one 2 Z)) Z ?_))
    refine Xa Z Z ?_
    refine Qw Tryz.call26 Z (c_opsOk [o1,.int .i64 g.workers,.int .i64 g.cap] g o4 x.inputs _ (Graph.mkR g (RdD.any (hd1.ext E))) (hd4.rd.ext E)) Z (fun _ w6 e5 hv=>?_)
    subst hv
    replace E:=E.trans e5;replace h1:=h1.ext e5;replace h2:=h2.ext e5
    have z5:=e5.size
    refine Qm Z Z (Xn Z) Z (Qa (Qp Z Z) Z (Qa (Qb Z) Z ?_))
    refine Yz (gd:=30) Z Z (fun hg3=>?_) (fun hg3=>?_)
    ·refine Qc Z Z Z Z (Qc Z Z Z Z ?_)
     refine Q3 Z Z Z Z ?_
     refine Qc Z Z Z Z (Qa (Qr Z Z) Z (Qn ⟨Z,Z,Z,Z,Z,congrArg (fun b=>some (Value.bool b)) (show true = ((((!(x.queue.all (X0 g))) || (!(x.staged.all (X0 g)))) || (!(x.inputs.all (X0 g)))) || (!((G9 x.cells).all X6))) by first | (rw [hg1,hg2,hg3] <;> rfl) | (simp [hg1,hg2,hg3];done) | (simp only [Qq] <;> simp)),trivial⟩ ⟨E,(by omega),h1,h2⟩))
    ·refine Qm Z Z (Qf V5 Z) Z (Qm Z Z (Qk C9 Z (h2.one 3 Z)) Z ?_)
     refine Xa Z Z ?_
     refine Qw Tryz.call27 Z (c_CellsOk o5 x.cells _ (hd5.rd.ext E)) Z (fun _ w7 e6 hv=>?_)
     subst hv
     replace E:=E.trans e6;replace h1:=h1.ext e6;replace h2:=h2.ext e6
     have z6:=e6.size
     refine Qm Z Z (Xn Z) Z (Qa (Qp Z Z) Z (Qn ⟨Z,Z,Z,Z,Z,congrArg (fun b=>some (Value.bool b)) (show (!((G9 x.cells).all X6)) = ((((!(x.queue.all (X0 g))) || (!(x.staged.all (X0 g)))) || (!(x.inputs.all (X0 g)))) || (!((G9 x.cells).all X6))) by first | (rw [hg1,hg2,hg3] <;> rfl) | (simp [hg1,hg2,hg3];done) | (simp only [Qq] <;> simp)),trivial⟩ ⟨E,(by omega),h1,h2⟩))
 clear E h1 h2
 rintro w4 ⟨E,z7,h1,h2⟩
 refine Qd (Qt Z (fun hc1=>?_) (fun hc1=>?_))
 ·refine Qh (Qi [true] Z Z (Qa (Qe Z) Z (Qd (Qx (Qu Z Z E ?_)))))
  exact bf fun h=>by simp only [Yv,Bool.and_eq_true] at h;obtain ⟨⟨⟨⟨⟨⟨⟨⟨⟨q1,q2⟩,q3⟩,q4⟩,q5⟩,q6⟩,q7⟩,q8⟩,q9⟩,q10⟩:=h;simp only [q1,q2,q3,q4] at hc1;simp at hc1
 ·refine Qy (Qh (Qh (Qi [true,true,true,true] Z Z (Qa (Qf X5 Z) Z (Qa (Qk Xv Z (h2.one 2 Z)) Z (Qa (Ye Tryz.underlying27 Z (hd4.ext E).len) Z (Qa (Qb Z) Z (Qd (Q2 (Y6 (fun (k : Nat)=>[(3,.pointer (some ⟨b2,0,none⟩)),(4,.bool false),(37,o4),(38,.int .i64 ((x.inputs.length : Nat) : Int)),(39,.int .i64 ((k : Nat) : Int))]) (fun (k : Nat) w'=>Ext w w' ∧ w4.heap.size ≤ w'.heap.size ∧ Blk w' b1 ([o1,.int .i64 g.workers,.int .i64 g.cap]) ∧ Blk w' b2 ([o2,o3,o4,o5,o6,o7,o8,o9]) ∧ k ≤ x.inputs.length ∧ Gm k (fun j=>inAt x.inputs j) = true) (fun (k : Nat)=>x.inputs.length - k) 0 ⟨Z,Z,Z,Z,Z,trivial⟩ ⟨E,Nat.le_refl _,h1,h2,Nat.zero_le _,Z⟩ ?_))))))))))
  clear E h1 h2
  rintro k w8 ⟨E,z8,h1,h2,hk,hI1⟩
  have hmi:=hd4.1.1
  unfold maxLen at hmi
  refine Qh (Qi [true] Z Z (Qa (Xe Z Z) Z (Qd (Qh (Qt Z (fun hc2=>?_) (fun hc2=>?_))))))
  ·have hc2n : k < x.inputs.length:=by first | (have h:=of_decide_eq_true hc2;omega) | (have h:=hc2;simp at h;omega)
   refine Qy (Qh (Q2 (Qh (Qi [true,true,true,false,true,false] Z Z (Qa (Qb Z) Z ?_)))))
   have hi1 : k < x.inputs.length:=(by first | assumption | omega | (simp only [List.length_set];first | assumption | omega) | (simp only [List.getElem_set_self,List.length_set];first | assumption | omega) | (simp only [Y3,Yj,List.length_set];first | assumption | omega) | (simp;done))
   refine Qa (Q5 (i:=k) Xp Z Z (hd4.rd.ext E) hi1) Z (Qa (Ql Xq Z ((hd4.rd.ext E).get hi1) Z) Z (Yd Xq Z (fun b3 w9 e7 s3 h3=>?_)))
   have g_b3 : w.heap.size ≤ b3:=by have:=E.size;omega
   have y_b3:=h3.lt
   replace E:=E.trans e7;replace h1:=h1.ext e7;replace h2:=h2.ext e7
   have z9:=e7.size
   refine Qa (Qe Z) Z (Qs (cs':=[.int .i64 ((x.inputs[k]'hi1).op),.int .i64 (((x.inputs[k]'hi1).stamp).epoch),.int .i64 (((x.inputs[k]'hi1).stamp).turn),.int .i64 ((x.inputs[k]'hi1).key),.int .i64 ((x.inputs[k]'hi1).val)]) Xq Z Z Z Z h3 (Nat.le_of_ble_eq_true Z) Z (fun w10 m1 h3'=>?_))
   replace h3:=h3'
   replace E:=E.step m1 (fun g hg=>by cases hg;omega);replace h1:=h1.mod m1 (fun g hg=>by cases hg;omega);replace h2:=h2.mod m1 (fun g hg=>by cases hg;omega)
   have z10:=m1.size
   refine Qd (Qh (Xk Xd [(0,true),(1,true),(2,true),(3,true),(4,true),(5,true),(6,true),(7,true),(8,true),(9,true),(10,true),(11,true),(12,true),(13,true),(14,true),(15,true),(16,true),(17,true),(18,true),(19,true),(20,true),(21,true),(22,true),(23,true),(24,true),(25,true),(26,true)] (by decide +kernel) Z (fun w11 e8=>?_)))
   replace E:=E.trans e8;replace h1:=h1.ext e8;replace h2:=h2.ext e8;replace h3:=h3.ext e8
   have z11:=e8.size
   refine Qa (Qf Ve Z) Z (Qa (Qk Xi Z (h3.one 0 Z)) Z (Qa (X1 Z Z) Z (Qa (Qb Z) Z (Xr 23 [(3,.pointer (some ⟨b2,0,none⟩)),(4,.bool false),(5,.int .i64 ((k : Nat) : Int)),(6,.pointer (some ⟨b3,0,none⟩)),(37,o4),(38,.int .i64 ((x.inputs.length : Nat) : Int)),(39,.int .i64 ((k : Nat) : Int)),(40,.bool (decide (((k : Nat) : Int) < ((x.inputs.length : Nat) : Int)))),(41,.int .i64 ((k : Nat) : Int)),(42,.pointer (some ⟨Kk o4,Ue o4 + k * 5,none⟩)),(43,.agg (Enc.enc (x.inputs[k]'hi1)).toArray),(70,.bool (((((x.inputs[k]'hi1).op) != 0) || ((((x.inputs[k]'hi1).stamp).turn) != 0)) || ((decide (0 < ((k : Nat) : Int))) && (decide ((((x.inputs[k]'hi1).stamp).epoch) < (((List.getD x.inputs (k - 1) default).stamp).epoch))))))] (fun w'=>w11 = w') ?_ ?_))))
   ·refine Yz (gd:=47) Z Z (fun hg4=>?_) (fun hg4=>?_)
    ·refine Qc Z Z Z Z (Qc Z Z Z Z (Qc Z Z Z Z (Qc Z Z Z Z (Qa (Qr Z Z) Z (Qa (Qb Z) Z (Qc Z Z Z Z (Qc Z Z Z Z (Qc Z Z Z Z (Q9 Z Z Z (Q9 Z Z Z (Q9 Z Z Z (Q9 Z Z Z (Q9 Z Z Z (Q9 Z Z Z (Q9 Z Z Z (Q9 Z Z Z (Q9 Z Z Z (Q9 Z Z Z (Q9 Z Z Z (Q9 Z Z Z (Qc Z Z Z Z (Qa (Qr Z Z) Z (Qn ⟨Z,Z,Z,Z,Z,Z,Z,Z,Z,Z,Z,congrArg (fun b=>some (Value.bool b)) (show true = (((((x.inputs[k]'hi1).op) != 0) || ((((x.inputs[k]'hi1).stamp).turn) != 0)) || ((decide (0 < ((k : Nat) : Int))) && (decide ((((x.inputs[k]'hi1).stamp).epoch) < (((List.getD x.inputs (k - 1) default).stamp).epoch))))) by first | (rw [hg4] <;> rfl) | (simp [hg4];done) | (simp only [Qq] <;> simp)),trivial⟩ Z)))))))))))))))))))))))
    ·refine Qm Z Z (Qf X4 Z) Z (Qm Z Z (Q7 U8 Z) Z (Qm Z Z (Qk Xi Z (h3.one 2 Z)) Z (Qm Z Z (X1 Z Z) Z (Qa (Qp Z Z) Z (Qa (Qb Z) Z ?_)))))
     refine Yz (gd:=53) Z Z (fun hg5=>?_) (fun hg5=>?_)
     ·refine Qc Z Z Z Z (Qc Z Z Z Z (Qc Z Z Z Z (Q9 Z Z Z (Q9 Z Z Z (Q9 Z Z Z (Q9 Z Z Z (Q9 Z Z Z (Q9 Z Z Z (Q9 Z Z Z (Q9 Z Z Z (Q9 Z Z Z (Q9 Z Z Z (Q9 Z Z Z (Q9 Z Z Z (Qc Z Z Z Z (Qa (Qr Z Z) Z (Qn ⟨Z,Z,Z,Z,Z,Z,Z,Z,Z,Z,Z,congrArg (fun b=>some (Value.bool b)) (show true = (((((x.inputs[k]'hi1).op) != 0) || ((((x.inputs[k]'hi1).stamp).turn) != 0)) || ((decide (0 < ((k : Nat) : Int))) && (decide ((((x.inputs[k]'hi1).stamp).epoch) < (((List.getD x.inputs (k - 1) default).stamp).epoch))))) by first | (rw [hg4,hg5] <;> rfl) | (simp [hg4,hg5];done) | (simp only [Qq] <;> simp)),trivial⟩ Z)))))))))))))))))
     ·refine Qm Z Z (Qb Z) Z (Qm Z Z (U1 Z Z) Z (Qm Z Z (Qb Z) Z ?_))
      refine Yz (gd:=56) Z Z (fun hg6=>?_) (fun hg6=>?_)
      ·have hg6n : k > 0:=by first | (have h:=of_decide_eq_true hg6;omega) | (have h:=hg6;simp at h;omega)
       refine Qm Z Z (Qf X5 Z) Z (Qm Z Z (Qk Xv Z (h2.one 2 Z)) Z (Qm Z Z (Qb Z) Z (Qm Z Z (Gh Z Z (sub_nat (by omega) (by unfold maxLen;omega))) Z (Qm Z Z (Q5 (i:=(k - 1)) Xp Z Z (hd4.rd.ext E) (by first | assumption | omega | (simp only [List.length_set];first | assumption | omega) | (simp only [List.getElem_set_self,List.length_set];first | assumption | omega) | (simp only [Y3,Yj,List.length_set];first | assumption | omega) | (simp;done))) Z (Qm Z Z (Q7 X4 Z) Z (Qm Z Z (Q7 Uh Z) Z (Qm Z Z (Qk Xi Z ((RdS.getD (hd4.rd.ext E) (i:=(k - 1)) (by first | assumption | omega | (simp only [List.length_set];first | assumption | omega) | (simp only [List.getElem_set_self,List.length_set];first | assumption | omega) | (simp only [Y3,Yj,List.length_set];first | assumption | omega) | (simp;done))).one 1 Z)) Z (Qm Z Z (Qf X4 Z) Z (Qm Z Z (Q7 Uh Z) Z (Qm Z Z (Qk Xi Z (h3.one 1 Z)) Z (Qm Z Z (U1 Z Z) Z (Qm Z Z (Qr Z Z) Z (Qa (Qp Z Z) Z (Qn ⟨Z,Z,Z,Z,Z,Z,Z,Z,Z,Z,Z,congrArg (fun b=>some (Value.bool b)) (show (decide ((((x.inputs[k]'hi1).stamp).epoch) < (((List.getD x.inputs (k - 1) default).stamp).epoch))) = (((((x.inputs[k]'hi1).op) != 0) || ((((x.inputs[k]'hi1).stamp).turn) != 0)) || ((decide (0 < ((k : Nat) : Int))) && (decide ((((x.inputs[k]'hi1).stamp).epoch) < (((List.getD x.inputs (k - 1) default).stamp).epoch))))) by first | (rw [hg4,hg5,hg6] <;> rfl) | (simp [hg4,hg5,hg6];done) | (simp only [Qq] <;> simp)),trivial⟩ Z))))))))))))))
      ·have hg6n : ¬ k > 0:=by first | (have h:=of_decide_eq_false hg6;omega) | (have h:=hg6;simp at h;omega)
       refine Qc Z Z Z Z (Qc Z Z Z Z (Qc Z Z Z Z (Qc Z Z Z Z (Qc Z Z Z Z (Qc Z Z Z Z (Qc Z Z Z Z (Qc Z Z Z Z (Qc Z Z Z Z (Qc Z Z Z Z (Qc Z Z Z Z (Qc Z Z Z Z (Qm Z Z (Qp Z Z) Z (Qa (Qp Z Z) Z (Qn ⟨Z,Z,Z,Z,Z,Z,Z,Z,Z,Z,Z,congrArg (fun b=>some (Value.bool b)) (show false = (((((x.inputs[k]'hi1).op) != 0) || ((((x.inputs[k]'hi1).stamp).turn) != 0)) || ((decide (0 < ((k : Nat) : Int))) && (decide ((((x.inputs[k]'hi1).stamp).epoch) < (((List.getD x.inputs (k - 1) default).stamp).epoch))))) by first | (rw [hg4,hg5,hg6] <;> rfl) | (simp [hg4,hg5,hg6];done) | (simp only [Qq] <;> simp)),trivial⟩ Z))))))))))))))
   rintro _ rfl
   refine Qd (Qt Z (fun hc3=>?_) (fun hc3=>?_))
   ·refine Qh (Qi [true] Z Z (Qa (Qe Z) Z (Qd (Qx (Q0 (Yy (Q0 (Qu Z Z E ?_))))))))
    exact bf fun h=>by simp only [Yv,Bool.and_eq_true] at h;obtain ⟨⟨⟨⟨⟨⟨⟨⟨⟨q1,q2⟩,q3⟩,q4⟩,q5⟩,q6⟩,q7⟩,q8⟩,q9⟩,q10⟩:=h;have:=V9 q5 (by assumption);rw [Cz (by assumption),hc3] at this;cases this
   ·refine Qy (Q4 (Yn (Qi [true,true] Z Z (Qa (Yu Z Z (Yw hc2n (hd4.ext E).1.1)) Z (Qa (Qb Z) Z (Qd (Q4 (Yg (k + 1) (by omega) ⟨Z,Z,Z,Z,Z,trivial⟩ ⟨E,(by omega),h1,h2,(by omega),Av hI1 ((Cz (by assumption)).trans (congrArg not hc3))⟩))))))))
  ·have hc2n : ¬ k < x.inputs.length:=by first | (have h:=of_decide_eq_false hc2;omega) | (have h:=hc2;simp at h;omega)
   refine Y5 (Yc (Q8 ?_))
   refine Qh (Qh (Qi [true,true,true,true,true,true,true,true,true,true,true,true,true,true,true,true] Z Z (Qa (Qf Un Z) Z (Qa (Qk Uc Z (h2.one 4 Z)) Z (Qa (Ye Tryz.underlying29 Z (hd6.ext E).len) Z (Qa (X1 Z Z) Z (Qa (Qb Z) Z (Xr 11 [(3,.pointer (some ⟨b2,0,none⟩)),(4,.bool false),(37,o4),(38,.int .i64 ((x.inputs.length : Nat) : Int)),(39,.int .i64 ((k : Nat) : Int)),(40,.bool (decide (((k : Nat) : Int) < ((x.inputs.length : Nat) : Int)))),(87,.bool (((((x.sums.length : Nat) : Int) != 4) || (((x.black.length : Nat) : Int) != 4)) || (((x.caps.length : Nat) : Int) != 4)))] (fun w'=>w8 = w') ?_ ?_))))))))
   ·refine Yz (gd:=76) Z Z (fun hg7=>?_) (fun hg7=>?_)
    ·have hg7n : ¬ x.sums.length = 4:=by first | (have h:=of_decide_eq_true hg7;omega) | (have h:=hg7;simp at h;omega)
     refine Qc Z Z Z Z (Qc Z Z Z Z (Qc Z Z Z Z (Qc Z Z Z Z (Qa (Qr Z Z) Z (Qa (Qb Z) Z (Qc Z Z Z Z (Qc Z Z Z Z (Qc Z Z Z Z (Qc Z Z Z Z (Qa (Qr Z Z) Z (Qn ⟨Z,Z,Z,Z,Z,Z,congrArg (fun b=>some (Value.bool b)) (show true = (((((x.sums.length : Nat) : Int) != 4) || (((x.black.length : Nat) : Int) != 4)) || (((x.caps.length : Nat) : Int) != 4)) by first | (rw [hg7] <;> rfl) | (simp [hg7];done) | (simp only [Qq] <;> simp)),trivial⟩ Z)))))))))))
    ·have hg7n : x.sums.length = 4:=by first | (have h:=of_decide_eq_false hg7;omega) | (have h:=hg7;simp at h;omega)
     refine Qm Z Z (Qf V4 Z) Z (Qm Z Z (Qk Gz Z (h2.one 5 Z)) Z (Qm Z Z (Ye Tryz.underlying30 Z (hd7.ext E).len) Z (Qm Z Z (X1 Z Z) Z (Qa (Qp Z Z) Z (Qa (Qb Z) Z ?_)))))
     refine Yz (gd:=82) Z Z (fun hg8=>?_) (fun hg8=>?_)
     ·have hg8n : ¬ x.black.length = 4:=by first | (have h:=of_decide_eq_true hg8;omega) | (have h:=hg8;simp at h;omega)
      refine Qc Z Z Z Z (Qc Z Z Z Z (Qc Z Z Z Z (Qc Z Z Z Z (Qa (Qr Z Z) Z (Qn ⟨Z,Z,Z,Z,Z,Z,congrArg (fun b=>some (Value.bool b)) (show true = (((((x.sums.length : Nat) : Int) != 4) || (((x.black.length : Nat) : Int) != 4)) || (((x.caps.length : Nat) : Int) != 4)) by first | (rw [hg7,hg8] <;> rfl) | (simp [hg7,hg8];done) | (simp only [Qq] <;> simp)),trivial⟩ Z)))))
     ·have hg8n : x.black.length = 4:=by first | (have h:=of_decide_eq_false hg8;omega) | (have h:=hg8;simp at h;omega)
      refine Qm Z Z (Qf Hl Z) Z (Qm Z Z (Qk Gz Z (h2.one 6 Z)) Z (Qm Z Z (Ye Tryz.underlying30 Z (hd8.ext E).len) Z (Qm Z Z (X1 Z Z) Z (Qa (Qp Z Z) Z (Qn ⟨Z,Z,Z,Z,Z,Z,congrArg (fun b=>some (Value.bool b)) (show (((x.caps.length : Nat) : Int) != 4) = (((((x.sums.length : Nat) : Int) != 4) || (((x.black.length : Nat) : Int) != 4)) || (((x.caps.length : Nat) : Int) != 4)) by first | (rw [hg7,hg8] <;> rfl) | (simp [hg7,hg8];done) | (simp only [Qq] <;> simp)),trivial⟩ Z)))))
   rintro _ rfl
   refine Qd (Qt Z (fun hc4=>?_) (fun hc4=>?_))
   ·refine Qh (Qi [true] Z Z (Qa (Qe Z) Z (Qd (Qx (Qu Z Z E ?_)))))
    exact bf fun h=>by simp only [Yv,Bool.and_eq_true] at h;obtain ⟨⟨⟨⟨⟨⟨⟨⟨⟨q1,q2⟩,q3⟩,q4⟩,q5⟩,q6⟩,q7⟩,q8⟩,q9⟩,q10⟩:=h;simp only [beq_iff_eq] at q6 q7 q8;simp [q6,q7,q8] at hc4
   ·refine Qy (Qh (Qh (Qi [true,true,true,true] Z Z (Qa (Qf Un Z) Z (Qa (Qk Uc Z (h2.one 4 Z)) Z (Qa (Ye Tryz.underlying29 Z (hd6.ext E).len) Z (Qa (Qb Z) Z (Qd (Q2 (Y6 (fun (k : Nat)=>[(3,.pointer (some ⟨b2,0,none⟩)),(4,.bool false),(89,o6),(90,.int .i64 ((x.sums.length : Nat) : Int)),(91,.int .i64 ((k : Nat) : Int))]) (fun (k : Nat) w'=>Ext w w' ∧ w8.heap.size ≤ w'.heap.size ∧ Blk w' b1 ([o1,.int .i64 g.workers,.int .i64 g.cap]) ∧ Blk w' b2 ([o2,o3,o4,o5,o6,o7,o8,o9]) ∧ k ≤ x.sums.length ∧ (x.sums.take k).all (Y2 · (-1000000) 1000000) = true) (fun (k : Nat)=>x.sums.length - k) 0 ⟨Z,Z,Z,Z,Z,trivial⟩ ⟨E,Nat.le_refl _,h1,h2,Nat.zero_le _,Z⟩ ?_))))))))))
    clear E h1 h2
    rintro k w14 ⟨E,z12,h1,h2,hk,hI2⟩
    refine Qh (Qi [true] Z Z (Qa (Xe Z Z) Z (Qd (Qh (Qt Z (fun hc5=>?_) (fun hc5=>?_))))))
    ·have hc5n : k < x.sums.length:=by first | (have h:=of_decide_eq_true hc5;omega) | (have h:=hc5;simp at h;omega)
     refine Qy (Qh (Q2 (Qh (Qi [true,true,true] Z Z ?_))))
     have hi2 : k < x.sums.length:=(by first | assumption | omega | (simp only [List.length_set];first | assumption | omega) | (simp only [List.getElem_set_self,List.length_set];first | assumption | omega) | (simp only [Y3,Yj,List.length_set];first | assumption | omega) | (simp;done))
     refine Qa (Q5 (i:=k) Kd Z Z (hd6.rd.ext E) hi2) Z (Qa (Qk Xi Z (((hd6.rd.ext E).get hi2).one 0 Z)) Z (Qa (Qe Z) Z (Qd (Qh (Qi [true,false,true] Z Z (Qa (Qb Z) Z (Qw Tryz.call28 Z (c_within (x.sums[k]'hi2) (-1000000) 1000000 _ ) Z (fun _ w15 e9 hv=>?_))))))))
     subst hv
     replace E:=E.trans e9;replace h1:=h1.ext e9;replace h2:=h2.ext e9
     have z13:=e9.size
     refine Qa (Xn Z) Z (Qd (Qt Z (fun hc6=>?_) (fun hc6=>?_)))
     ·refine Qh (Qi [true] Z Z (Qa (Qe Z) Z (Qd (Qx (Q0 (Yy (Q0 (Qu Z Z E ?_))))))))
      exact bf fun h=>by simp only [Yv,Bool.and_eq_true] at h;obtain ⟨⟨⟨⟨⟨⟨⟨⟨⟨q1,q2⟩,q3⟩,q4⟩,q5⟩,q6⟩,q7⟩,q8⟩,q9⟩,q10⟩:=h;have:=List.all_eq_true.1 q9 _ (List.getElem_mem (by assumption));simp only [this] at hc6;cases hc6
     ·refine Qy (Q4 (Yn (Qi [true,true] Z Z (Qa (Yu Z Z (Yw hc5n (hd6.ext E).1.1)) Z (Qa (Qb Z) Z (Qd (Q4 (Yg (k + 1) (by omega) ⟨Z,Z,Z,Z,Z,trivial⟩ ⟨E,(by omega),h1,h2,(by omega),Vl hI2 (by assumption) (by simpa using hc6)⟩))))))))
    ·have hc5n : ¬ k < x.sums.length:=by first | (have h:=of_decide_eq_false hc5;omega) | (have h:=hc5;simp at h;omega)
     refine Y5 (Yc (Q8 ?_))
     refine Qh (Qh (Qi [true,true,true,true] Z Z (Qa (Qf Um Z) Z (Qa (Qk Hh Z (h2.one 7 Z)) Z (Qa (Ye Tryz.underlying31 Z (hd9.ext E).len) Z (Qa (Qb Z) Z (Qd (Q2 (Y6 (fun (k : Nat)=>[(3,.pointer (some ⟨b2,0,none⟩)),(4,.bool false),(100,o9),(101,.int .i64 ((x.dones.length : Nat) : Int)),(102,.int .i64 ((k : Nat) : Int))]) (fun (k : Nat) w'=>Ext w w' ∧ w14.heap.size ≤ w'.heap.size ∧ Blk w' b1 ([o1,.int .i64 g.workers,.int .i64 g.cap]) ∧ Blk w' b2 ([o2,o3,o4,o5,o6,o7,o8,o9]) ∧ k ≤ x.dones.length ∧ Gm k (fun j=>Va x.dones j) = true) (fun (k : Nat)=>x.dones.length - k) 0 ⟨Z,Z,Z,Z,Z,trivial⟩ ⟨E,Nat.le_refl _,h1,h2,Nat.zero_le _,Z⟩ ?_)))))))))
     clear E h1 h2
     rintro k w16 ⟨E,z14,h1,h2,hk,hI3⟩
     refine Qh (Qi [true] Z Z (Qa (Xe Z Z) Z (Qd (Qh (Qt Z (fun hc7=>?_) (fun hc7=>?_))))))
     ·have hc7n : k < x.dones.length:=by first | (have h:=of_decide_eq_true hc7;omega) | (have h:=hc7;simp at h;omega)
      refine Qy (Qh (Q2 (Qh (Qi [true,true,true,false,true,false] Z Z (Qa (Qb Z) Z ?_)))))
      have hi3 : k < x.dones.length:=(by first | assumption | omega | (simp only [List.length_set];first | assumption | omega) | (simp only [List.getElem_set_self,List.length_set];first | assumption | omega) | (simp only [Y3,Yj,List.length_set];first | assumption | omega) | (simp;done))
      refine Qa (Q5 (i:=k) H1 Z Z (hd9.rd.ext E) hi3) Z (Qa (Ql st58 Z ((hd9.rd.ext E).get hi3) Z) Z (Yd st58 Z (fun b4 w17 e10 s4 h4=>?_)))
      have g_b4 : w.heap.size ≤ b4:=by have:=E.size;omega
      have y_b4:=h4.lt
      replace E:=E.trans e10;replace h1:=h1.ext e10;replace h2:=h2.ext e10
      have z15:=e10.size
      refine Qa (Qe Z) Z (Qs (cs':=[.int .i64 ((x.dones[k]'hi3).epoch),.bool ((x.dones[k]'hi3).capped)]) st58 Z Z Z Z h4 (Nat.le_of_ble_eq_true Z) Z (fun w18 m2 h4'=>?_))
      replace h4:=h4'
      replace E:=E.step m2 (fun g hg=>by cases hg;omega);replace h1:=h1.mod m2 (fun g hg=>by cases hg;omega);replace h2:=h2.mod m2 (fun g hg=>by cases hg;omega)
      have z16:=m2.size
      refine Qd (Qh (Xk Xd [(0,true),(1,true),(2,false),(3,true),(4,true),(5,true),(6,true),(7,true),(8,true),(9,true),(10,true),(11,false),(12,true)] (by decide +kernel) Z (fun w19 e11=>?_)))
      replace E:=E.trans e11;replace h1:=h1.ext e11;replace h2:=h2.ext e11;replace h4:=h4.ext e11
      have z17:=e11.size
      refine Qa (Qf Tf Z) Z (Qa (Qk Xi Z (h4.one 0 Z)) Z (Qw Tryz.call28 Z (c_within ((x.dones[k]'hi3).epoch) 0 3 _ ) Z (fun _ w20 e12 hv=>?_)))
      subst hv
      replace E:=E.trans e12;replace h1:=h1.ext e12;replace h2:=h2.ext e12;replace h4:=h4.ext e12
      have z18:=e12.size
      refine Qa (Xn Z) Z (Qa (Qb Z) Z (Xr 8 [(3,.pointer (some ⟨b2,0,none⟩)),(4,.bool false),(9,.int .i64 ((k : Nat) : Int)),(10,.pointer (some ⟨b4,0,none⟩)),(100,o9),(101,.int .i64 ((x.dones.length : Nat) : Int)),(102,.int .i64 ((k : Nat) : Int)),(103,.bool (decide (((k : Nat) : Int) < ((x.dones.length : Nat) : Int)))),(104,.int .i64 ((k : Nat) : Int)),(105,.pointer (some ⟨Kk o9,Ue o9 + k * 2,none⟩)),(106,.agg (Enc.enc (x.dones[k]'hi3)).toArray),(119,.bool ((!(Y2 ((x.dones[k]'hi3).epoch) 0 3)) || ((List.take k x.dones).any (fun d=>d.epoch == ((x.dones[k]'hi3).epoch)))))] (fun w'=>Ext w w' ∧ w20.heap.size ≤ w'.heap.size ∧ Blk w' b1 ([o1,.int .i64 g.workers,.int .i64 g.cap]) ∧ Blk w' b2 ([o2,o3,o4,o5,o6,o7,o8,o9]) ∧ Blk w' b4 [.int .i64 ((x.dones[k]'hi3).epoch),.bool ((x.dones[k]'hi3).capped)]) ?_ ?_))
      ·refine Yz (gd:=111) Z Z (fun hg9=>?_) (fun hg9=>?_)
       ·refine Qc Z Z Z Z (Qc Z Z Z Z (Qc Z Z Z Z (Qc Z Z Z Z (Qc Z Z Z Z (Qc Z Z Z Z ?_)))))
        refine Q3 Z Z Z Z ?_
        refine Qa (Qr Z Z) Z (Qn ⟨Z,Z,Z,Z,Z,Z,Z,Z,Z,Z,Z,congrArg (fun b=>some (Value.bool b)) (show true = ((!(Y2 ((x.dones[k]'hi3).epoch) 0 3)) || ((List.take k x.dones).any (fun d=>d.epoch == ((x.dones[k]'hi3).epoch)))) by first | (rw [hg9] <;> rfl) | (simp [hg9];done) | (simp only [Qq] <;> simp)),trivial⟩ ⟨E,(by omega),h1,h2,h4⟩)
       ·refine Qm Z Z (Qf Um Z) Z (Qm Z Z (Qk Hh Z (h2.one 7 Z)) Z (Qm Z Z (Qb Z) Z ?_))
        have hk1 : k ≤ x.dones.length:=by first | assumption | omega
        have hs1 : RdD (α:=Done) w 0 w.heap.size (slTo o9 k) (List.take k x.dones):=RdB.slTo hd9 hk1
        refine Qm Z Z (Ck H1 Z Z (RdL.room (hd9.ext E).1) hk1) Z (Qm Z Z (Qf Tf Z) Z (Qm Z Z (Qk Xi Z (h4.one 0 Z)) Z ?_))
        refine Xa Z Z ?_
        refine Qw Tryz.call29 Z (c_doneAt (slTo o9 k) (List.take k x.dones) ((x.dones[k]'hi3).epoch) _ (hs1.rd.ext E)) Z (fun _ w22 e13 hv=>?_)
        subst hv
        replace E:=E.trans e13;replace h1:=h1.ext e13;replace h2:=h2.ext e13;replace h4:=h4.ext e13
        have z19:=e13.size
        refine Qa (Qp Z Z) Z (Qn ⟨Z,Z,Z,Z,Z,Z,Z,Z,Z,Z,Z,congrArg (fun b=>some (Value.bool b)) (show ((List.take k x.dones).any (fun d=>d.epoch == ((x.dones[k]'hi3).epoch))) = ((!(Y2 ((x.dones[k]'hi3).epoch) 0 3)) || ((List.take k x.dones).any (fun d=>d.epoch == ((x.dones[k]'hi3).epoch)))) by first | (rw [hg9] <;> rfl) | (simp [hg9];done) | (simp only [Qq] <;> simp)),trivial⟩ ⟨E,(by omega),h1,h2,h4⟩)
      clear E h1 h2 h4
      rintro w21 ⟨E,z20,h1,h2,h4⟩
      refine Qd (Qt Z (fun hc8=>?_) (fun hc8=>?_))
      ·refine Qh (Qi [true] Z Z (Qa (Qe Z) Z (Qd (Qx (Q0 (Yy (Q0 (Qu Z Z E ?_))))))))
       exact bf fun h=>by simp only [Yv,Bool.and_eq_true] at h;obtain ⟨⟨⟨⟨⟨⟨⟨⟨⟨q1,q2⟩,q3⟩,q4⟩,q5⟩,q6⟩,q7⟩,q8⟩,q9⟩,q10⟩:=h;have:=V9 q10 (by assumption);rw [Vj (by assumption),hc8] at this;cases this
      ·refine Qy (Q4 (Yn (Qi [true,true] Z Z (Qa (Yu Z Z (Yw hc7n (hd9.ext E).1.1)) Z (Qa (Qb Z) Z (Qd (Q4 (Yg (k + 1) (by omega) ⟨Z,Z,Z,Z,Z,trivial⟩ ⟨E,(by omega),h1,h2,(by omega),Av hI3 ((Vj (by assumption)).trans (congrArg not hc8))⟩))))))))
     ·have hc7n : ¬ k < x.dones.length:=by first | (have h:=of_decide_eq_false hc7;omega) | (have h:=hc7;simp at h;omega)
      refine Y5 (Yc (Q8 ?_))
      refine Qh (Qi [true] Z Z (Qa (Qe Z) Z (Qd (Qx (Qu Z Z E ?_)))))
      exact wk_yes1 hc1 (T1 hI1 (by omega)) hc4 (all_end hI2 (by omega)) (T1 hI3 (by omega))

set_option maxHeartbeats 4000000 in
set_option maxRecDepth 20000 in
theorem s_WorkerOk (cg : List Value) (g : Graph) (cx : List Value) (x : Worker) (w : World) (hg : Dat.R w 0 w.heap.size cg g) (hx : Dat.R w 0 w.heap.size cx x) : Ct Tryz.prog 7 [.agg cg.toArray,.agg cx.toArray] w (fun v _=>v = .bool (Yv g x)):=by
 refine Yp Tryz.func7 Z Tryz.ntmps7 Z ?_
 obtain ⟨o1,rfl,hd1⟩:=Graph.op hg
 obtain ⟨o2,o3,o4,o5,o6,o7,o8,o9,rfl,hd2,hd3,hd4,hd5,hd6,hd7,hd8,hd9⟩:=Worker.op hx
 refine Yb [(0,.agg [o1,.int .i64 g.workers,.int .i64 g.cap].toArray),(1,.agg [o2,o3,o4,o5,o6,o7,o8,o9].toArray)] ⟨Z,Z,trivial⟩ ?_
 have E : Ext w w:=Ext.refl w
 refine Qh (Qi [false,false,true] Z Z (Xb Z Z (fun b1 w1 e1 s1 h1=>?_)))
 have g_b1 : w.heap.size ≤ b1:=by have:=E.size;omega
 have y_b1:=h1.lt
 replace E:=E.trans e1
 have z1:=e1.size
 refine Xb Z Z (fun b2 w2 e2 s2 h2=>?_)
 have g_b2 : w.heap.size ≤ b2:=by have:=E.size;omega
 have y_b2:=h2.lt
 replace E:=E.trans e2;replace h1:=h1.ext e2
 have z2:=e2.size
 refine Qa (Qe Z) Z (Qd (Qh (Qi [true] Z Z (Qa (Qe Z) Z (Qd (Qh (Qh (Qi [true,true,true,false,true,true,true,true,true,false,true,true,true,true,true,true,false,true,true,true,true,true,false,true,true,true,true,true,true,true,true,true,true,true,true,true,true,true,true,true,true,true,true,true,true,true] Z Z (Qa (Ql Xz Z h1.at Z) Z (Qa (Qf Kf Z) Z (Qa (Qk Xv Z (h2.one 0 Z)) Z (Qw Tryz.call30 Z (s_l12Records [o1,.int .i64 g.workers,.int .i64 g.cap] g o2 x.queue _ (Graph.mkR g (RdD.any (hd1.ext E))) (hd2.rd.ext E)) Z (fun _ w3 e3 hv=>?_)))))))))))))
 subst hv
 replace E:=E.trans e3;replace h1:=h1.ext e3;replace h2:=h2.ext e3
 have z3:=e3.size
 refine Qa (Xn Z) Z (Qa (Qb Z) Z (Xr 40 [(0,.agg [o1,.int .i64 g.workers,.int .i64 g.cap].toArray),(1,.agg [o2,o3,o4,o5,o6,o7,o8,o9].toArray),(2,.pointer (some ⟨b1,0,none⟩)),(3,.pointer (some ⟨b2,0,none⟩)),(4,.bool false),(5,.int .i64 4),(55,.bool (((((((!(x.queue.all (X0 g))) || (!(x.staged.all (X0 g)))) || (!(x.inputs.all (X0 g)))) || (!((G9 x.cells).all X6))) || (((x.sums.length : Nat) : Int) != 4)) || (((x.black.length : Nat) : Int) != 4)) || (((x.caps.length : Nat) : Int) != 4)))] (fun w'=>Ext w w' ∧ w3.heap.size ≤ w'.heap.size ∧ Blk w' b1 ([o1,.int .i64 g.workers,.int .i64 g.cap]) ∧ Blk w' b2 ([o2,o3,o4,o5,o6,o7,o8,o9])) ?_ ?_))
 ·refine Yz (gd:=15) Z Z (fun hg1=>?_) (fun hg1=>?_)
  ·refine Qc Z Z Z Z (Qc Z Z Z Z (Qc Z Z Z Z ?_))
   refine Q3 Z Z Z Z ?_
   refine Qc Z Z Z Z (Qa (Qr Z Z) Z (Qa (Qb Z) Z (Qc Z Z Z Z (Qc Z Z Z Z (Qc Z Z Z Z ?_)))))
   refine Q3 Z Z Z Z ?_
   refine Qc Z Z Z Z (Qa (Qr Z Z) Z (Qa (Qb Z) Z (Qc Z Z Z Z (Qc Z Z Z Z ?_))))
   refine Q3 Z Z Z Z ?_
   refine Qc Z Z Z Z (Qa (Qr Z Z) Z (Qa (Qb Z) Z (Qc Z Z Z Z (Qc Z Z Z Z (Qc Z Z Z Z (Qc Z Z Z Z (Qc Z Z Z Z (Qa (Qr Z Z) Z (Qa (Qb Z) Z (Qc Z Z Z Z (Qc Z Z Z Z (Qc Z Z Z Z (Qc Z Z Z Z (Qc Z Z Z Z (Qa (Qr Z Z) Z (Qa (Qb Z) Z (Qc Z Z Z Z (Qc Z Z Z Z (Qc Z Z Z Z (Qc Z Z Z Z (Qc Z Z Z Z (Qa (Qr Z Z) Z (Qn ⟨Z,Z,Z,Z,Z,Z,congrArg (fun b=>some (Value.bool b)) (show true = (((((((!(x.queue.all (X0 g))) || (!(x.staged.all (X0 g)))) || (!(x.inputs.all (X0 g)))) || (!((G9 x.cells).all X6))) || (((x.sums.length : Nat) : Int) != 4)) || (((x.black.length : Nat) : Int) != 4)) || (((x.caps.length : Nat) : Int) != 4)) by first | (rw [hg1] <;> rfl) | (simp [hg1];done) | (simp only [Qq] <;> simp)),trivial⟩ ⟨E,(by omega),h1,h2⟩)))))))))))))))))))))))
  ·refine Qm Z Z (Ql Xz Z h1.at Z) Z (Qm Z Z (Qf Ui Z) Z (Qm Z Z (Qk Xv Z (h2.one 1 Z)) Z ?_))
   refine Xa Z Z ?_
   refine Qw Tryz.call30 Z (s_l12Records [o1,.int .i64 g.workers,.int .i64 g.cap] g o3 x.staged _ (Graph.mkR g (RdD.any (hd1.ext E))) (hd3.rd.ext E)) Z (fun _ w5 e4 hv=>?_)
   subst hv
   replace E:=E.trans e4;replace h1:=h1.ext e4;replace h2:=h2.ext e4
   have z4:=e4.size
   refine Qm Z Z (Xn Z) Z (Qa (Qp Z Z) Z (Qa (Qb Z) Z ?_))
   refine Yz (gd:=22) Z Z (fun hg2=>?_) (fun hg2=>?_)
   ·refine Qc Z Z Z Z (Qc Z Z Z Z (Qc Z Z Z Z ?_))
    refine Q3 Z Z Z Z ?_
    refine Qc Z Z Z Z (Qa (Qr Z Z) Z (Qa (Qb Z) Z (Qc Z Z Z Z (Qc Z Z Z Z ?_))))
    refine Q3 Z Z Z Z ?_
    refine Qc Z Z Z Z (Qa (Qr Z Z) Z (Qa (Qb Z) Z (Qc Z Z Z Z (Qc Z Z Z Z (Qc Z Z Z Z (Qc Z Z Z Z (Qc Z Z Z Z (Qa (Qr Z Z) Z (Qa (Qb Z) Z (Qc Z Z Z Z (Qc Z Z Z Z (Qc Z Z Z Z (Qc Z Z Z Z (Qc Z Z Z Z (Qa (Qr Z Z) Z (Qa (Qb Z) Z (Qc Z Z Z Z (Qc Z Z Z Z (Qc Z Z Z Z (Qc Z Z Z Z (Qc Z Z Z Z (Qa (Qr Z Z) Z (Qn ⟨Z,Z,Z,Z,Z,Z,congrArg (fun b=>some (Value.bool b)) (show true = (((((((!(x.queue.all (X0 g))) || (!(x.staged.all (X0 g)))) || (!(x.inputs.all (X0 g)))) || (!((G9 x.cells).all X6))) || (((x.sums.length : Nat) : Int) != 4)) || (((x.black.length : Nat) : Int) != 4)) || (((x.caps.length : Nat) : Int) != 4)) by first | (rw [hg1,hg2] <;> rfl) | (simp [hg1,hg2];done) | (simp only [Qq] <;> simp)),trivial⟩ ⟨E,(by omega),h1,h2⟩)))))))))))))))))))))))
   ·refine Qm Z Z (Ql Xz Z h1.at Z) Z (Qm Z Z (Qf X5 Z) Z (Qm Z Z (Qk Xv Z (h2.one 2 Z)) Z ?_))
    refine Xa Z Z ?_
    refine Qw Tryz.call30 Z (s_l12Records [o1,.int .i64 g.workers,.int .i64 g.cap] g o4 x.inputs _ (Graph.mkR g (RdD.any (hd1.ext E))) (hd4.rd.ext E)) Z (fun _ w6 e5 hv=>?_)
    subst hv
    replace E:=E.trans e5;replace h1:=h1.ext e5;replace h2:=h2.ext e5
    have z5:=e5.size
    refine Qm Z Z (Xn Z) Z (Qa (Qp Z Z) Z (Qa (Qb Z) Z ?_))
    refine Yz (gd:=29) Z Z (fun hg3=>?_) (fun hg3=>?_)
    ·refine Qc Z Z Z Z (Qc Z Z Z Z ?_)
     refine Q3 Z Z Z Z ?_
     refine Qc Z Z Z Z (Qa (Qr Z Z) Z (Qa (Qb Z) Z (Qc Z Z Z Z (Qc Z Z Z Z (Qc Z Z Z Z (Qc Z Z Z Z (Qc Z Z Z Z (Qa (Qr Z Z) Z (Qa (Qb Z) Z (Qc Z Z Z Z (Qc Z Z Z Z (Qc Z Z Z Z (Qc Z Z Z Z (Qc Z Z Z Z (Qa (Qr Z Z) Z (Qa (Qb Z) Z (Qc Z Z Z Z (Qc Z Z Z Z (Qc Z Z Z Z (Qc Z Z Z Z (Qc Z Z Z Z (Qa (Qr Z Z) Z (Qn ⟨Z,Z,Z,Z,Z,Z,congrArg (fun b=>some (Value.bool b)) (show true = (((((((!(x.queue.all (X0 g))) || (!(x.staged.all (X0 g)))) || (!(x.inputs.all (X0 g)))) || (!((G9 x.cells).all X6))) || (((x.sums.length : Nat) : Int) != 4)) || (((x.black.length : Nat) : Int) != 4)) || (((x.caps.length : Nat) : Int) != 4)) by first | (rw [hg1,hg2,hg3] <;> rfl) | (simp [hg1,hg2,hg3];done) | (simp only [Qq] <;> simp)),trivial⟩ ⟨E,(by omega),h1,h2⟩)))))))))))))))))))))))
    ·refine Qm Z Z (Qf V5 Z) Z (Qm Z Z (Qk C9 Z (h2.one 3 Z)) Z ?_)
     refine Xa Z Z ?_
     refine Qw Tryz.call31 Z (s_CellsOk o5 x.cells _ (hd5.rd.ext E)) Z (fun _ w7 e6 hv=>?_)
     subst hv
     replace E:=E.trans e6;replace h1:=h1.ext e6;replace h2:=h2.ext e6
     have z6:=e6.size
     refine Qm Z Z (Xn Z) Z (Qa (Qp Z Z) Z (Qa (Qb Z) Z ?_))
     refine Yz (gd:=35) Z Z (fun hg4=>?_) (fun hg4=>?_)
     ·refine Qc Z Z Z Z (Qc Z Z Z Z (Qc Z Z Z Z (Qc Z Z Z Z (Qc Z Z Z Z (Qa (Qr Z Z) Z (Qa (Qb Z) Z (Qc Z Z Z Z (Qc Z Z Z Z (Qc Z Z Z Z (Qc Z Z Z Z (Qc Z Z Z Z (Qa (Qr Z Z) Z (Qa (Qb Z) Z (Qc Z Z Z Z (Qc Z Z Z Z (Qc Z Z Z Z (Qc Z Z Z Z (Qc Z Z Z Z (Qa (Qr Z Z) Z (Qn ⟨Z,Z,Z,Z,Z,Z,congrArg (fun b=>some (Value.bool b)) (show true = (((((((!(x.queue.all (X0 g))) || (!(x.staged.all (X0 g)))) || (!(x.inputs.all (X0 g)))) || (!((G9 x.cells).all X6))) || (((x.sums.length : Nat) : Int) != 4)) || (((x.black.length : Nat) : Int) != 4)) || (((x.caps.length : Nat) : Int) != 4)) by first | (rw [hg1,hg2,hg3,hg4] <;> rfl) | (simp [hg1,hg2,hg3,hg4];done) | (simp only [Qq] <;> simp)),trivial⟩ ⟨E,(by omega),h1,h2⟩))))))))))))))))))))
     ·refine Qm Z Z (Qf Un Z) Z (Qm Z Z (Qk Uc Z (h2.one 4 Z)) Z (Qm Z Z (Ye Tryz.underlying29 Z (hd6.ext E).len) Z (Qm Z Z (Qb Z) Z (Qm Z Z (X1 Z Z) Z (Qa (Qp Z Z) Z (Qa (Qb Z) Z ?_))))))
      refine Yz (gd:=42) Z Z (fun hg5=>?_) (fun hg5=>?_)
      ·have hg5n : ¬ x.sums.length = 4:=by first | (have h:=of_decide_eq_true hg5;omega) | (have h:=hg5;simp at h;omega)
       refine Qc Z Z Z Z (Qc Z Z Z Z (Qc Z Z Z Z (Qc Z Z Z Z (Qc Z Z Z Z (Qa (Qr Z Z) Z (Qa (Qb Z) Z (Qc Z Z Z Z (Qc Z Z Z Z (Qc Z Z Z Z (Qc Z Z Z Z (Qc Z Z Z Z (Qa (Qr Z Z) Z (Qn ⟨Z,Z,Z,Z,Z,Z,congrArg (fun b=>some (Value.bool b)) (show true = (((((((!(x.queue.all (X0 g))) || (!(x.staged.all (X0 g)))) || (!(x.inputs.all (X0 g)))) || (!((G9 x.cells).all X6))) || (((x.sums.length : Nat) : Int) != 4)) || (((x.black.length : Nat) : Int) != 4)) || (((x.caps.length : Nat) : Int) != 4)) by first | (rw [hg1,hg2,hg3,hg4,hg5] <;> rfl) | (simp [hg1,hg2,hg3,hg4,hg5];done) | (simp only [Qq] <;> simp)),trivial⟩ ⟨E,(by omega),h1,h2⟩)))))))))))))
      ·have hg5n : x.sums.length = 4:=by first | (have h:=of_decide_eq_false hg5;omega) | (have h:=hg5;simp at h;omega)
       refine Qm Z Z (Qf V4 Z) Z (Qm Z Z (Qk Gz Z (h2.one 5 Z)) Z (Qm Z Z (Ye Tryz.underlying30 Z (hd7.ext E).len) Z (Qm Z Z (Qb Z) Z (Qm Z Z (X1 Z Z) Z (Qa (Qp Z Z) Z (Qa (Qb Z) Z ?_))))))
       refine Yz (gd:=49) Z Z (fun hg6=>?_) (fun hg6=>?_)
       ·have hg6n : ¬ x.black.length = 4:=by first | (have h:=of_decide_eq_true hg6;omega) | (have h:=hg6;simp at h;omega)
        refine Qc Z Z Z Z (Qc Z Z Z Z (Qc Z Z Z Z (Qc Z Z Z Z (Qc Z Z Z Z (Qa (Qr Z Z) Z (Qn ⟨Z,Z,Z,Z,Z,Z,congrArg (fun b=>some (Value.bool b)) (show true = (((((((!(x.queue.all (X0 g))) || (!(x.staged.all (X0 g)))) || (!(x.inputs.all (X0 g)))) || (!((G9 x.cells).all X6))) || (((x.sums.length : Nat) : Int) != 4)) || (((x.black.length : Nat) : Int) != 4)) || (((x.caps.length : Nat) : Int) != 4)) by first | (rw [hg1,hg2,hg3,hg4,hg5,hg6] <;> rfl) | (simp [hg1,hg2,hg3,hg4,hg5,hg6];done) | (simp only [Qq] <;> simp)),trivial⟩ ⟨E,(by omega),h1,h2⟩))))))
       ·have hg6n : x.black.length = 4:=by first | (have h:=of_decide_eq_false hg6;omega) | (have h:=hg6;simp at h;omega)
        refine Qm Z Z (Qf Hl Z) Z (Qm Z Z (Qk Gz Z (h2.one 6 Z)) Z (Qm Z Z (Ye Tryz.underlying30 Z (hd8.ext E).len) Z (Qm Z Z (Qb Z) Z (Qm Z Z (X1 Z Z) Z (Qa (Qp Z Z) Z (Qn ⟨Z,Z,Z,Z,Z,Z,congrArg (fun b=>some (Value.bool b)) (show (((x.caps.length : Nat) : Int) != 4) = (((((((!(x.queue.all (X0 g))) || (!(x.staged.all (X0 g)))) || (!(x.inputs.all (X0 g)))) || (!((G9 x.cells).all X6))) || (((x.sums.length : Nat) : Int) != 4)) || (((x.black.length : Nat) : Int) != 4)) || (((x.caps.length : Nat) : Int) != 4)) by first | (rw [hg1,hg2,hg3,hg4,hg5,hg6] <;> rfl) | (simp [hg1,hg2,hg3,hg4,hg5,hg6];done) | (simp only [Qq] <;> simp)),trivial⟩ ⟨E,(by omega),h1,h2⟩))))))
 clear E h1 h2
 rintro w4 ⟨E,z7,h1,h2⟩
 refine Qd (Qt Z (fun hc1=>?_) (fun hc1=>?_))
 ·refine Qh (Qi [true] Z Z (Qa (Qe Z) Z (Qd (Qx (Qu Z Z E ?_)))))
  exact bf fun h=>by simp only [Yv,Bool.and_eq_true] at h;obtain ⟨⟨⟨⟨⟨⟨⟨⟨⟨q1,q2⟩,q3⟩,q4⟩,q5⟩,q6⟩,q7⟩,q8⟩,q9⟩,q10⟩:=h;simp only [beq_iff_eq] at q6 q7 q8;simp only [q1,q2,q3,q4,q6,q7,q8] at hc1;simp at hc1
 ·refine Qy (Qh (Qh (Qi [true] Z Z (Qa (Qe Z) Z (Qd (Q2 (Y6 (fun (k : Nat)=>[(3,.pointer (some ⟨b2,0,none⟩)),(4,.bool false),(5,.int .i64 4),(6,.int .i64 ((k : Nat) : Int))]) (fun (k : Nat) w'=>Ext w w' ∧ w4.heap.size ≤ w'.heap.size ∧ Blk w' b1 ([o1,.int .i64 g.workers,.int .i64 g.cap]) ∧ Blk w' b2 ([o2,o3,o4,o5,o6,o7,o8,o9]) ∧ k ≤ x.inputs.length ∧ Gm k (fun j=>inAt x.inputs j) = true) (fun (k : Nat)=>x.inputs.length - k) 0 ⟨Z,Z,Z,Z,trivial⟩ ⟨E,Nat.le_refl _,h1,h2,Nat.zero_le _,Z⟩ ?_)))))))
  clear E h1 h2
  rintro k w8 ⟨E,z8,h1,h2,hk,hI1⟩
  have hmi:=hd4.1.1
  unfold maxLen at hmi
  refine Qh (Qh (Qi [true,true,true,true,true] Z Z (Qa (Qb Z) Z (Qa (Qf X5 Z) Z (Qa (Qk Xv Z (h2.one 2 Z)) Z (Qa (Ye Tryz.underlying27 Z (hd4.ext E).len) Z (Qa (Xe Z Z) Z (Qd (Qt Z (fun hc2=>?_) (fun hc2=>?_))))))))))
  ·have hc2n : k < x.inputs.length:=by first | (have h:=of_decide_eq_true hc2;omega) | (have h:=hc2;simp at h;omega)
   refine Qy (Qh (Q2 (Qh (Xk Xd [(0,true),(1,true),(2,true),(3,true),(4,true),(5,true),(6,true),(7,true),(8,true),(9,true),(10,true),(11,true),(12,true),(13,true),(14,true),(15,true),(16,true),(17,true),(18,true),(19,true),(20,true),(21,true),(22,true),(23,true),(24,true),(25,true),(26,true),(27,true),(28,true),(29,true),(30,true),(31,true),(32,true),(33,true),(34,true),(35,true),(36,true),(37,true),(38,true)] (by decide +kernel) Z (fun w9 e7=>?_)))))
   replace E:=E.trans e7;replace h1:=h1.ext e7;replace h2:=h2.ext e7
   have z9:=e7.size
   refine Qa (Qf X5 Z) Z (Qa (Qk Xv Z (h2.one 2 Z)) Z (Qa (Qb Z) Z ?_))
   have hi1 : k < x.inputs.length:=(by first | assumption | omega | (simp only [List.length_set];first | assumption | omega) | (simp only [List.getElem_set_self,List.length_set];first | assumption | omega) | (simp only [Y3,Yj,List.length_set];first | assumption | omega) | (simp;done))
   refine Qa (Q5 (i:=k) Xp Z Z (hd4.rd.ext E) hi1) Z (Qa (Q7 Ve Z) Z (Qa (Qk Xi Z (((hd4.rd.ext E).get hi1).one 0 Z)) Z (Qa (X1 Z Z) Z (Qa (Qb Z) Z (Xr 31 [(3,.pointer (some ⟨b2,0,none⟩)),(4,.bool false),(5,.int .i64 4),(6,.int .i64 ((k : Nat) : Int)),(56,.int .i64 ((k : Nat) : Int)),(57,.pointer (some ⟨b2,2,none⟩)),(58,o4),(59,.int .i64 ((x.inputs.length : Nat) : Int)),(60,.bool (decide (((k : Nat) : Int) < ((x.inputs.length : Nat) : Int)))),(101,.bool (((((x.inputs[k]'hi1).op) != 0) || ((((x.inputs[k]'hi1).stamp).turn) != 0)) || ((decide (0 < ((k : Nat) : Int))) && (decide ((((x.inputs[k]'hi1).stamp).epoch) < (((List.getD x.inputs (k - 1) default).stamp).epoch))))))] (fun w'=>w9 = w') ?_ ?_)))))
   ·refine Yz (gd:=70) Z Z (fun hg7=>?_) (fun hg7=>?_)
    ·refine Qc Z Z Z Z (Qc Z Z Z Z (Qc Z Z Z Z (Qc Z Z Z Z (Qc Z Z Z Z (Qc Z Z Z Z (Qc Z Z Z Z (Qc Z Z Z Z (Qa (Qr Z Z) Z (Qa (Qb Z) Z (Qc Z Z Z Z (Qc Z Z Z Z (Qc Z Z Z Z (Q9 Z Z Z (Q9 Z Z Z (Q9 Z Z Z (Q9 Z Z Z (Q9 Z Z Z (Q9 Z Z Z (Q9 Z Z Z (Q9 Z Z Z (Q9 Z Z Z (Q9 Z Z Z (Q9 Z Z Z (Q9 Z Z Z (Q9 Z Z Z (Q9 Z Z Z (Q9 Z Z Z (Q9 Z Z Z (Qc Z Z Z Z (Qa (Qr Z Z) Z (Qn ⟨Z,Z,Z,Z,Z,Z,Z,Z,Z,congrArg (fun b=>some (Value.bool b)) (show true = (((((x.inputs[k]'hi1).op) != 0) || ((((x.inputs[k]'hi1).stamp).turn) != 0)) || ((decide (0 < ((k : Nat) : Int))) && (decide ((((x.inputs[k]'hi1).stamp).epoch) < (((List.getD x.inputs (k - 1) default).stamp).epoch))))) by first | (rw [hg7] <;> rfl) | (simp [hg7];done) | (simp only [Qq] <;> simp)),trivial⟩ Z)))))))))))))))))))))))))))))))
    ·refine Qm Z Z (Qf X5 Z) Z (Qm Z Z (Qk Xv Z (h2.one 2 Z)) Z (Qm Z Z (Qb Z) Z (Qm Z Z (Q5 (i:=k) Xp Z Z (hd4.rd.ext E) hi1) Z (Qm Z Z (Q7 X4 Z) Z (Qm Z Z (Q7 U8 Z) Z (Qm Z Z (Qk Xi Z (((hd4.rd.ext E).get hi1).one 2 Z)) Z (Qm Z Z (X1 Z Z) Z (Qa (Qp Z Z) Z (Qa (Qb Z) Z ?_)))))))))
     refine Yz (gd:=80) Z Z (fun hg8=>?_) (fun hg8=>?_)
     ·refine Qc Z Z Z Z (Qc Z Z Z Z (Qc Z Z Z Z (Q9 Z Z Z (Q9 Z Z Z (Q9 Z Z Z (Q9 Z Z Z (Q9 Z Z Z (Q9 Z Z Z (Q9 Z Z Z (Q9 Z Z Z (Q9 Z Z Z (Q9 Z Z Z (Q9 Z Z Z (Q9 Z Z Z (Q9 Z Z Z (Q9 Z Z Z (Q9 Z Z Z (Q9 Z Z Z (Qc Z Z Z Z (Qa (Qr Z Z) Z (Qn ⟨Z,Z,Z,Z,Z,Z,Z,Z,Z,congrArg (fun b=>some (Value.bool b)) (show true = (((((x.inputs[k]'hi1).op) != 0) || ((((x.inputs[k]'hi1).stamp).turn) != 0)) || ((decide (0 < ((k : Nat) : Int))) && (decide ((((x.inputs[k]'hi1).stamp).epoch) < (((List.getD x.inputs (k - 1) default).stamp).epoch))))) by first | (rw [hg7,hg8] <;> rfl) | (simp [hg7,hg8];done) | (simp only [Qq] <;> simp)),trivial⟩ Z)))))))))))))))))))))
     ·refine Qm Z Z (Qb Z) Z (Qm Z Z (U1 Z Z) Z (Qm Z Z (Qb Z) Z ?_))
      refine Yz (gd:=83) Z Z (fun hg9=>?_) (fun hg9=>?_)
      ·have hg9n : k > 0:=by first | (have h:=of_decide_eq_true hg9;omega) | (have h:=hg9;simp at h;omega)
       refine Qm Z Z (Qf X5 Z) Z (Qm Z Z (Qk Xv Z (h2.one 2 Z)) Z (Qm Z Z (Qb Z) Z (Qm Z Z (Gh Z Z (sub_nat (by omega) (by unfold maxLen;omega))) Z (Qm Z Z (Q5 (i:=(k - 1)) Xp Z Z (hd4.rd.ext E) (by first | assumption | omega | (simp only [List.length_set];first | assumption | omega) | (simp only [List.getElem_set_self,List.length_set];first | assumption | omega) | (simp only [Y3,Yj,List.length_set];first | assumption | omega) | (simp;done))) Z (Qm Z Z (Q7 X4 Z) Z (Qm Z Z (Q7 Uh Z) Z (Qm Z Z (Qk Xi Z ((RdS.getD (hd4.rd.ext E) (i:=(k - 1)) (by first | assumption | omega | (simp only [List.length_set];first | assumption | omega) | (simp only [List.getElem_set_self,List.length_set];first | assumption | omega) | (simp only [Y3,Yj,List.length_set];first | assumption | omega) | (simp;done))).one 1 Z)) Z (Qm Z Z (Qf X5 Z) Z (Qm Z Z (Qk Xv Z (h2.one 2 Z)) Z (Qm Z Z (Qb Z) Z (Qm Z Z (Q5 (i:=k) Xp Z Z (hd4.rd.ext E) hi1) Z (Qm Z Z (Q7 X4 Z) Z (Qm Z Z (Q7 Uh Z) Z (Qm Z Z (Qk Xi Z (((hd4.rd.ext E).get hi1).one 1 Z)) Z (Qm Z Z (U1 Z Z) Z (Qm Z Z (Qr Z Z) Z (Qa (Qp Z Z) Z (Qn ⟨Z,Z,Z,Z,Z,Z,Z,Z,Z,congrArg (fun b=>some (Value.bool b)) (show (decide ((((x.inputs[k]'hi1).stamp).epoch) < (((List.getD x.inputs (k - 1) default).stamp).epoch))) = (((((x.inputs[k]'hi1).op) != 0) || ((((x.inputs[k]'hi1).stamp).turn) != 0)) || ((decide (0 < ((k : Nat) : Int))) && (decide ((((x.inputs[k]'hi1).stamp).epoch) < (((List.getD x.inputs (k - 1) default).stamp).epoch))))) by first | (rw [hg7,hg8,hg9] <;> rfl) | (simp [hg7,hg8,hg9];done) | (simp only [Qq] <;> simp)),trivial⟩ Z))))))))))))))))))
      ·have hg9n : ¬ k > 0:=by first | (have h:=of_decide_eq_false hg9;omega) | (have h:=hg9;simp at h;omega)
       refine Qc Z Z Z Z (Qc Z Z Z Z (Qc Z Z Z Z (Qc Z Z Z Z (Qc Z Z Z Z (Qc Z Z Z Z (Qc Z Z Z Z (Qc Z Z Z Z (Qc Z Z Z Z (Qc Z Z Z Z (Qc Z Z Z Z (Qc Z Z Z Z (Qc Z Z Z Z (Qc Z Z Z Z (Qc Z Z Z Z (Qc Z Z Z Z (Qm Z Z (Qp Z Z) Z (Qa (Qp Z Z) Z (Qn ⟨Z,Z,Z,Z,Z,Z,Z,Z,Z,congrArg (fun b=>some (Value.bool b)) (show false = (((((x.inputs[k]'hi1).op) != 0) || ((((x.inputs[k]'hi1).stamp).turn) != 0)) || ((decide (0 < ((k : Nat) : Int))) && (decide ((((x.inputs[k]'hi1).stamp).epoch) < (((List.getD x.inputs (k - 1) default).stamp).epoch))))) by first | (rw [hg7,hg8,hg9] <;> rfl) | (simp [hg7,hg8,hg9];done) | (simp only [Qq] <;> simp)),trivial⟩ Z))))))))))))))))))
   rintro _ rfl
   refine Qd (Qt Z (fun hc3=>?_) (fun hc3=>?_))
   ·refine Qh (Qi [true] Z Z (Qa (Qe Z) Z (Qd (Qx (Q0 (Yy (Q0 (Qu Z Z E ?_))))))))
    exact bf fun h=>by simp only [Yv,Bool.and_eq_true] at h;obtain ⟨⟨⟨⟨⟨⟨⟨⟨⟨q1,q2⟩,q3⟩,q4⟩,q5⟩,q6⟩,q7⟩,q8⟩,q9⟩,q10⟩:=h;have:=V9 q5 (by assumption);rw [Cz (by assumption),hc3] at this;cases this
   ·refine Qy (Q4 (Yn (Qi [true,true,true] Z Z (Qa (Qb Z) Z (Qa (Yu Z Z (Yw hc2n (hd4.ext E).1.1)) Z (Qa (Qe Z) Z (Qd (Q4 (Yg (k + 1) (by omega) ⟨Z,Z,Z,Z,trivial⟩ ⟨E,(by omega),h1,h2,(by omega),Av hI1 ((Cz (by assumption)).trans (congrArg not hc3))⟩)))))))))
  ·have hc2n : ¬ k < x.inputs.length:=by first | (have h:=of_decide_eq_false hc2;omega) | (have h:=hc2;simp at h;omega)
   refine Y5 (Yc (Q8 ?_))
   refine Qh (Qh (Qi [true] Z Z (Qa (Qe Z) Z (Qd (Q2 (Y6 (fun (k : Nat)=>[(3,.pointer (some ⟨b2,0,none⟩)),(4,.bool false),(5,.int .i64 4),(7,.int .i64 ((k : Nat) : Int))]) (fun (k : Nat) w'=>Ext w w' ∧ w8.heap.size ≤ w'.heap.size ∧ Blk w' b1 ([o1,.int .i64 g.workers,.int .i64 g.cap]) ∧ Blk w' b2 ([o2,o3,o4,o5,o6,o7,o8,o9]) ∧ k ≤ 4 ∧ (x.sums.take k).all (Y2 · (-1000000) 1000000) = true) (fun (k : Nat)=>4 - k) 0 ⟨Z,Z,Z,Z,trivial⟩ ⟨E,Nat.le_refl _,h1,h2,Nat.zero_le _,Z⟩ ?_))))))
   clear E h1 h2
   rintro k w11 ⟨E,z10,h1,h2,hk,hI2⟩
   have hs4:=wk_len hc1
   refine Qh (Qh (Qi [true,true,true] Z Z (Qa (Qb Z) Z (Qa (Qb Z) Z (Qa (Xe Z Z) Z (Qd (Qt Z (fun hc4=>?_) (fun hc4=>?_))))))))
   ·have hc4n : k < 4:=by first | (have h:=of_decide_eq_true hc4;omega) | (have h:=hc4;simp at h;omega)
    refine Qy (Qh (Q2 (Qh (Qi [true,true,true,true,true,false,true] Z Z (Qa (Qf Un Z) Z (Qa (Qk Uc Z (h2.one 4 Z)) Z (Qa (Qb Z) Z ?_)))))))
    have hi2 : k < x.sums.length:=(by first | assumption | omega | (simp only [List.length_set];first | assumption | omega) | (simp only [List.getElem_set_self,List.length_set];first | assumption | omega) | (simp only [Y3,Yj,List.length_set];first | assumption | omega) | (simp;done))
    refine Qa (Q5 (i:=k) Kd Z Z (hd6.rd.ext E) hi2) Z (Qa (Qk Xi Z (((hd6.rd.ext E).get hi2).one 0 Z)) Z (Qw Tryz.call32 Z (s_l01In (x.sums[k]'hi2) (-1000000) 1000000 _ ) Z (fun _ w12 e8 hv=>?_)))
    subst hv
    replace E:=E.trans e8;replace h1:=h1.ext e8;replace h2:=h2.ext e8
    have z11:=e8.size
    refine Qa (Xn Z) Z (Qd (Qt Z (fun hc5=>?_) (fun hc5=>?_)))
    ·refine Qh (Qi [true] Z Z (Qa (Qe Z) Z (Qd (Qx (Q0 (Yy (Q0 (Qu Z Z E ?_))))))))
     exact bf fun h=>by simp only [Yv,Bool.and_eq_true] at h;obtain ⟨⟨⟨⟨⟨⟨⟨⟨⟨q1,q2⟩,q3⟩,q4⟩,q5⟩,q6⟩,q7⟩,q8⟩,q9⟩,q10⟩:=h;have:=List.all_eq_true.1 q9 _ (List.getElem_mem (by omega));simp only [this] at hc5;cases hc5
    ·refine Qy (Q4 (Yn (Qi [true,true,true] Z Z (Qa (Qb Z) Z (Qa (Yu Z Z (Yw hc4n (by first | assumption | (unfold maxLen;omega)))) Z (Qa (Qe Z) Z (Qd (Q4 (Yg (k + 1) (by omega) ⟨Z,Z,Z,Z,trivial⟩ ⟨E,(by omega),h1,h2,(by omega),Vl hI2 (by omega) (by simpa using hc5)⟩)))))))))
   ·have hc4n : ¬ k < 4:=by first | (have h:=of_decide_eq_false hc4;omega) | (have h:=hc4;simp at h;omega)
    refine Y5 (Yc (Q8 ?_))
    refine Qh (Qh (Qi [true] Z Z (Qa (Qe Z) Z (Qd (Q2 (Y6 (fun (i : Nat)=>[(3,.pointer (some ⟨b2,0,none⟩)),(4,.bool false),(8,.int .i64 ((i : Nat) : Int))]) (fun (i : Nat) w'=>Ext w w' ∧ w11.heap.size ≤ w'.heap.size ∧ Blk w' b1 ([o1,.int .i64 g.workers,.int .i64 g.cap]) ∧ Blk w' b2 ([o2,o3,o4,o5,o6,o7,o8,o9]) ∧ i ≤ x.dones.length ∧ Gm i (fun j=>Va x.dones j) = true) (fun (i : Nat)=>x.dones.length - i) 0 ⟨Z,Z,Z,trivial⟩ ⟨E,Nat.le_refl _,h1,h2,Nat.zero_le _,Z⟩ ?_))))))
    clear E h1 h2
    rintro i w13 ⟨E,z12,h1,h2,hle,hI3⟩
    have hmd:=hd9.1.1
    unfold maxLen at hmd
    refine Qh (Qh (Qi [true,true,true,true,true] Z Z (Qa (Qb Z) Z (Qa (Qf Um Z) Z (Qa (Qk Hh Z (h2.one 7 Z)) Z (Qa (Ye Tryz.underlying31 Z (hd9.ext E).len) Z (Qa (Xe Z Z) Z (Qd (Qt Z (fun hc6=>?_) (fun hc6=>?_))))))))))
    ·have hc6n : i < x.dones.length:=by first | (have h:=of_decide_eq_true hc6;omega) | (have h:=hc6;simp at h;omega)
     refine Qy (Qh (Q2 (Qh (Qh (Qi [true,true,true,true,true,true,false,true] Z Z (Qa (Qf Um Z) Z (Qa (Qk Hh Z (h2.one 7 Z)) Z (Qa (Qb Z) Z ?_))))))))
     have hi3 : i < x.dones.length:=(by first | assumption | omega | (simp only [List.length_set];first | assumption | omega) | (simp only [List.getElem_set_self,List.length_set];first | assumption | omega) | (simp only [Y3,Yj,List.length_set];first | assumption | omega) | (simp;done))
     refine Qa (Q5 (i:=i) H1 Z Z (hd9.rd.ext E) hi3) Z (Qa (Q7 Tf Z) Z (Qa (Qk Xi Z (((hd9.rd.ext E).get hi3).one 0 Z)) Z (Qw Tryz.call32 Z (s_l01In ((x.dones[i]'hi3).epoch) 0 3 _ ) Z (fun _ w14 e9 hv=>?_))))
     subst hv
     replace E:=E.trans e9;replace h1:=h1.ext e9;replace h2:=h2.ext e9
     have z13:=e9.size
     refine Qa (Xn Z) Z (Qd (Qt Z (fun hc7=>?_) (fun hc7=>?_)))
     ·refine Qh (Qi [true] Z Z (Qa (Qe Z) Z (Qd (Qx (Q0 (Yy (Q0 (Qu Z Z E ?_))))))))
      exact bf fun h=>by simp only [Yv,Bool.and_eq_true] at h;obtain ⟨⟨⟨⟨⟨⟨⟨⟨⟨q1,q2⟩,q3⟩,q4⟩,q5⟩,q6⟩,q7⟩,q8⟩,q9⟩,q10⟩:=h;have:=V9 q10 (by assumption);rw [Vj (by assumption)] at this;simp only [hc7,Bool.true_or] at this;cases this
     ·refine Qy (Qh (Qi [true] Z Z (Qa (Qe Z) Z (Qd (Q2 (Y6 (fun (j : Nat)=>[(3,.pointer (some ⟨b2,0,none⟩)),(4,.bool false),(8,.int .i64 ((i : Nat) : Int)),(9,.int .i64 ((j : Nat) : Int))]) (fun (j : Nat) w'=>Ext w w' ∧ w14.heap.size ≤ w'.heap.size ∧ Blk w' b1 ([o1,.int .i64 g.workers,.int .i64 g.cap]) ∧ Blk w' b2 ([o2,o3,o4,o5,o6,o7,o8,o9]) ∧ j ≤ i ∧ (x.dones.take j).any (fun d=>d.epoch == (x.dones[i]'hi3).epoch) = false) (fun (j : Nat)=>i - j) 0 ⟨Z,Z,Z,Z,trivial⟩ ⟨E,Nat.le_refl _,h1,h2,Nat.zero_le _,Z⟩ ?_))))))
      clear E h1 h2
      rintro j w15 ⟨E,z14,h1,h2,hk,hJ⟩
      refine Qh (Qh (Qi [true,true,true] Z Z (Qa (Qb Z) Z (Qa (Qb Z) Z (Qa (Xe Z Z) Z (Qd (Qt Z (fun hc8=>?_) (fun hc8=>?_))))))))
      ·have hc8n : j < i:=by first | (have h:=of_decide_eq_true hc8;omega) | (have h:=hc8;simp at h;omega)
       refine Qy (Qh (Q2 (Qh (Xk Xd [(0,true),(1,true),(2,true),(3,true),(4,true),(5,true),(6,true),(7,true),(8,true),(9,true),(10,true),(11,true),(12,true)] (by decide +kernel) Z (fun w16 e10=>?_)))))
       replace E:=E.trans e10;replace h1:=h1.ext e10;replace h2:=h2.ext e10
       have z15:=e10.size
       refine Qa (Qf Um Z) Z (Qa (Qk Hh Z (h2.one 7 Z)) Z (Qa (Qb Z) Z ?_))
       have hi4 : j < x.dones.length:=(by first | assumption | omega | (simp only [List.length_set];first | assumption | omega) | (simp only [List.getElem_set_self,List.length_set];first | assumption | omega) | (simp only [Y3,Yj,List.length_set];first | assumption | omega) | (simp;done))
       refine Qa (Q5 (i:=j) H1 Z Z (hd9.rd.ext E) hi4) Z (Qa (Q7 Tf Z) Z (Qa (Qk Xi Z (((hd9.rd.ext E).get hi4).one 0 Z)) Z (Qa (Qf Um Z) Z (Qa (Qk Hh Z (h2.one 7 Z)) Z (Qa (Qb Z) Z (Qa (Q5 (i:=i) H1 Z Z (hd9.rd.ext E) hi3) Z (Qa (Q7 Tf Z) Z (Qa (Qk Xi Z (((hd9.rd.ext E).get hi3).one 0 Z)) Z (Qa (Y9 Z Z) Z (Qd (Qt Z (fun hc9=>?_) (fun hc9=>?_))))))))))))
       ·refine Qh (Qi [true] Z Z (Qa (Qe Z) Z (Qd (Qx (Q0 (Yy (Q0 (Q0 (Yy (Q0 (Qu Z Z E ?_)))))))))))
        exact bf fun h=>by simp only [Yv,Bool.and_eq_true] at h;obtain ⟨⟨⟨⟨⟨⟨⟨⟨⟨q1,q2⟩,q3⟩,q4⟩,q5⟩,q6⟩,q7⟩,q8⟩,q9⟩,q10⟩:=h;have:=V9 (j:=i) q10 (by omega);exact done_n this (by omega) (by assumption)
       ·refine Qy (Q4 (Yn (Qi [true,true,true] Z Z (Qa (Qb Z) Z (Qa (Yu Z Z (Yw hc8n (by first | assumption | (unfold maxLen;omega)))) Z (Qa (Qe Z) Z (Qd (Q4 (Yg (j + 1) (by omega) ⟨Z,Z,Z,Z,trivial⟩ ⟨E,(by omega),h1,h2,(by omega),Hp hJ (by omega) (by assumption)⟩)))))))))
      ·have hc8n : ¬ j < i:=by first | (have h:=of_decide_eq_false hc8;omega) | (have h:=hc8;simp at h;omega)
       refine Y5 (Yc (Q8 ?_))
       refine Q4 (Yn (Qi [true,true,true] Z Z (Qa (Qb Z) Z (Qa (Yu Z Z (Yw hc6n (hd9.ext E).1.1)) Z (Qa (Qe Z) Z (Qd (Q4 (Yg (i + 1) (by omega) ⟨Z,Z,Z,trivial⟩ ⟨E,(by omega),h1,h2,(by omega),(Av hI3 (done_s (h1:=hi3) (by assumption) hJ (by omega)))⟩))))))))
    ·have hc6n : ¬ i < x.dones.length:=by first | (have h:=of_decide_eq_false hc6;omega) | (have h:=hc6;simp at h;omega)
     refine Y5 (Yc (Q8 ?_))
     refine Qh (Qi [true] Z Z (Qa (Qe Z) Z (Qd (Qx (Qu Z Z E ?_)))))
     exact wk_yes2 hc1 (T1 hI1 (by omega)) (all_end hI2 (by have:=wk_len hc1;omega)) (T1 hI3 (by omega))

set_option maxRecDepth 20000 in
theorem s_NodeOf (cg : List Value) (g : Graph) (op : Int) (w : World) (hg : Dat.R w 0 w.heap.size cg g) (hb : Uq g ≤ 1048576) : Ct Tryz.prog 113 [.agg cg.toArray,.int .i64 op] w (fun v w'=>∃ c0,v = .tuple [.agg c0.toArray,.bool ((Qj g op).2)].toArray ∧ Own1.O w' w.heap.size w'.heap.size c0 ((Qj g op).1)):=by
 refine Yp Tryz.func113 Z Tryz.ntmps113 Z ?_
 obtain ⟨o1,rfl,hd1⟩:=Graph.op hg
 refine Yb [(0,.agg [o1,.int .i64 g.workers,.int .i64 g.cap].toArray),(1,.int .i64 op)] ⟨Z,Z,trivial⟩ ?_
 have E : Ext w w:=Ext.refl w
 refine Qh (Qi [false,false,true] Z Z (Xb Z Z (fun b1 w1 e1 s1 h1=>?_)))
 have g_b1 : w.heap.size ≤ b1:=by have:=E.size;omega
 have y_b1:=h1.lt
 replace E:=E.trans e1
 have z1:=e1.size
 refine Yd K9 Z (fun b2 w2 e2 s2 h2=>?_)
 have g_b2 : w.heap.size ≤ b2:=by have:=E.size;omega
 have y_b2:=h2.lt
 replace E:=E.trans e2;replace h1:=h1.ext e2
 have z2:=e2.size
 refine Qa (Qe Z) Z (Qd (Qh (Qh (Qi [true,true,true,true,true,false,true] Z Z (Qa (Qb Z) Z (Qa (Qf Uj Z) Z (Qa (Qk G8 Z (h1.one 0 Z)) Z (Qa (Ye Tryz.underlying24 Z (hd1.ext E).len) Z (Qa (Gh Z Z Z) Z (Qw Tryz.call32 Z (s_l01In op 0 (IntKind.i64.wrap (((g.nodes.length : Nat) : Int) - 1)) _ ) Z (fun _ w3 e3 hv=>?_)))))))))))
 subst hv
 replace E:=E.trans e3;replace h1:=h1.ext e3;replace h2:=h2.ext e3
 have z3:=e3.size
 refine Qa (Xn Z) Z (Qd (Qt Z (fun hc1=>?_) (fun hc1=>?_)))
 ·rw [isN_w hd1.1.1] at hc1
  refine Qh (Qi [true,false,true] Z Z ?_)
  have hbl1 : ∀ w,(Instr.build 91 ([]).toArray).run Tryz.prog w = .ok (.agg [.int .i64 0,.int .i64 0,.int .i64 0,.slice none 0 0].toArray) w:=by clear E;intro w;kernel_rfl
  refine Qa (Ko [.int .i64 0,.int .i64 0,.int .i64 0,.slice none 0 0] Z hbl1) Z (Qs (cs':=[.int .i64 0,.int .i64 0,.int .i64 0,.slice none 0 0]) K9 Z Z Z Z h2 (Nat.le_of_ble_eq_true Z) Z (fun w4 m1 h2'=>?_))
  replace h2:=h2'
  replace E:=E.step m1 (fun g hg=>by cases hg;omega);replace h1:=h1.mod m1 (fun g hg=>by cases hg;omega)
  have z4:=m1.size
  refine Qa (Qe Z) Z (Qd (Qx (Y1 (l:=[.cell 4 91,.tmp 5]) (vs:=[.agg [.int .i64 0,.int .i64 0,.int .i64 0,.slice none 0 0].toArray,.bool false]) Z ⟨.cell Z (Qv K9 h2.at Z),.tmp Z,trivial⟩ Z E ?_)))
  rw [nodeOf_no (by simpa [Xw] using hc1)]
  exact ⟨_,Z,(Node.mkO (⟨0,0,0,[]⟩ : Node) ⟨trivial,trivial⟩ (Own.nil _ _ _ _))⟩
 ·rw [isN_w hd1.1.1] at hc1
  have hop:=Vt (by simpa [Xw] using hc1)
  refine Qy (Qh (Qi [true,true,true,true,true,false,false] Z Z (Qa (Qf Uj Z) Z (Qa (Qk G8 Z (h1.one 0 Z)) Z (Qa (Qb Z) Z ?_)))))
  have hi1 : (Int.toNat op) < g.nodes.length:=(by first | assumption | omega | (simp only [List.length_set];first | assumption | omega) | (simp only [List.getElem_set_self,List.length_set];first | assumption | omega) | (simp only [Y3,Yj,List.length_set];first | assumption | omega) | (simp;done))
  obtain ⟨_,hr1,ha1⟩:=RdD.get hd1 hi1
  obtain ⟨o2,rfl,hd2⟩:=Node.op hr1
  replace ha1 : At w (Kk o1) (Ue o1 + (Int.toNat op) * 4) [.int .i64 ((g.nodes[(Int.toNat op)]'hi1).kind),.int .i64 ((g.nodes[(Int.toNat op)]'hi1).a),.int .i64 ((g.nodes[(Int.toNat op)]'hi1).b),o2]:=ha1
  refine Qa (Gr (i:=(Int.toNat op)) A3 Z Z (hd1.ext E).1 (by omega) hi1) Z (Qa (Ql K9 Z (ha1.ext E) Z) Z (Yd K9 Z (fun b3 w5 e4 s3 h3=>?_)))
  have g_b3 : w.heap.size ≤ b3:=by have:=E.size;omega
  have y_b3:=h3.lt
  replace E:=E.trans e4;replace h1:=h1.ext e4;replace h2:=h2.ext e4
  have z5:=e4.size
  refine Qs (cs':=[.int .i64 ((g.nodes[(Int.toNat op)]'hi1).kind),.int .i64 ((g.nodes[(Int.toNat op)]'hi1).a),.int .i64 ((g.nodes[(Int.toNat op)]'hi1).b),o2]) K9 Z Z Z (Qg Z (Qg Z (Qg Z (Qg (RdD.one (hd2.ext E)) Z)))) h3 (Nat.le_of_ble_eq_true Z) Z (fun w6 m2 h3'=>?_)
  replace h3:=h3'
  replace E:=E.step m2 (fun g hg=>by cases hg;omega);replace h1:=h1.mod m2 (fun g hg=>by cases hg;omega);replace h2:=h2.mod m2 (fun g hg=>by cases hg;omega)
  have z6:=m2.size
  refine Qd (Qh (Qi [false,true,true,false,true,false] Z Z (Qz (vs:=[]) (css:=[]) Kd Z Z trivial Z Z (fun b4 w7 e5 s4 h4=>?_))))
  replace h4 : Blk w7 b4 []:=h4
  have g_b4 : w.heap.size ≤ b4:=by have:=E.size;omega
  have y_b4:=h4.lt
  replace E:=E.trans e5;replace h1:=h1.ext e5;replace h2:=h2.ext e5;replace h3:=h3.ext e5
  have z7:=e5.size
  refine Qa (Qf Ky Z) Z (Qa (Qk Uc Z (h3.one 3 Z)) Z (Xo Kd Z Z (Own.ofBlk (lo:=b4) (hi:=b4 + 1) (sz:=1) h4 (Nat.le_refl _) (Nat.lt_succ_self _) (by simp) (by simp [maxLen])) (RdS.src (hd2.rd.ext E)) (Xm _) (by have h:=outs_le hb (List.getElem_mem (l:=g.nodes) (n:=Int.toNat op) (by omega));rw [Ya];simp only [List.length_nil,show Enc.sz Int = 1 from Z];omega) (by decide) (by omega) (by omega) Z Z (fun v1 w8 m3 ho1=>?_)))
  replace E:=E.step m3 (fun g hg=>by have:=Own.blk (Own.ofBlk (lo:=b4) (hi:=b4 + 1) (sz:=1) h4 (Nat.le_refl _) (Nat.lt_succ_self _) (by simp) (by simp [maxLen])) g hg;omega);replace h1:=h1.mod m3 (fun g hg=>by have:=Own.blk (Own.ofBlk (lo:=b4) (hi:=b4 + 1) (sz:=1) h4 (Nat.le_refl _) (Nat.lt_succ_self _) (by simp) (by simp [maxLen])) g hg;omega);replace h2:=h2.mod m3 (fun g hg=>by have:=Own.blk (Own.ofBlk (lo:=b4) (hi:=b4 + 1) (sz:=1) h4 (Nat.le_refl _) (Nat.lt_succ_self _) (by simp) (by simp [maxLen])) g hg;omega);replace h3:=h3.mod m3 (fun g hg=>by have:=Own.blk (Own.ofBlk (lo:=b4) (hi:=b4 + 1) (sz:=1) h4 (Nat.le_refl _) (Nat.lt_succ_self _) (by simp) (by simp [maxLen])) g hg;omega)
  have z8:=m3.size
  refine Qa (Qf Ky Z) Z (Xf (cs':=[.int .i64 ((g.nodes[(Int.toNat op)]'hi1).kind),.int .i64 ((g.nodes[(Int.toNat op)]'hi1).a),.int .i64 ((g.nodes[(Int.toNat op)]'hi1).b),v1]) Uc Z Z ho1.one h3 (Nat.le_of_ble_eq_true Z) Z (fun w9 m4 h3'=>?_))
  replace h3:=h3'
  replace E:=E.step m4 (fun g hg=>by cases hg;omega);replace h1:=h1.mod m4 (fun g hg=>by cases hg;omega);replace h2:=h2.mod m4 (fun g hg=>by cases hg;omega);replace ho1:=ho1.mod m4 (fun g hg=>by cases hg;omega)
  have z9:=m4.size
  refine Qd (Qh (Qi [true,false,true] Z Z (Qa (Ql K9 Z h3.at Z) Z (Qs (cs':=[.int .i64 ((g.nodes[(Int.toNat op)]'hi1).kind),.int .i64 ((g.nodes[(Int.toNat op)]'hi1).a),.int .i64 ((g.nodes[(Int.toNat op)]'hi1).b),v1]) K9 Z Z Z (Qg Z (Qg Z (Qg Z (Qg ho1.one Z)))) h2 (Nat.le_of_ble_eq_true Z) Z (fun w10 m5 h2'=>?_)))))
  replace h2:=h2'
  replace E:=E.step m5 (fun g hg=>by cases hg;omega);replace h1:=h1.mod m5 (fun g hg=>by cases hg;omega);replace h3:=h3.mod m5 (fun g hg=>by cases hg;omega);replace ho1:=ho1.mod m5 (fun g hg=>by cases hg;omega)
  have z10:=m5.size
  refine Qa (Qe Z) Z (Qd (Qx (Y1 (l:=[.cell 4 91,.tmp 5]) (vs:=[.agg [.int .i64 ((g.nodes[(Int.toNat op)]'hi1).kind),.int .i64 ((g.nodes[(Int.toNat op)]'hi1).a),.int .i64 ((g.nodes[(Int.toNat op)]'hi1).b),v1].toArray,.bool true]) Z ⟨.cell Z (Qv K9 h2.at Z),.tmp Z,trivial⟩ Z E ?_)))
  rw [nodeOf_yes (by assumption) ]
  exact ⟨_,Z,(Node.mkO (⟨(g.nodes[(Int.toNat op)]'hi1).kind,(g.nodes[(Int.toNat op)]'hi1).a,(g.nodes[(Int.toNat op)]'hi1).b,[] ++ ((g.nodes[(Int.toNat op)]'hi1).outs)⟩ : Node) ⟨trivial,trivial⟩ (Own.widen ho1 (by omega) (by omega)))⟩

set_option maxRecDepth 20000 in
theorem s_Capped (cg : List Value) (g : Graph) (r : Record) (w : World) (hg : Dat.R w 0 w.heap.size cg g) (hb : Uq g ≤ 1048576) : Ct Tryz.prog 100 [.agg cg.toArray,.agg (Enc.enc r).toArray] w (fun v _=>v = .bool (G4 g r)):=by
 refine Yp Tryz.func100 Z Tryz.ntmps100 Z ?_
 obtain ⟨o1,rfl,hd1⟩:=Graph.op hg
 refine Yb [(0,.agg [o1,.int .i64 g.workers,.int .i64 g.cap].toArray),(1,.agg (Enc.enc r).toArray)] ⟨Z,Z,trivial⟩ ?_
 have E : Ext w w:=Ext.refl w
 refine Qh (Qi [false,false,true] Z Z (Xb Z Z (fun b1 w1 e1 s1 h1=>?_)))
 have g_b1 : w.heap.size ≤ b1:=by have:=E.size;omega
 have y_b1:=h1.lt
 replace E:=E.trans e1
 have z1:=e1.size
 refine Xb Z Z (fun b2 w2 e2 s2 h2=>?_)
 have g_b2 : w.heap.size ≤ b2:=by have:=E.size;omega
 have y_b2:=h2.lt
 replace E:=E.trans e2;replace h1:=h1.ext e2
 have z2:=e2.size
 refine Qa (Qe Z) Z (Qd (Qh (Qi [true,true,true,false,true,true,true,false,false,true] Z Z (Qa (Ql Xz Z h1.at Z) Z (Qa (Qf Ve Z) Z (Qa (Qk Xi Z (h2.one 0 Z)) Z (Qw Tryz.call113 Z (s_NodeOf [o1,.int .i64 g.workers,.int .i64 g.cap] g r.op _ (Graph.mkR g (RdD.any (hd1.ext E))) (by first | omega | (simp only [Q1];omega) | (rw [Q1];done) | (simp only [Q1];done))) Z (fun _ w3 e3 ho1=>?_))))))))
 obtain ⟨_,rfl,ho2⟩:=ho1
 have g_ho1 : w.heap.size ≤ w2.heap.size:=E.size
 replace E:=E.trans e3;replace h1:=h1.ext e3;replace h2:=h2.ext e3
 have z3:=e3.size
 obtain ⟨o2,rfl,sp1,hw1⟩:=Node.opO ho2
 refine Qa (Qb Z) Z (Qa (Ym Z Z) Z (Qa (Ym Z Z) Z (Yd K9 Z (fun b3 w4 e4 s3 h3=>?_))))
 have g_b3 : w.heap.size ≤ b3:=by have:=E.size;omega
 have y_b3:=h3.lt
 replace E:=E.trans e4;replace h1:=h1.ext e4;replace h2:=h2.ext e4;replace hw1:=hw1.ext e4
 have z4:=e4.size
 refine Qs (cs':=[.int .i64 (((Qj g r.op).1).kind),.int .i64 (((Qj g r.op).1).a),.int .i64 (((Qj g r.op).1).b),o2]) K9 Z Z Z (Qg Z (Qg Z (Qg Z (Qg hw1.one Z)))) h3 (Nat.le_of_ble_eq_true Z) Z (fun w5 m1 h3'=>?_)
 replace h3:=h3'
 replace E:=E.step m1 (fun g hg=>by cases hg;omega);replace h1:=h1.mod m1 (fun g hg=>by cases hg;omega);replace h2:=h2.mod m1 (fun g hg=>by cases hg;omega);replace hw1:=hw1.mod m1 (fun g hg=>by cases hg;omega)
 have z5:=m1.size
 refine Qa (Qe Z) Z (Qd (Qh (Qi [true,true,false,true,true,true,false,false,true] Z Z (Qa (Qf X4 Z) Z (Qa (Ql Xs Z (h2.part 1 [.int .i64 r.stamp.epoch,.int .i64 r.stamp.turn] Z) Z) Z (Qw Tryz.call117 Z (s_NextTurn r.stamp _ ) Z (fun _ w6 e5 hv=>?_)))))))
 subst hv
 replace E:=E.trans e5;replace h1:=h1.ext e5;replace h2:=h2.ext e5;replace hw1:=hw1.ext e5;replace h3:=h3.ext e5
 have z6:=e5.size
 refine Qa (Qb Z) Z (Qa (Ym Z Z) Z (Qa (Ym Z Z) Z (Yd Xs Z (fun b4 w7 e6 s4 h4=>?_))))
 have g_b4 : w.heap.size ≤ b4:=by have:=E.size;omega
 have y_b4:=h4.lt
 replace E:=E.trans e6;replace h1:=h1.ext e6;replace h2:=h2.ext e6;replace hw1:=hw1.ext e6;replace h3:=h3.ext e6
 have z7:=e6.size
 refine Qs (cs':=[.int .i64 (((Y8 r.stamp).1).epoch),.int .i64 (((Y8 r.stamp).1).turn)]) Xs Z Z Z Z h4 (Nat.le_of_ble_eq_true Z) Z (fun w8 m2 h4'=>?_)
 replace h4:=h4'
 replace E:=E.step m2 (fun g hg=>by cases hg;omega);replace h1:=h1.mod m2 (fun g hg=>by cases hg;omega);replace h2:=h2.mod m2 (fun g hg=>by cases hg;omega);replace hw1:=hw1.mod m2 (fun g hg=>by cases hg;omega);replace h3:=h3.mod m2 (fun g hg=>by cases hg;omega)
 have z8:=m2.size
 refine Qa (Qe Z) Z (Qd (Qh (Qi [true,true,true,false,true,true,true,false,true,true,true,true,true,true,true,true,true,true,true,true,true,true,true,true,true] Z Z (Qa (Qb Z) Z (Qa (Qb Z) Z (Xr 22 [(0,.agg [o1,.int .i64 g.workers,.int .i64 g.cap].toArray),(1,.agg (Enc.enc r).toArray),(2,.pointer (some ⟨b1,0,none⟩)),(3,.pointer (some ⟨b2,0,none⟩)),(4,.bool false),(5,.pointer (some ⟨b3,0,none⟩)),(6,.bool ((Qj g r.op).2)),(7,.pointer (some ⟨b4,0,none⟩)),(8,.bool ((Y8 r.stamp).2)),(9,.tuple [.agg [.int .i64 (((Qj g r.op).1).kind),.int .i64 (((Qj g r.op).1).a),.int .i64 (((Qj g r.op).1).b),o2].toArray,.bool ((Qj g r.op).2)].toArray),(10,.agg [o1,.int .i64 g.workers,.int .i64 g.cap].toArray),(11,.pointer (some ⟨b2,0,none⟩)),(12,.int .i64 r.op),(13,.tuple [.agg [.int .i64 (((Qj g r.op).1).kind),.int .i64 (((Qj g r.op).1).a),.int .i64 (((Qj g r.op).1).b),o2].toArray,.bool ((Qj g r.op).2)].toArray),(14,.agg [.int .i64 (((Qj g r.op).1).kind),.int .i64 (((Qj g r.op).1).a),.int .i64 (((Qj g r.op).1).b),o2].toArray),(15,.bool ((Qj g r.op).2)),(16,.tuple [.agg (Enc.enc ((Y8 r.stamp).1)).toArray,.bool ((Y8 r.stamp).2)].toArray),(17,.pointer (some ⟨b2,1,none⟩)),(18,.agg (Enc.enc r.stamp).toArray),(19,.tuple [.agg (Enc.enc ((Y8 r.stamp).1)).toArray,.bool ((Y8 r.stamp).2)].toArray),(20,.agg (Enc.enc ((Y8 r.stamp).1)).toArray),(21,.bool ((Y8 r.stamp).2)),(45,.bool (((((((Qj g r.op).2) && (Yr g)) && (Yx r)) && ((((Qj g r.op).1).kind) == 7)) && (decide (0 < (((((Qj g r.op).1).outs).length : Nat) : Int)))) && (!((Y8 r.stamp).2))))] (fun w'=>Ext w w' ∧ w8.heap.size ≤ w'.heap.size ∧ Blk w' b1 ([o1,.int .i64 g.workers,.int .i64 g.cap]) ∧ Blk w' b2 (Enc.enc r) ∧ Own w' w2.heap.size w3.heap.size 1 o2 (List.flatMap (Enc.enc (α:=Int)) (((Qj g r.op).1).outs)) ∧ Blk w' b3 [.int .i64 (((Qj g r.op).1).kind),.int .i64 (((Qj g r.op).1).a),.int .i64 (((Qj g r.op).1).b),o2] ∧ Blk w' b4 [.int .i64 (((Y8 r.stamp).1).epoch),.int .i64 (((Y8 r.stamp).1).turn)]) ?_ ?_))))))
 ·refine Yz (gd:=23) Z Z (fun hg1=>?_) (fun hg1=>?_)
  ·refine Qm Z Z (Ql Xz Z h1.at Z) Z ?_
   refine Xa Z Z ?_
   refine Qw Tryz.call97 Z (s_GraphOk [o1,.int .i64 g.workers,.int .i64 g.cap] g _ (Graph.mkR g (RdD.any (hd1.ext E)))) Z (fun _ w10 e7 hv=>?_)
   subst hv
   replace E:=E.trans e7;replace h1:=h1.ext e7;replace h2:=h2.ext e7;replace hw1:=hw1.ext e7;replace h3:=h3.ext e7;replace h4:=h4.ext e7
   have z9:=e7.size
   refine Qa (Qr Z Z) Z (Qa (Qb Z) Z (Yz (gd:=27) Z Z (fun hg2=>?_) (fun hg2=>?_)))
   ·refine Qm Z Z (Ql Xq Z h2.at Z) Z ?_
    refine Xa Z Z ?_
    refine Qw Tryz.call61 Z (s_RecordOk r _ ) Z (fun _ w11 e8 hv=>?_)
    subst hv
    replace E:=E.trans e8;replace h1:=h1.ext e8;replace h2:=h2.ext e8;replace hw1:=hw1.ext e8;replace h3:=h3.ext e8;replace h4:=h4.ext e8
    have z10:=e8.size
    refine Qa (Qr Z Z) Z (Qa (Qb Z) Z (Yz (gd:=31) Z Z (fun hg3=>?_) (fun hg3=>?_)))
    ·refine Qm Z Z (Qf Uw Z) Z (Qm Z Z (Qk Xi Z (h3.one 0 Z)) Z (Qm Z Z (Y9 Z Z) Z (Qa (Qr Z Z) Z (Qa (Qb Z) Z ?_))))
     refine Yz (gd:=36) Z Z (fun hg4=>?_) (fun hg4=>?_)
     ·refine Qm Z Z (Qf Ky Z) Z (Qm Z Z (Qk Uc Z (h3.one 3 Z)) Z (Qm Z Z (Ye Tryz.underlying29 Z (Own.len (by decide) hw1)) Z (Qm Z Z (U1 Z Z) Z (Qa (Qr Z Z) Z (Qa (Qb Z) Z ?_)))))
      refine Yz (gd:=42) Z Z (fun hg5=>?_) (fun hg5=>?_)
      ·have hg5n : (((Qj g r.op).1).outs).length > 0:=by first | (have h:=of_decide_eq_true hg5;omega) | (have h:=hg5;simp at h;omega)
       refine Qm Z Z (Qb Z) Z (Qm Z Z (Xn Z) Z (Qa (Qr Z Z) Z (Qn ⟨Z,Z,Z,Z,Z,Z,Z,Z,Z,Z,Z,Z,Z,Z,Z,Z,Z,Z,Z,Z,Z,Z,congrArg (fun b=>some (Value.bool b)) (show (!((Y8 r.stamp).2)) = (((((((Qj g r.op).2) && (Yr g)) && (Yx r)) && ((((Qj g r.op).1).kind) == 7)) && (decide (0 < (((((Qj g r.op).1).outs).length : Nat) : Int)))) && (!((Y8 r.stamp).2))) by first | (rw [hg1,hg2,hg3,hg4,hg5] <;> rfl) | (simp [hg1,hg2,hg3,hg4,hg5];done) | (simp only [Qq] <;> simp)),trivial⟩ ⟨E,(by omega),h1,h2,hw1,h3,h4⟩)))
      ·have hg5n : ¬ (((Qj g r.op).1).outs).length > 0:=by first | (have h:=of_decide_eq_false hg5;omega) | (have h:=hg5;simp at h;omega)
       refine Qc Z Z Z Z (Qc Z Z Z Z (Qa (Qp Z Z) Z (Qn ⟨Z,Z,Z,Z,Z,Z,Z,Z,Z,Z,Z,Z,Z,Z,Z,Z,Z,Z,Z,Z,Z,Z,congrArg (fun b=>some (Value.bool b)) (show false = (((((((Qj g r.op).2) && (Yr g)) && (Yx r)) && ((((Qj g r.op).1).kind) == 7)) && (decide (0 < (((((Qj g r.op).1).outs).length : Nat) : Int)))) && (!((Y8 r.stamp).2))) by first | (rw [hg1,hg2,hg3,hg4,hg5] <;> rfl) | (simp [hg1,hg2,hg3,hg4,hg5];done) | (simp only [Qq] <;> simp)),trivial⟩ ⟨E,(by omega),h1,h2,hw1,h3,h4⟩)))
     ·refine Qc Z Z Z Z (Qc Z Z Z Z (Qc Z Z Z Z (Qc Z Z Z Z (Qa (Qp Z Z) Z (Qa (Qb Z) Z (Qc Z Z Z Z (Qc Z Z Z Z (Qa (Qp Z Z) Z (Qn ⟨Z,Z,Z,Z,Z,Z,Z,Z,Z,Z,Z,Z,Z,Z,Z,Z,Z,Z,Z,Z,Z,Z,congrArg (fun b=>some (Value.bool b)) (show false = (((((((Qj g r.op).2) && (Yr g)) && (Yx r)) && ((((Qj g r.op).1).kind) == 7)) && (decide (0 < (((((Qj g r.op).1).outs).length : Nat) : Int)))) && (!((Y8 r.stamp).2))) by first | (rw [hg1,hg2,hg3,hg4] <;> rfl) | (simp [hg1,hg2,hg3,hg4];done) | (simp only [Qq] <;> simp)),trivial⟩ ⟨E,(by omega),h1,h2,hw1,h3,h4⟩)))))))))
    ·refine Qc Z Z Z Z (Qc Z Z Z Z (Qc Z Z Z Z (Qa (Qp Z Z) Z (Qa (Qb Z) Z (Qc Z Z Z Z (Qc Z Z Z Z (Qc Z Z Z Z (Qc Z Z Z Z (Qa (Qp Z Z) Z (Qa (Qb Z) Z (Qc Z Z Z Z (Qc Z Z Z Z (Qa (Qp Z Z) Z (Qn ⟨Z,Z,Z,Z,Z,Z,Z,Z,Z,Z,Z,Z,Z,Z,Z,Z,Z,Z,Z,Z,Z,Z,congrArg (fun b=>some (Value.bool b)) (show false = (((((((Qj g r.op).2) && (Yr g)) && (Yx r)) && ((((Qj g r.op).1).kind) == 7)) && (decide (0 < (((((Qj g r.op).1).outs).length : Nat) : Int)))) && (!((Y8 r.stamp).2))) by first | (rw [hg1,hg2,hg3] <;> rfl) | (simp [hg1,hg2,hg3];done) | (simp only [Qq] <;> simp)),trivial⟩ ⟨E,(by omega),h1,h2,hw1,h3,h4⟩))))))))))))))
   ·refine Qc Z Z Z Z ?_
    refine Q3 Z Z Z Z ?_
    refine Qa (Qp Z Z) Z (Qa (Qb Z) Z (Qc Z Z Z Z (Qc Z Z Z Z (Qc Z Z Z Z (Qa (Qp Z Z) Z (Qa (Qb Z) Z (Qc Z Z Z Z (Qc Z Z Z Z (Qc Z Z Z Z (Qc Z Z Z Z (Qa (Qp Z Z) Z (Qa (Qb Z) Z (Qc Z Z Z Z (Qc Z Z Z Z (Qa (Qp Z Z) Z (Qn ⟨Z,Z,Z,Z,Z,Z,Z,Z,Z,Z,Z,Z,Z,Z,Z,Z,Z,Z,Z,Z,Z,Z,congrArg (fun b=>some (Value.bool b)) (show false = (((((((Qj g r.op).2) && (Yr g)) && (Yx r)) && ((((Qj g r.op).1).kind) == 7)) && (decide (0 < (((((Qj g r.op).1).outs).length : Nat) : Int)))) && (!((Y8 r.stamp).2))) by first | (rw [hg1,hg2] <;> rfl) | (simp [hg1,hg2];done) | (simp only [Qq] <;> simp)),trivial⟩ ⟨E,(by omega),h1,h2,hw1,h3,h4⟩))))))))))))))))
  ·refine Qc Z Z Z Z ?_
   refine Q3 Z Z Z Z ?_
   refine Qa (Qp Z Z) Z (Qa (Qb Z) Z (Qc Z Z Z Z (Q3 Z Z Z Z (Qa (Qp Z Z) Z (Qa (Qb Z) Z (Qc Z Z Z Z (Qc Z Z Z Z (Qc Z Z Z Z (Qa (Qp Z Z) Z (Qa (Qb Z) Z (Qc Z Z Z Z (Qc Z Z Z Z (Qc Z Z Z Z (Qc Z Z Z Z (Qa (Qp Z Z) Z (Qa (Qb Z) Z (Qc Z Z Z Z (Qc Z Z Z Z (Qa (Qp Z Z) Z (Qn ⟨Z,Z,Z,Z,Z,Z,Z,Z,Z,Z,Z,Z,Z,Z,Z,Z,Z,Z,Z,Z,Z,Z,congrArg (fun b=>some (Value.bool b)) (show false = (((((((Qj g r.op).2) && (Yr g)) && (Yx r)) && ((((Qj g r.op).1).kind) == 7)) && (decide (0 < (((((Qj g r.op).1).outs).length : Nat) : Int)))) && (!((Y8 r.stamp).2))) by first | (rw [hg1] <;> rfl) | (simp [hg1];done) | (simp only [Qq] <;> simp)),trivial⟩ ⟨E,(by omega),h1,h2,hw1,h3,h4⟩))))))))))))))))))))
 clear E h1 h2 hw1 h3 h4
 rintro w9 ⟨E,z11,h1,h2,hw1,h3,h4⟩
 refine Qa (Qe Z) Z (Qd (Qx (Qu Z Z E ?_)))
 rfl

set_option maxRecDepth 20000 in
theorem c_copyRecords (vxs : Value) (xs : List Record) (w : World) (hxs : RdS w vxs xs) (hb : xs.length ≤ 4194304) : Ct Tryz.prog 34 [vxs] w (fun v w'=>Own w' w.heap.size w'.heap.size 5 v (List.flatMap (Enc.enc (α:=Record)) xs)):=by
 refine Yp Tryz.func34 Z Tryz.ntmps34 Z ?_
 refine Yb [(0,vxs)] ⟨Z,trivial⟩ ?_
 have E : Ext w w:=Ext.refl w
 refine Qh (Qi [true] Z Z (Qa (Qe Z) Z (Qd (Qh (Qi [true,false,true] Z Z (Qa (Qb Z) Z (Xo Xp Z Z (Own.nil w w.heap.size w.heap.size 5) (RdS.src (hxs.ext E)) (Xm _) (by simp only [Ya,List.length_nil];simp only [Enc.sz];omega) (by decide) (by omega) (by omega) Z Z (fun v1 w1 m1 ho1=>?_))))))))
 replace E:=E.step m1 (fun g hg=>by have:=Own.blk (Own.nil w w.heap.size w.heap.size 5) g hg;omega)
 have z1:=m1.size
 refine Qa (Qe Z) Z (Qd (Qx (Qu Z Z E ?_)))
 exact Own.fin ho1 (by have:=E.size;omega) (by omega) (by simp [*])

set_option maxHeartbeats 4000000 in
set_option maxRecDepth 20000 in
theorem s_l12Copy (cx : List Value) (x : Worker) (w : World) (hx : Dat.R w 0 w.heap.size cx x) (hb : Q6 x ≤ 1048576) : Ct Tryz.prog 41 [.agg cx.toArray] w (fun v w'=>∃ cs,v = .agg cs.toArray ∧ Own1.O w' w.heap.size w'.heap.size cs x):=by
 unfold Q6 at hb
 refine Yp Tryz.func41 Z Tryz.ntmps41 Z ?_
 obtain ⟨o1,o2,o3,o4,o5,o6,o7,o8,rfl,hd1,hd2,hd3,hd4,hd5,hd6,hd7,hd8⟩:=Worker.op hx
 refine Yb [(0,.agg [o1,o2,o3,o4,o5,o6,o7,o8].toArray)] ⟨Z,trivial⟩ ?_
 have E : Ext w w:=Ext.refl w
 refine Qh (Qi [false,false] Z Z (Xb Z Z (fun b1 w1 e1 s1 h1=>?_)))
 have g_b1 : w.heap.size ≤ b1:=by have:=E.size;omega
 have y_b1:=h1.lt
 replace E:=E.trans e1
 have z1:=e1.size
 refine Yd Yh Z (fun b2 w2 e2 s2 h2=>?_)
 have g_b2 : w.heap.size ≤ b2:=by have:=E.size;omega
 have y_b2:=h2.lt
 replace E:=E.trans e2;replace h1:=h1.ext e2
 have z2:=e2.size
 refine Qd (Qh (S_regP Xd [(1,true),(2,true),(5,true),(6,true),(9,true),(10,true),(13,true),(14,true),(17,true),(18,true),(21,true),(22,true),(25,true),(26,true),(29,true),(30,true)] [⟨0,3,5,[],true,none,none⟩,⟨3,6,5,List.flatMap (Enc.enc (α:=Record)) x.queue,false,some (0,3),none⟩,⟨4,7,5,[],true,none,none⟩,⟨7,10,5,List.flatMap (Enc.enc (α:=Record)) x.staged,false,some (4,7),none⟩,⟨8,11,5,[],true,none,none⟩,⟨11,14,5,List.flatMap (Enc.enc (α:=Record)) x.inputs,false,some (8,11),none⟩,⟨12,15,4,[],true,none,none⟩,⟨15,18,4,List.flatMap (Enc.enc (α:=Cell)) x.cells,false,some (12,15),none⟩,⟨16,19,1,[],true,none,none⟩,⟨19,22,1,List.flatMap (Enc.enc (α:=Int)) x.sums,false,some (16,19),none⟩,⟨20,23,1,[],true,none,none⟩,⟨23,26,1,List.flatMap (Enc.enc (α:=Bool)) x.black,false,some (20,23),none⟩,⟨24,27,1,[],true,none,none⟩,⟨27,30,1,List.flatMap (Enc.enc (α:=Bool)) x.caps,false,some (24,27),none⟩,⟨28,31,2,[],true,none,none⟩,⟨31,34,2,List.flatMap (Enc.enc (α:=Done)) x.dones,false,some (28,31),none⟩] [(32,true),(33,false)] (by kernel_rfl) Z Z [(0,.agg [o1,o2,o3,o4,o5,o6,o7,o8].toArray),(1,.pointer (some ⟨b1,0,none⟩)),(2,.pointer (some ⟨b2,0,none⟩)),(4,.pointer (some ⟨b1,0,none⟩)),(5,o1),(8,.pointer (some ⟨b1,1,none⟩)),(9,o2),(12,.pointer (some ⟨b1,2,none⟩)),(13,o3),(16,.pointer (some ⟨b1,3,none⟩)),(17,o4),(20,.pointer (some ⟨b1,4,none⟩)),(21,o5),(24,.pointer (some ⟨b1,5,none⟩)),(25,o6),(28,.pointer (some ⟨b1,6,none⟩)),(29,o7),(32,.pointer (some ⟨b1,7,none⟩)),(33,o8)] (fun w'=>Ext w w' ∧ w2.heap.size ≤ w'.heap.size ∧ Blk w' b1 ([o1,o2,o3,o4,o5,o6,o7,o8]) ∧ Blk w' b2 [.slice none 0 0,.slice none 0 0,.slice none 0 0,.slice none 0 0,.slice none 0 0,.slice none 0 0,.slice none 0 0,.slice none 0 0]) (fun w3 e3=>?_) (fun w3 hphi_w3=>?_)))
 ·replace E:=E.trans e3;replace h1:=h1.ext e3;replace h2:=h2.ext e3
  have z3:=e3.size
  refine Qa (Qf Kf Z) Z (Qa (Qk Xv Z (h1.one 0 Z)) Z (Qa (Qf Ui Z) Z (Qa (Qk Xv Z (h1.one 1 Z)) Z (Qa (Qf X5 Z) Z (Qa (Qk Xv Z (h1.one 2 Z)) Z (Qa (Qf V5 Z) Z (Qa (Qk C9 Z (h1.one 3 Z)) Z (Qa (Qf Un Z) Z (Qa (Qk Uc Z (h1.one 4 Z)) Z (Qa (Qf V4 Z) Z (Qa (Qk Gz Z (h1.one 5 Z)) Z (Qa (Qf Hl Z) Z (Qa (Qk Gz Z (h1.one 6 Z)) Z (Qa (Qf Um Z) Z (Qa (Qk Hh Z (h1.one 7 Z)) Z (Qn ⟨Z,Z,Z,Z,Z,Z,Z,Z,Z,Z,Z,Z,Z,Z,Z,Z,Z,Z,Z,trivial⟩ ⟨E,(by omega),h1,h2⟩))))))))))))))))
 clear E h1 h2
 obtain ⟨E,z4,h1,h2⟩:=hphi_w3
 refine ⟨⟨⟨_,Z,Z,Z,Z,?_⟩,⟨_,Z,Z,Z,Z,?_⟩,⟨_,Z,Z,Z,Z,?_⟩,⟨_,Z,Z,Z,Z,?_⟩,⟨_,Z,Z,Z,Z,?_⟩,⟨_,Z,Z,Z,Z,?_⟩,⟨_,Z,Z,Z,Z,?_⟩,⟨_,Z,Z,Z,Z,?_⟩,⟨_,Z,Z,Z,Z,?_⟩,⟨_,Z,Z,Z,Z,?_⟩,⟨_,Z,Z,Z,Z,?_⟩,⟨_,Z,Z,Z,Z,?_⟩,⟨_,Z,Z,Z,Z,?_⟩,⟨_,Z,Z,Z,Z,?_⟩,⟨_,Z,Z,Z,Z,?_⟩,⟨_,Z,Z,Z,Z,?_⟩,trivial⟩,fun w4 e4=>?_⟩
 ·exact U3 Xp
 ·exact U4 Xp Z (fun _ eX=>RdS.src (RdS.ext (hd1.rd.ext E) eX)) (Xm _) (by simp only [Ya,List.length_nil];simp only [Enc.sz];omega) (by decide)
 ·exact U3 Xp
 ·exact U4 Xp Z (fun _ eX=>RdS.src (RdS.ext (hd2.rd.ext E) eX)) (Xm _) (by simp only [Ya,List.length_nil];simp only [Enc.sz];omega) (by decide)
 ·exact U3 Xp
 ·exact U4 Xp Z (fun _ eX=>RdS.src (RdS.ext (hd3.rd.ext E) eX)) (Xm _) (by simp only [Ya,List.length_nil];simp only [Enc.sz];omega) (by decide)
 ·exact U3 K3
 ·exact U4 K3 Z (fun _ eX=>RdS.src (RdS.ext (hd4.rd.ext E) eX)) (Xm _) (by simp only [Ya,List.length_nil];simp only [Enc.sz];omega) (by decide)
 ·exact U3 Kd
 ·exact U4 Kd Z (fun _ eX=>RdS.src (RdS.ext (hd5.rd.ext E) eX)) (Xm _) (by simp only [Ya,List.length_nil];simp only [Enc.sz];omega) (by decide)
 ·exact U3 H2
 ·exact U4 H2 Z (fun _ eX=>RdS.src (RdS.ext (hd6.rd.ext E) eX)) (Xm _) (by simp only [Ya,List.length_nil];simp only [Enc.sz];omega) (by decide)
 ·exact U3 H2
 ·exact U4 H2 Z (fun _ eX=>RdS.src (RdS.ext (hd7.rd.ext E) eX)) (Xm _) (by simp only [Ya,List.length_nil];simp only [Enc.sz];omega) (by decide)
 ·exact U3 H1
 ·exact U4 H1 Z (fun _ eX=>RdS.src (RdS.ext (hd8.rd.ext E) eX)) (Xm _) (by simp only [Ya,List.length_nil];simp only [Enc.sz];omega) (by decide)
 intro v1 f1 ho1 v2 f2 ho2 v3 f3 ho3 v4 f4 ho4 v5 f5 ho5 v6 f6 ho6 v7 f7 ho7 v8 f8 ho8 v9 f9 ho9 v10 f10 ho10 v11 f11 ho11 v12 f12 ho12 v13 f13 ho13 v14 f14 ho14 v15 f15 ho15 v16 f16 ho16 sp1
 obtain ⟨ho1,rfl⟩:=ho1
 obtain ⟨ho2,rfl⟩:=ho2
 obtain ⟨ho3,rfl⟩:=ho3
 obtain ⟨ho4,rfl⟩:=ho4
 obtain ⟨ho5,rfl⟩:=ho5
 obtain ⟨ho6,rfl⟩:=ho6
 obtain ⟨ho7,rfl⟩:=ho7
 obtain ⟨ho8,rfl⟩:=ho8
 obtain ⟨ho9,rfl⟩:=ho9
 obtain ⟨ho10,rfl⟩:=ho10
 obtain ⟨ho11,rfl⟩:=ho11
 obtain ⟨ho12,rfl⟩:=ho12
 obtain ⟨ho13,rfl⟩:=ho13
 obtain ⟨ho14,rfl⟩:=ho14
 obtain ⟨ho15,rfl⟩:=ho15
 obtain ⟨ho16,rfl⟩:=ho16
 replace sp1 : SepL [v2,v4,v6,v8,v10,v12,v14,v16]:=DjL.toSep (vs:=[v2,v4,v6,v8,v10,v12,v14,v16]) sp1
 have g_sp1 : w.heap.size ≤ w3.heap.size:=E.size
 replace E:=E.trans e4;replace h1:=h1.ext e4;replace h2:=h2.ext e4
 have z5:=e4.size
 clear ho1
 replace ho2 : Own w4 w3.heap.size w4.heap.size 5 v2 (List.flatMap (Enc.enc (α:=Record)) x.queue):=ho2
 clear ho3
 replace ho4 : Own w4 w3.heap.size w4.heap.size 5 v4 (List.flatMap (Enc.enc (α:=Record)) x.staged):=ho4
 clear ho5
 replace ho6 : Own w4 w3.heap.size w4.heap.size 5 v6 (List.flatMap (Enc.enc (α:=Record)) x.inputs):=ho6
 clear ho7
 replace ho8 : Own w4 w3.heap.size w4.heap.size 4 v8 (List.flatMap (Enc.enc (α:=Cell)) x.cells):=ho8
 clear ho9
 replace ho10 : Own w4 w3.heap.size w4.heap.size 1 v10 (List.flatMap (Enc.enc (α:=Int)) x.sums):=ho10
 clear ho11
 replace ho12 : Own w4 w3.heap.size w4.heap.size 1 v12 (List.flatMap (Enc.enc (α:=Bool)) x.black):=ho12
 clear ho13
 replace ho14 : Own w4 w3.heap.size w4.heap.size 1 v14 (List.flatMap (Enc.enc (α:=Bool)) x.caps):=ho14
 clear ho15
 replace ho16 : Own w4 w3.heap.size w4.heap.size 2 v16 (List.flatMap (Enc.enc (α:=Done)) x.dones):=ho16
 refine J_sub [(0,.agg [o1,o2,o3,o4,o5,o6,o7,o8].toArray),(1,.pointer (some ⟨b1,0,none⟩)),(2,.pointer (some ⟨b2,0,none⟩)),(4,.pointer (some ⟨b1,0,none⟩)),(5,o1),(6,v2),(8,.pointer (some ⟨b1,1,none⟩)),(9,o2),(10,v4),(12,.pointer (some ⟨b1,2,none⟩)),(13,o3),(14,v6),(16,.pointer (some ⟨b1,3,none⟩)),(17,o4),(18,v8),(20,.pointer (some ⟨b1,4,none⟩)),(21,o5),(22,v10),(24,.pointer (some ⟨b1,5,none⟩)),(25,o6),(26,v12),(28,.pointer (some ⟨b1,6,none⟩)),(29,o7),(30,v14),(32,.pointer (some ⟨b1,7,none⟩)),(33,o8),(34,v16)] ⟨Z,Z,Z,Z,Z,Z,Z,Z,Z,Z,Z,Z,Z,Z,Z,Z,Z,Z,Z,Z,Z,Z,Z,Z,Z,Z,Z,trivial⟩ ?_
 have hbl1 : ∀ w,(Instr.build 33 ([(0,v2),(1,v4),(2,v6),(3,v8),(4,v10),(5,v12),(6,v14),(7,v16)]).toArray).run Tryz.prog w = .ok (.agg [v2,v4,v6,v8,v10,v12,v14,v16].toArray) w:=by clear E;obtain ⟨_,_,_,rfl⟩:=Own.shape ho2;obtain ⟨_,_,_,rfl⟩:=Own.shape ho4;obtain ⟨_,_,_,rfl⟩:=Own.shape ho6;obtain ⟨_,_,_,rfl⟩:=Own.shape ho8;obtain ⟨_,_,_,rfl⟩:=Own.shape ho10;obtain ⟨_,_,_,rfl⟩:=Own.shape ho12;obtain ⟨_,_,_,rfl⟩:=Own.shape ho14;obtain ⟨_,_,_,rfl⟩:=Own.shape ho16;intro w;kernel_rfl
 refine Qa (Ko [v2,v4,v6,v8,v10,v12,v14,v16] Z hbl1) Z (Qs (cs':=[v2,v4,v6,v8,v10,v12,v14,v16]) Yh Z Z Z (Qg ho2.one (Qg ho4.one (Qg ho6.one (Qg ho8.one (Qg ho10.one (Qg ho12.one (Qg ho14.one (Qg ho16.one Z)))))))) h2 (Nat.le_of_ble_eq_true Z) Z (fun w5 m1 h2'=>?_))
 replace h2:=h2'
 replace E:=E.step m1 (fun g hg=>by cases hg;omega);replace h1:=h1.mod m1 (fun g hg=>by cases hg;omega);replace ho2:=ho2.mod m1 (fun g hg=>by cases hg;omega);replace ho4:=ho4.mod m1 (fun g hg=>by cases hg;omega);replace ho6:=ho6.mod m1 (fun g hg=>by cases hg;omega);replace ho8:=ho8.mod m1 (fun g hg=>by cases hg;omega);replace ho10:=ho10.mod m1 (fun g hg=>by cases hg;omega);replace ho12:=ho12.mod m1 (fun g hg=>by cases hg;omega);replace ho14:=ho14.mod m1 (fun g hg=>by cases hg;omega);replace ho16:=ho16.mod m1 (fun g hg=>by cases hg;omega)
 have z6:=m1.size
 refine Qd (Qx (Xh Z Z (Qv Yh h2.at Z) E ?_))
 exact ⟨_,Z,Worker.mkO x sp1 (Own.widen ho2 (by omega) (by omega)) (Own.widen ho4 (by omega) (by omega)) (Own.widen ho6 (by omega) (by omega)) (Own.widen ho8 (by omega) (by omega)) (Own.widen ho10 (by omega) (by omega)) (Own.widen ho12 (by omega) (by omega)) (Own.widen ho14 (by omega) (by omega)) (Own.widen ho16 (by omega) (by omega))⟩

set_option maxHeartbeats 4000000 in
set_option maxRecDepth 20000 in
theorem s_WorkerNew (vxs : Value) (xs : List Record) (w : World) (hxs : RdS w vxs xs) (hb : xs.length ≤ 1048576) : Ct Tryz.prog 83 [vxs] w (fun v w'=>∃ cs,v = .agg cs.toArray ∧ Own1.O w' w.heap.size w'.heap.size cs (Yk xs)):=by
 refine Yp Tryz.func83 Z Tryz.ntmps83 Z ?_
 refine Yb [(0,vxs)] ⟨Z,trivial⟩ ?_
 have E : Ext w w:=Ext.refl w
 refine Qh (Qi [false] Z Z (Yd Yh Z (fun b1 w1 e1 s1 h1=>?_)))
 have g_b1 : w.heap.size ≤ b1:=by have:=E.size;omega
 have y_b1:=h1.lt
 replace E:=E.trans e1
 have z1:=e1.size
 refine Qd (Qh (Qi [true] Z Z (Qa (Qe Z) Z (Qd (Qh (S_regP Xd [(1,true),(3,true),(5,true),(7,true)] [⟨0,4,5,[],true,none,none⟩,⟨2,6,5,List.flatMap (Enc.enc (α:=Record)) xs,false,some (0,4),none⟩,⟨4,8,1,[.int .i64 0,.int .i64 0,.int .i64 0,.int .i64 0],false,none,none⟩,⟨6,10,1,[.bool false,.bool false,.bool false,.bool false],false,none,none⟩,⟨8,12,1,[.bool false,.bool false,.bool false,.bool false],false,none,none⟩] [(9,true),(10,false)] (by kernel_rfl) Z Z [(0,vxs),(2,.pointer (some ⟨b1,0,none⟩)),(3,.int .i64 4),(5,vxs),(7,.int .i64 4),(9,.int .i64 4),(11,.int .i64 4)] (fun w'=>Ext w w' ∧ w1.heap.size ≤ w'.heap.size ∧ Blk w' b1 [.slice none 0 0,.slice none 0 0,.slice none 0 0,.slice none 0 0,.slice none 0 0,.slice none 0 0,.slice none 0 0,.slice none 0 0]) (fun w2 e2=>?_) (fun w2 hphi_w2=>?_)))))))
 ·replace E:=E.trans e2;replace h1:=h1.ext e2
  have z2:=e2.size
  refine Qa (Qb Z) Z (Qa (Qb Z) Z (Qa (Qb Z) Z (Qa (Qb Z) Z (Qn ⟨Z,Z,Z,Z,Z,Z,Z,trivial⟩ ⟨E,(by omega),h1⟩))))
 clear E h1
 obtain ⟨E,z3,h1⟩:=hphi_w2
 refine ⟨⟨⟨_,Z,Z,Z,Z,?_⟩,⟨_,Z,Z,Z,Z,?_⟩,⟨_,Z,Z,Z,Z,?_⟩,⟨_,Z,Z,Z,Z,?_⟩,⟨_,Z,Z,Z,Z,?_⟩,trivial⟩,fun w3 e3=>?_⟩
 ·exact U3 Xp
 ·exact U4 Xp Z (fun _ eX=>RdS.src (RdS.ext (hxs.ext E) eX)) (Xm _) (by simp only [Ya,List.length_nil];simp only [Enc.sz];omega) (by decide)
 ·exact Vs (m:=4) Kd Z Z (by decide) (by decide) Z Z
 ·exact Vs (m:=4) H2 Z Z (by decide) (by decide) Z Z
 ·exact Vs (m:=4) H2 Z Z (by decide) (by decide) Z Z
 intro v1 f1 ho1 v2 f2 ho2 v3 f3 ho3 v4 f4 ho4 v5 f5 ho5 sp1
 obtain ⟨ho1,rfl⟩:=ho1
 obtain ⟨ho2,rfl⟩:=ho2
 obtain ⟨ho3,rfl⟩:=ho3
 obtain ⟨ho4,rfl⟩:=ho4
 obtain ⟨ho5,rfl⟩:=ho5
 replace sp1 : SepL [v2,v3,v4,v5]:=DjL.toSep (vs:=[v2,v3,v4,v5]) sp1
 have g_sp1 : w.heap.size ≤ w2.heap.size:=E.size
 replace E:=E.trans e3;replace h1:=h1.ext e3
 have z4:=e3.size
 clear ho1
 replace ho2 : Own w3 w2.heap.size w3.heap.size 5 v2 (List.flatMap (Enc.enc (α:=Record)) xs):=ho2
 replace ho3 : Own w3 w2.heap.size w3.heap.size 1 v3 (List.flatMap (Enc.enc (α:=Int)) [0,0,0,0]):=ho3
 replace ho4 : Own w3 w2.heap.size w3.heap.size 1 v4 (List.flatMap (Enc.enc (α:=Bool)) [false,false,false,false]):=ho4
 replace ho5 : Own w3 w2.heap.size w3.heap.size 1 v5 (List.flatMap (Enc.enc (α:=Bool)) [false,false,false,false]):=ho5
 refine J_sub [(0,vxs),(2,.pointer (some ⟨b1,0,none⟩)),(3,.int .i64 4),(5,vxs),(6,v2),(7,.int .i64 4),(8,v3),(9,.int .i64 4),(10,v4),(11,.int .i64 4),(12,v5)] ⟨Z,Z,Z,Z,Z,Z,Z,Z,Z,Z,Z,trivial⟩ ?_
 have hbl1 : ∀ w,(Instr.build 33 ([(2,v2),(4,v3),(5,v4),(6,v5)]).toArray).run Tryz.prog w = .ok (.agg [.slice none 0 0,.slice none 0 0,v2,.slice none 0 0,v3,v4,v5,.slice none 0 0].toArray) w:=by clear E;obtain ⟨_,_,_,rfl⟩:=Own.shape ho2;obtain ⟨_,_,_,rfl⟩:=Own.shape ho3;obtain ⟨_,_,_,rfl⟩:=Own.shape ho4;obtain ⟨_,_,_,rfl⟩:=Own.shape ho5;intro w;kernel_rfl
 refine Qa (Ko [.slice none 0 0,.slice none 0 0,v2,.slice none 0 0,v3,v4,v5,.slice none 0 0] Z hbl1) Z (Qs (cs':=[.slice none 0 0,.slice none 0 0,v2,.slice none 0 0,v3,v4,v5,.slice none 0 0]) Yh Z Z Z (Qg Z (Qg Z (Qg ho2.one (Qg Z (Qg ho3.one (Qg ho4.one (Qg ho5.one (Qg Z Z)))))))) h1 (Nat.le_of_ble_eq_true Z) Z (fun w4 m1 h1'=>?_))
 replace h1:=h1'
 replace E:=E.step m1 (fun g hg=>by cases hg;omega);replace ho2:=ho2.mod m1 (fun g hg=>by cases hg;omega);replace ho3:=ho3.mod m1 (fun g hg=>by cases hg;omega);replace ho4:=ho4.mod m1 (fun g hg=>by cases hg;omega);replace ho5:=ho5.mod m1 (fun g hg=>by cases hg;omega)
 have z5:=m1.size
 refine Qd (Qx (Xh Z Z (Qv Yh h1.at Z) E ?_))
 exact ⟨_,Z,Worker.mkO (⟨[],[],xs,[],[0,0,0,0],[false,false,false,false],[false,false,false,false],[]⟩ : Worker) ⟨⟨(Sep.nilL _),⟨(Sep.nilL _),⟨(Sep.nilL _),⟨(Sep.nilL _),⟨(Sep.nilL _),⟨(Sep.nilL _),⟨(Sep.nilL _),trivial⟩⟩⟩⟩⟩⟩⟩,⟨⟨(Sep.nilL _),⟨(Sep.nilL _),⟨(Sep.nilL _),⟨(Sep.nilL _),⟨(Sep.nilL _),⟨(Sep.nilL _),trivial⟩⟩⟩⟩⟩⟩,⟨⟨(Sep.nilR _),⟨sp1.1.1,⟨sp1.1.2.1,⟨sp1.1.2.2.1,⟨(Sep.nilR _),trivial⟩⟩⟩⟩⟩,⟨⟨(Sep.nilL _),⟨(Sep.nilL _),⟨(Sep.nilL _),⟨(Sep.nilL _),trivial⟩⟩⟩⟩,⟨⟨sp1.2.1.1,⟨sp1.2.1.2.1,⟨(Sep.nilR _),trivial⟩⟩⟩,⟨⟨sp1.2.2.1.1,⟨(Sep.nilR _),trivial⟩⟩,⟨⟨(Sep.nilR _),trivial⟩,⟨trivial,trivial⟩⟩⟩⟩⟩⟩⟩⟩ (Own.nil _ _ _ _) (Own.nil _ _ _ _) (Own.widen ho2 (by omega) (by omega)) (Own.nil _ _ _ _) (Own.widen ho3 (by omega) (by omega)) (Own.widen ho4 (by omega) (by omega)) (Own.widen ho5 (by omega) (by omega)) (Own.nil _ _ _ _)⟩

set_option maxHeartbeats 4000000 in
set_option maxRecDepth 20000 in
theorem c_WorkerNew (vxs : Value) (xs : List Record) (w : World) (hxs : RdS w vxs xs) (hb : xs.length ≤ 1048576) : Ct Tryz.prog 14 [vxs] w (fun v w'=>∃ cs,v = .agg cs.toArray ∧ Own1.O w' w.heap.size w'.heap.size cs (Yk xs)):=by
 refine Yp Tryz.func14 Z Tryz.ntmps14 Z ?_
 refine Yb [(0,vxs)] ⟨Z,trivial⟩ ?_
 have E : Ext w w:=Ext.refl w
 refine Qh (Qi [false] Z Z (Yd Yh Z (fun b1 w1 e1 s1 h1=>?_)))
 have g_b1 : w.heap.size ≤ b1:=by have:=E.size;omega
 have y_b1:=h1.lt
 replace E:=E.trans e1
 have z1:=e1.size
 refine Qd (Qh (S_regP Xd [(0,true)] [⟨1,4,5,List.flatMap (Enc.enc (α:=Record)) xs,false,none,none⟩,⟨2,5,1,[.int .i64 0,.int .i64 0,.int .i64 0,.int .i64 0],false,none,none⟩,⟨3,6,1,[.bool false,.bool false,.bool false,.bool false],false,none,none⟩,⟨4,7,1,[.bool false,.bool false,.bool false,.bool false],false,none,none⟩] [(5,true),(6,false)] (by kernel_rfl) Z Z [(0,vxs),(2,.pointer (some ⟨b1,0,none⟩)),(3,vxs)] (fun w'=>Ext w w' ∧ w1.heap.size ≤ w'.heap.size ∧ Blk w' b1 [.slice none 0 0,.slice none 0 0,.slice none 0 0,.slice none 0 0,.slice none 0 0,.slice none 0 0,.slice none 0 0,.slice none 0 0]) (fun w2 e2=>?_) (fun w2 hphi_w2=>?_)))
 ·replace E:=E.trans e2;replace h1:=h1.ext e2
  have z2:=e2.size
  refine Qa (Qb Z) Z (Qn ⟨Z,Z,Z,trivial⟩ ⟨E,(by omega),h1⟩)
 clear E h1
 obtain ⟨E,z3,h1⟩:=hphi_w2
 refine ⟨⟨⟨_,Z,Z,Z,Z,?_⟩,⟨_,Z,Z,Z,Z,?_⟩,⟨_,Z,Z,Z,Z,?_⟩,⟨_,Z,Z,Z,Z,?_⟩,trivial⟩,fun w3 e3=>?_⟩
 ·exact step_call Tryz.call34 Z (fun wX eX=>by have E:=E.trans eX;exact c_copyRecords vxs xs _ (hxs.ext E) (by first | assumption | omega | (simp only [Q1];omega)))
 ·exact Vs (m:=4) Kd Z Z (by decide) (by decide) Z Z
 ·exact Vs (m:=4) H2 Z Z (by decide) (by decide) Z Z
 ·exact Vs (m:=4) H2 Z Z (by decide) (by decide) Z Z
 intro v1 f1 ho1 v2 f2 ho2 v3 f3 ho3 v4 f4 ho4 sp1
 obtain ⟨ho1,rfl⟩:=ho1
 obtain ⟨ho2,rfl⟩:=ho2
 obtain ⟨ho3,rfl⟩:=ho3
 obtain ⟨ho4,rfl⟩:=ho4
 replace sp1 : SepL [v1,v2,v3,v4]:=DjL.toSep (vs:=[v1,v2,v3,v4]) sp1
 have g_sp1 : w.heap.size ≤ w2.heap.size:=E.size
 replace E:=E.trans e3;replace h1:=h1.ext e3
 have z4:=e3.size
 replace ho1 : Own w3 w2.heap.size w3.heap.size 5 v1 (List.flatMap (Enc.enc (α:=Record)) xs):=ho1
 replace ho2 : Own w3 w2.heap.size w3.heap.size 1 v2 (List.flatMap (Enc.enc (α:=Int)) [0,0,0,0]):=ho2
 replace ho3 : Own w3 w2.heap.size w3.heap.size 1 v3 (List.flatMap (Enc.enc (α:=Bool)) [false,false,false,false]):=ho3
 replace ho4 : Own w3 w2.heap.size w3.heap.size 1 v4 (List.flatMap (Enc.enc (α:=Bool)) [false,false,false,false]):=ho4
 refine J_sub [(0,vxs),(2,.pointer (some ⟨b1,0,none⟩)),(3,vxs),(4,v1),(5,v2),(6,v3),(7,v4)] ⟨Z,Z,Z,Z,Z,Z,Z,trivial⟩ ?_
 have hbl1 : ∀ w,(Instr.build 33 ([(2,v1),(4,v2),(5,v3),(6,v4)]).toArray).run Tryz.prog w = .ok (.agg [.slice none 0 0,.slice none 0 0,v1,.slice none 0 0,v2,v3,v4,.slice none 0 0].toArray) w:=by clear E;obtain ⟨_,_,_,rfl⟩:=Own.shape ho1;obtain ⟨_,_,_,rfl⟩:=Own.shape ho2;obtain ⟨_,_,_,rfl⟩:=Own.shape ho3;obtain ⟨_,_,_,rfl⟩:=Own.shape ho4;intro w;kernel_rfl
 refine Qa (Ko [.slice none 0 0,.slice none 0 0,v1,.slice none 0 0,v2,v3,v4,.slice none 0 0] Z hbl1) Z (Qs (cs':=[.slice none 0 0,.slice none 0 0,v1,.slice none 0 0,v2,v3,v4,.slice none 0 0]) Yh Z Z Z (Qg Z (Qg Z (Qg ho1.one (Qg Z (Qg ho2.one (Qg ho3.one (Qg ho4.one (Qg Z Z)))))))) h1 (Nat.le_of_ble_eq_true Z) Z (fun w4 m1 h1'=>?_))
 replace h1:=h1'
 replace E:=E.step m1 (fun g hg=>by cases hg;omega);replace ho1:=ho1.mod m1 (fun g hg=>by cases hg;omega);replace ho2:=ho2.mod m1 (fun g hg=>by cases hg;omega);replace ho3:=ho3.mod m1 (fun g hg=>by cases hg;omega);replace ho4:=ho4.mod m1 (fun g hg=>by cases hg;omega)
 have z5:=m1.size
 refine Qd (Qx (Xh Z Z (Qv Yh h1.at Z) E ?_))
 exact ⟨_,Z,Worker.mkO (⟨[],[],xs,[],[0,0,0,0],[false,false,false,false],[false,false,false,false],[]⟩ : Worker) ⟨⟨(Sep.nilL _),⟨(Sep.nilL _),⟨(Sep.nilL _),⟨(Sep.nilL _),⟨(Sep.nilL _),⟨(Sep.nilL _),⟨(Sep.nilL _),trivial⟩⟩⟩⟩⟩⟩⟩,⟨⟨(Sep.nilL _),⟨(Sep.nilL _),⟨(Sep.nilL _),⟨(Sep.nilL _),⟨(Sep.nilL _),⟨(Sep.nilL _),trivial⟩⟩⟩⟩⟩⟩,⟨⟨(Sep.nilR _),⟨sp1.1.1,⟨sp1.1.2.1,⟨sp1.1.2.2.1,⟨(Sep.nilR _),trivial⟩⟩⟩⟩⟩,⟨⟨(Sep.nilL _),⟨(Sep.nilL _),⟨(Sep.nilL _),⟨(Sep.nilL _),trivial⟩⟩⟩⟩,⟨⟨sp1.2.1.1,⟨sp1.2.1.2.1,⟨(Sep.nilR _),trivial⟩⟩⟩,⟨⟨sp1.2.2.1.1,⟨(Sep.nilR _),trivial⟩⟩,⟨⟨(Sep.nilR _),trivial⟩,⟨trivial,trivial⟩⟩⟩⟩⟩⟩⟩⟩ (Own.nil _ _ _ _) (Own.nil _ _ _ _) (Own.widen ho1 (by omega) (by omega)) (Own.nil _ _ _ _) (Own.widen ho2 (by omega) (by omega)) (Own.widen ho3 (by omega) (by omega)) (Own.widen ho4 (by omega) (by omega)) (Own.nil _ _ _ _)⟩

set_option maxRecDepth 20000 in
theorem s_Kept (cx : List Value) (x : Worker) (r : Record) (w : World) (hx : Dat.R w 0 w.heap.size cx x) (hb : Q6 x ≤ 1048576) : Ct Tryz.prog 98 [.agg cx.toArray,.agg (Enc.enc r).toArray] w (fun v w'=>∃ cs,v = .agg cs.toArray ∧ Own1.O w' w.heap.size w'.heap.size cs (Kn x r)):=by
 have hb2:=hb
 unfold Q6 at hb2
 refine Yp Tryz.func98 Z Tryz.ntmps98 Z ?_
 obtain ⟨o1,o2,o3,o4,o5,o6,o7,o8,rfl,hd1,hd2,hd3,hd4,hd5,hd6,hd7,hd8⟩:=Worker.op hx
 refine Yb [(0,.agg [o1,o2,o3,o4,o5,o6,o7,o8].toArray),(1,.agg (Enc.enc r).toArray)] ⟨Z,Z,trivial⟩ ?_
 have E : Ext w w:=Ext.refl w
 refine Qh (Qi [false,false,false] Z Z (Xb Z Z (fun b1 w1 e1 s1 h1=>?_)))
 have g_b1 : w.heap.size ≤ b1:=by have:=E.size;omega
 have y_b1:=h1.lt
 replace E:=E.trans e1
 have z1:=e1.size
 refine Xb Z Z (fun b2 w2 e2 s2 h2=>?_)
 have g_b2 : w.heap.size ≤ b2:=by have:=E.size;omega
 have y_b2:=h2.lt
 replace E:=E.trans e2;replace h1:=h1.ext e2
 have z2:=e2.size
 refine Yd Yh Z (fun b3 w3 e3 s3 h3=>?_)
 have g_b3 : w.heap.size ≤ b3:=by have:=E.size;omega
 have y_b3:=h3.lt
 replace E:=E.trans e3;replace h1:=h1.ext e3;replace h2:=h2.ext e3
 have z3:=e3.size
 refine Qd (Qh (Qi [true,false,false] Z Z (Qa (Ql Yh Z h1.at Z) Z (Qw Tryz.call41 Z (s_l12Copy [o1,o2,o3,o4,o5,o6,o7,o8] x _ (Worker.mkR x (RdD.any (hd1.ext E)) (RdD.any (hd2.ext E)) (RdD.any (hd3.ext E)) (RdD.any (hd4.ext E)) (RdD.any (hd5.ext E)) (RdD.any (hd6.ext E)) (RdD.any (hd7.ext E)) (RdD.any (hd8.ext E))) (by first | omega | (simp only [Q1];omega) | (rw [Q1];done) | (simp only [Q1];done))) Z (fun _ w4 e4 ho1=>?_)))))
 obtain ⟨_,rfl,ho1⟩:=ho1
 have g_ho1 : w.heap.size ≤ w3.heap.size:=E.size
 replace E:=E.trans e4;replace h1:=h1.ext e4;replace h2:=h2.ext e4;replace h3:=h3.ext e4
 have z4:=e4.size
 obtain ⟨o9,o10,o11,o12,o13,o14,o15,o16,rfl,sp1,hw1,hw2,hw3,hw4,hw5,hw6,hw7,hw8⟩:=Worker.opO ho1
 refine Qs (cs':=[o9,o10,o11,o12,o13,o14,o15,o16]) Yh Z Z Z (Qg hw1.one (Qg hw2.one (Qg hw3.one (Qg hw4.one (Qg hw5.one (Qg hw6.one (Qg hw7.one (Qg hw8.one Z)))))))) h1 (Nat.le_of_ble_eq_true Z) Z (fun w5 m1 h1'=>?_)
 replace h1:=h1'
 replace E:=E.step m1 (fun g hg=>by cases hg;omega);replace h2:=h2.mod m1 (fun g hg=>by cases hg;omega);replace h3:=h3.mod m1 (fun g hg=>by cases hg;omega);replace hw1:=hw1.mod m1 (fun g hg=>by cases hg;omega);replace hw2:=hw2.mod m1 (fun g hg=>by cases hg;omega);replace hw3:=hw3.mod m1 (fun g hg=>by cases hg;omega);replace hw4:=hw4.mod m1 (fun g hg=>by cases hg;omega);replace hw5:=hw5.mod m1 (fun g hg=>by cases hg;omega);replace hw6:=hw6.mod m1 (fun g hg=>by cases hg;omega);replace hw7:=hw7.mod m1 (fun g hg=>by cases hg;omega);replace hw8:=hw8.mod m1 (fun g hg=>by cases hg;omega)
 have z5:=m1.size
 refine Qd (Qh (Qi [true,true,true,false,false,true,false] Z Z (Qa (Qf Kf Z) Z (Qa (Qk Xv Z (h1.one 0 Z)) Z (Qa (Ql Xq Z h2.at Z) Z (Qz (vs:=[.agg (Enc.enc r).toArray]) (css:=[[.int .i64 r.op,.int .i64 r.stamp.epoch,.int .i64 r.stamp.turn,.int .i64 r.key,.int .i64 r.val]]) Xp Z Z ⟨⟨Z,Z⟩,trivial⟩ Z Z (fun b4 w6 e5 s4 h4=>?_)))))))
 replace h4 : Blk w6 b4 [.int .i64 r.op,.int .i64 r.stamp.epoch,.int .i64 r.stamp.turn,.int .i64 r.key,.int .i64 r.val]:=h4
 have g_b4 : w.heap.size ≤ b4:=by have:=E.size;omega
 have y_b4:=h4.lt
 replace E:=E.trans e5;replace h1:=h1.ext e5;replace h2:=h2.ext e5;replace h3:=h3.ext e5;replace hw1:=hw1.ext e5;replace hw2:=hw2.ext e5;replace hw3:=hw3.ext e5;replace hw4:=hw4.ext e5;replace hw5:=hw5.ext e5;replace hw6:=hw6.ext e5;replace hw7:=hw7.ext e5;replace hw8:=hw8.ext e5
 have z6:=e5.size
 refine Ka Xp Z Z hw1 (Src.ofBlk h4 Z) Z (by simp only [Ya];simp [Enc.sz];omega) (by decide) (by omega) (by omega) Z Z (fun v1 w7 m2 ho2 hb1=>?_)
 have hn1 : ∀ g,Value.ownBlock v1 = some g → g < w4.heap.size ∨ w6.heap.size ≤ g:=fun g hg=>(hb1 g hg).elim (fun h=>.inl (by have:=Own.blk hw1 g h;omega)) (fun h=>.inr h)
 have sq1:=sp1
 replace sp1:=SepL.set hb1 0 rfl sp1 ⟨(Own.lt hw1),(Own.lt hw2),(Own.lt hw3),(Own.lt hw4),(Own.lt hw5),(Own.lt hw6),(Own.lt hw7),(Own.lt hw8),trivial⟩
 replace sp1 : SepL [v1,o10,o11,o12,o13,o14,o15,o16]:=sp1
 replace E:=E.step m2 (fun g hg=>by have:=Own.blk hw1 g hg;omega);replace h1:=h1.mod m2 (fun g hg=>by have:=Own.blk hw1 g hg;omega);replace h2:=h2.mod m2 (fun g hg=>by have:=Own.blk hw1 g hg;omega);replace h3:=h3.mod m2 (fun g hg=>by have:=Own.blk hw1 g hg;omega);replace hw2:=Own.modS hw2 m2 sq1.1.1;replace hw3:=Own.modS hw3 m2 sq1.1.2.1;replace hw4:=Own.modS hw4 m2 sq1.1.2.2.1;replace hw5:=Own.modS hw5 m2 sq1.1.2.2.2.1;replace hw6:=Own.modS hw6 m2 sq1.1.2.2.2.2.1;replace hw7:=Own.modS hw7 m2 sq1.1.2.2.2.2.2.1;replace hw8:=Own.modS hw8 m2 sq1.1.2.2.2.2.2.2.1
 have z7:=m2.size
 replace ho2 : Own w7 w3.heap.size w7.heap.size 5 v1 (List.flatMap (Enc.enc (α:=Record)) (x.queue ++ [r])):=by rw [List.flatMap_append];exact ho2
 refine Qa (Qf Kf Z) Z (Xf (cs':=[v1,o10,o11,o12,o13,o14,o15,o16]) Xv Z Z ho2.one h1 (Nat.le_of_ble_eq_true Z) Z (fun w8 m3 h1'=>?_))
 replace h1:=h1'
 replace E:=E.step m3 (fun g hg=>by cases hg;omega);replace h2:=h2.mod m3 (fun g hg=>by cases hg;omega);replace h3:=h3.mod m3 (fun g hg=>by cases hg;omega);replace hw2:=hw2.mod m3 (fun g hg=>by cases hg;omega);replace hw3:=hw3.mod m3 (fun g hg=>by cases hg;omega);replace hw4:=hw4.mod m3 (fun g hg=>by cases hg;omega);replace hw5:=hw5.mod m3 (fun g hg=>by cases hg;omega);replace hw6:=hw6.mod m3 (fun g hg=>by cases hg;omega);replace hw7:=hw7.mod m3 (fun g hg=>by cases hg;omega);replace hw8:=hw8.mod m3 (fun g hg=>by cases hg;omega);replace ho2:=Own.modN ho2 m3 (fun g hg hv=>by have hN:=hn1 g hv;have hB:=Own.blk ho2 g hv;cases hg;omega)
 have z8:=m3.size
 refine Qd (Qh (Qi [true,false] Z Z (Qa (Ql Yh Z h1.at Z) Z (Qs (cs':=[v1,o10,o11,o12,o13,o14,o15,o16]) Yh Z Z Z (Qg ho2.one (Qg hw2.one (Qg hw3.one (Qg hw4.one (Qg hw5.one (Qg hw6.one (Qg hw7.one (Qg hw8.one Z)))))))) h3 (Nat.le_of_ble_eq_true Z) Z (fun w9 m4 h3'=>?_)))))
 replace h3:=h3'
 replace E:=E.step m4 (fun g hg=>by cases hg;omega);replace h1:=h1.mod m4 (fun g hg=>by cases hg;omega);replace h2:=h2.mod m4 (fun g hg=>by cases hg;omega);replace hw2:=hw2.mod m4 (fun g hg=>by cases hg;omega);replace hw3:=hw3.mod m4 (fun g hg=>by cases hg;omega);replace hw4:=hw4.mod m4 (fun g hg=>by cases hg;omega);replace hw5:=hw5.mod m4 (fun g hg=>by cases hg;omega);replace hw6:=hw6.mod m4 (fun g hg=>by cases hg;omega);replace hw7:=hw7.mod m4 (fun g hg=>by cases hg;omega);replace hw8:=hw8.mod m4 (fun g hg=>by cases hg;omega);replace ho2:=Own.modN ho2 m4 (fun g hg hv=>by have hN:=hn1 g hv;have hB:=Own.blk ho2 g hv;cases hg;omega)
 have z9:=m4.size
 refine Qd (Qx (Xh Z Z (Qv Yh h3.at Z) E ?_))
 exact ⟨_,Z,Worker.mkO (⟨x.queue ++ [r],x.staged,x.inputs,x.cells,x.sums,x.black,x.caps,x.dones⟩ : Worker) sp1 (Own.widen ho2 (by omega) (by omega)) (Own.widen hw2 (by omega) (by omega)) (Own.widen hw3 (by omega) (by omega)) (Own.widen hw4 (by omega) (by omega)) (Own.widen hw5 (by omega) (by omega)) (Own.widen hw6 (by omega) (by omega)) (Own.widen hw7 (by omega) (by omega)) (Own.widen hw8 (by omega) (by omega))⟩

set_option maxRecDepth 20000 in
theorem s_Received (cx : List Value) (x : Worker) (r : Record) (w : World) (hx : Dat.R w 0 w.heap.size cx x) (hb : Q6 x ≤ 1048576) : Ct Tryz.prog 86 [.agg cx.toArray,.agg (Enc.enc r).toArray] w (fun v w'=>∃ cs,v = .agg cs.toArray ∧ Own1.O w' w.heap.size w'.heap.size cs (Gn x r)):=by
 refine Yp Tryz.func86 Z Tryz.ntmps86 Z ?_
 obtain ⟨o1,o2,o3,o4,o5,o6,o7,o8,rfl,hd1,hd2,hd3,hd4,hd5,hd6,hd7,hd8⟩:=Worker.op hx
 refine Yb [(0,.agg [o1,o2,o3,o4,o5,o6,o7,o8].toArray),(1,.agg (Enc.enc r).toArray)] ⟨Z,Z,trivial⟩ ?_
 have E : Ext w w:=Ext.refl w
 refine Qh (Qi [false,false,false] Z Z (Xb Z Z (fun b1 w1 e1 s1 h1=>?_)))
 have g_b1 : w.heap.size ≤ b1:=by have:=E.size;omega
 have y_b1:=h1.lt
 replace E:=E.trans e1
 have z1:=e1.size
 refine Xb Z Z (fun b2 w2 e2 s2 h2=>?_)
 have g_b2 : w.heap.size ≤ b2:=by have:=E.size;omega
 have y_b2:=h2.lt
 replace E:=E.trans e2;replace h1:=h1.ext e2
 have z2:=e2.size
 refine Yd Yh Z (fun b3 w3 e3 s3 h3=>?_)
 have g_b3 : w.heap.size ≤ b3:=by have:=E.size;omega
 have y_b3:=h3.lt
 replace E:=E.trans e3;replace h1:=h1.ext e3;replace h2:=h2.ext e3
 have z3:=e3.size
 refine Qd (Qh (Qi [true,true,false,false] Z Z (Qa (Ql Yh Z h1.at Z) Z (Qa (Ql Xq Z h2.at Z) Z (Qw Tryz.call98 Z (s_Kept [o1,o2,o3,o4,o5,o6,o7,o8] x r _ (Worker.mkR x (RdD.any (hd1.ext E)) (RdD.any (hd2.ext E)) (RdD.any (hd3.ext E)) (RdD.any (hd4.ext E)) (RdD.any (hd5.ext E)) (RdD.any (hd6.ext E)) (RdD.any (hd7.ext E)) (RdD.any (hd8.ext E))) (by first | omega | (simp only [Q1];omega) | (rw [Q1];done) | (simp only [Q1];done))) Z (fun _ w4 e4 ho1=>?_))))))
 obtain ⟨_,rfl,ho1⟩:=ho1
 have g_ho1 : w.heap.size ≤ w3.heap.size:=E.size
 replace E:=E.trans e4;replace h1:=h1.ext e4;replace h2:=h2.ext e4;replace h3:=h3.ext e4
 have z4:=e4.size
 obtain ⟨o9,o10,o11,o12,o13,o14,o15,o16,rfl,sp1,hw1,hw2,hw3,hw4,hw5,hw6,hw7,hw8⟩:=Worker.opO ho1
 refine Qs (cs':=[o9,o10,o11,o12,o13,o14,o15,o16]) Yh Z Z Z (Qg hw1.one (Qg hw2.one (Qg hw3.one (Qg hw4.one (Qg hw5.one (Qg hw6.one (Qg hw7.one (Qg hw8.one Z)))))))) h1 (Nat.le_of_ble_eq_true Z) Z (fun w5 m1 h1'=>?_)
 replace h1:=h1'
 replace E:=E.step m1 (fun g hg=>by cases hg;omega);replace h2:=h2.mod m1 (fun g hg=>by cases hg;omega);replace h3:=h3.mod m1 (fun g hg=>by cases hg;omega);replace hw1:=hw1.mod m1 (fun g hg=>by cases hg;omega);replace hw2:=hw2.mod m1 (fun g hg=>by cases hg;omega);replace hw3:=hw3.mod m1 (fun g hg=>by cases hg;omega);replace hw4:=hw4.mod m1 (fun g hg=>by cases hg;omega);replace hw5:=hw5.mod m1 (fun g hg=>by cases hg;omega);replace hw6:=hw6.mod m1 (fun g hg=>by cases hg;omega);replace hw7:=hw7.mod m1 (fun g hg=>by cases hg;omega);replace hw8:=hw8.mod m1 (fun g hg=>by cases hg;omega)
 have z5:=m1.size
 refine Qd (Qh (Qi [true,true,true,true] Z Z (Qa (Qf X4 Z) Z (Qa (Q7 Uh Z) Z (Qa (Qk Xi Z (h2.one 1 Z)) Z (Qa (Qe Z) Z (Qd (Qh (Qh (Qi [true,true,true,true,true,false,true,true,true,true,true,true,true] Z Z (Qa (Qb Z) Z (Qa (Qf Un Z) Z (Qa (Qk Uc Z (h1.one 4 Z)) Z (Qa (Ye Tryz.underlying29 Z (Own.len (by decide) hw5)) Z (Qa (Gh Z Z Z) Z (Qw Tryz.call32 Z (s_l01In r.stamp.epoch 0 (IntKind.i64.wrap (((((Kn x r).sums).length : Nat) : Int) - 1)) _ ) Z (fun _ w6 e5 hv=>?_)))))))))))))))))
 subst hv
 replace E:=E.trans e5;replace h1:=h1.ext e5;replace h2:=h2.ext e5;replace h3:=h3.ext e5;replace hw1:=hw1.ext e5;replace hw2:=hw2.ext e5;replace hw3:=hw3.ext e5;replace hw4:=hw4.ext e5;replace hw5:=hw5.ext e5;replace hw6:=hw6.ext e5;replace hw7:=hw7.ext e5;replace hw8:=hw8.ext e5
 have z6:=e5.size
 refine Qa (Qb Z) Z (Xr 6 [(0,.agg [o1,o2,o3,o4,o5,o6,o7,o8].toArray),(1,.agg (Enc.enc r).toArray),(2,.pointer (some ⟨b1,0,none⟩)),(3,.pointer (some ⟨b2,0,none⟩)),(4,.pointer (some ⟨b3,0,none⟩)),(5,.int .i64 r.stamp.epoch),(6,.agg [o1,o2,o3,o4,o5,o6,o7,o8].toArray),(7,.agg (Enc.enc r).toArray),(8,.agg [o9,o10,o11,o12,o13,o14,o15,o16].toArray),(9,.pointer (some ⟨b2,1,none⟩)),(10,.pointer (some ⟨b2,1 + 0,none⟩)),(11,.int .i64 r.stamp.epoch),(24,.bool ((Y2 r.stamp.epoch 0 (IntKind.i64.wrap (((((Kn x r).sums).length : Nat) : Int) - 1))) && (decide (r.stamp.epoch < ((((Kn x r).black).length : Nat) : Int)))))] (fun w'=>w6 = w') ?_ ?_)
 ·refine Yz (gd:=18) Z Z (fun hg1=>?_) (fun hg1=>?_)
  ·refine Qm Z Z (Qb Z) Z (Qm Z Z (Qf V4 Z) Z (Qm Z Z (Qk Gz Z (h1.one 5 Z)) Z (Qm Z Z (Ye Tryz.underlying30 Z (Own.len (by decide) hw6)) Z (Qm Z Z (Xe Z Z) Z (Qa (Qr Z Z) Z (Qn ⟨Z,Z,Z,Z,Z,Z,Z,Z,Z,Z,Z,Z,congrArg (fun b=>some (Value.bool b)) (show (decide (r.stamp.epoch < ((((Kn x r).black).length : Nat) : Int))) = ((Y2 r.stamp.epoch 0 (IntKind.i64.wrap (((((Kn x r).sums).length : Nat) : Int) - 1))) && (decide (r.stamp.epoch < ((((Kn x r).black).length : Nat) : Int)))) by first | (rw [hg1] <;> rfl) | (simp [hg1];done) | (simp only [Qq] <;> simp)),trivial⟩ Z))))))
  ·refine Qc Z Z Z Z (Qc Z Z Z Z (Qc Z Z Z Z (Qc Z Z Z Z (Qc Z Z Z Z (Qa (Qp Z Z) Z (Qn ⟨Z,Z,Z,Z,Z,Z,Z,Z,Z,Z,Z,Z,congrArg (fun b=>some (Value.bool b)) (show false = ((Y2 r.stamp.epoch 0 (IntKind.i64.wrap (((((Kn x r).sums).length : Nat) : Int) - 1))) && (decide (r.stamp.epoch < ((((Kn x r).black).length : Nat) : Int)))) by first | (rw [hg1] <;> rfl) | (simp [hg1];done) | (simp only [Qq] <;> simp)),trivial⟩ Z))))))
 rintro _ rfl
 refine Qd (Qt Z (fun hc1=>?_) (fun hc1=>?_))
 ·have hse:=recv_s hd5.1.1 hc1
  have hsq:=hse
  unfold Gj at hsq
  have hk1 : (Kn x r).sums.length = x.sums.length:=rfl
  have hk2 : (Kn x r).black.length = x.black.length:=rfl
  refine Qh (Xk Xd [(0,true),(1,true),(2,true),(3,true),(4,true),(5,true),(6,true),(7,true),(8,true),(9,true),(10,false)] (by decide +kernel) Z (fun w8 e6=>?_))
  replace E:=E.trans e6;replace h1:=h1.ext e6;replace h2:=h2.ext e6;replace h3:=h3.ext e6;replace hw1:=hw1.ext e6;replace hw2:=hw2.ext e6;replace hw3:=hw3.ext e6;replace hw4:=hw4.ext e6;replace hw5:=hw5.ext e6;replace hw6:=hw6.ext e6;replace hw7:=hw7.ext e6;replace hw8:=hw8.ext e6
  have z7:=e6.size
  refine Qa (Qf Un Z) Z (Qa (Qk Uc Z (h1.one 4 Z)) Z (Qa (Qb Z) Z (Qa (Qf Un Z) Z (Qa (Qk Uc Z (h1.one 4 Z)) Z (Qa (Qb Z) Z ?_)))))
  have hi1 : (Int.toNat r.stamp.epoch) < ((Kn x r).sums).length:=(by first | assumption | omega | (simp only [List.length_set];first | assumption | omega) | (simp only [List.getElem_set_self,List.length_set];first | assumption | omega) | (simp only [Y3,Yj,List.length_set];first | assumption | omega) | (simp;done))
  refine Qa (Gr (i:=(Int.toNat r.stamp.epoch)) Kd Z Z (Own.rd (by decide) hw5) (by omega) hi1) Z (Qa (Qk Xi Z (((Own.rd (by decide) hw5).get hi1).one 0 Z)) Z (Qa (Gh Z Z Z) Z ?_))
  have hi2 : (Int.toNat r.stamp.epoch) < ((Kn x r).sums).length:=(by first | assumption | omega | (simp only [List.length_set];first | assumption | omega) | (simp only [List.getElem_set_self,List.length_set];first | assumption | omega) | (simp only [Y3,Yj,List.length_set];first | assumption | omega) | (simp;done))
  refine Qa (Gr (i:=(Int.toNat r.stamp.epoch)) Kd Z Z (Own.rd (by decide) hw5) (by omega) hi2) Z (Gb (α:=Int) (i:=(Int.toNat r.stamp.epoch)) (f:=0) (IntKind.i64.wrap ((((Kn x r).sums)[(Int.toNat r.stamp.epoch)]'hi1) - 1)) Xi Z Z Z Z hw5 hi2 (by decide) Z (fun w9 m2 hw5'=>?_))
  have hq:=Own.blk hw5
  replace hw5:=hw5'
  replace E:=E.step m2 (fun g hg=>by have:=hq g hg;omega);replace h1:=h1.mod m2 (fun g hg=>by have:=hq g hg;omega);replace h2:=h2.mod m2 (fun g hg=>by have:=hq g hg;omega);replace h3:=h3.mod m2 (fun g hg=>by have:=hq g hg;omega);replace hw1:=Own.modS hw1 m2 (sp1.1.2.2.2.1).symm;replace hw2:=Own.modS hw2 m2 (sp1.2.1.2.2.1).symm;replace hw3:=Own.modS hw3 m2 (sp1.2.2.1.2.1).symm;replace hw4:=Own.modS hw4 m2 (sp1.2.2.2.1.1).symm;replace hw6:=Own.modS hw6 m2 sp1.2.2.2.2.1.1;replace hw7:=Own.modS hw7 m2 sp1.2.2.2.2.1.2.1;replace hw8:=Own.modS hw8 m2 sp1.2.2.2.2.1.2.2.1
  have z8:=m2.size
  clear hq
  refine Qd (Qi [true,true,true,true,false] Z Z (Qa (Qf V4 Z) Z (Qa (Qk Gz Z (h1.one 5 Z)) Z (Qa (Qb Z) Z ?_))))
  have hi3 : (Int.toNat r.stamp.epoch) < ((Kn x r).black).length:=(by first | assumption | omega | (simp only [List.length_set];first | assumption | omega) | (simp only [List.getElem_set_self,List.length_set];first | assumption | omega) | (simp only [Y3,Yj,List.length_set];first | assumption | omega) | (simp;done))
  refine Qa (Gr (i:=(Int.toNat r.stamp.epoch)) H2 Z Z (Own.rd (by decide) hw6) (by omega) hi3) Z (Gb (α:=Bool) (i:=(Int.toNat r.stamp.epoch)) (f:=0) true sc4 Z Z Z Z hw6 hi3 (by decide) Z (fun w10 m3 hw6'=>?_))
  have hq:=Own.blk hw6
  replace hw6:=hw6'
  replace E:=E.step m3 (fun g hg=>by have:=hq g hg;omega);replace h1:=h1.mod m3 (fun g hg=>by have:=hq g hg;omega);replace h2:=h2.mod m3 (fun g hg=>by have:=hq g hg;omega);replace h3:=h3.mod m3 (fun g hg=>by have:=hq g hg;omega);replace hw1:=Own.modS hw1 m3 (sp1.1.2.2.2.2.1).symm;replace hw2:=Own.modS hw2 m3 (sp1.2.1.2.2.2.1).symm;replace hw3:=Own.modS hw3 m3 (sp1.2.2.1.2.2.1).symm;replace hw4:=Own.modS hw4 m3 (sp1.2.2.2.1.2.1).symm;replace hw7:=Own.modS hw7 m3 sp1.2.2.2.2.2.1.1;replace hw8:=Own.modS hw8 m3 sp1.2.2.2.2.2.1.2.1;replace hw5:=Own.modS hw5 m3 (sp1.2.2.2.2.1.1).symm
  have z9:=m3.size
  clear hq
  refine Qd (Qh (Qi [true,false] Z Z (Qa (Ql Yh Z h1.at Z) Z (Qs (cs':=[o9,o10,o11,o12,o13,o14,o15,o16]) Yh Z Z Z (Qg hw1.one (Qg hw2.one (Qg hw3.one (Qg hw4.one (Qg hw5.one (Qg hw6.one (Qg hw7.one (Qg hw8.one Z)))))))) h3 (Nat.le_of_ble_eq_true Z) Z (fun w11 m4 h3'=>?_)))))
  replace h3:=h3'
  replace E:=E.step m4 (fun g hg=>by cases hg;omega);replace h1:=h1.mod m4 (fun g hg=>by cases hg;omega);replace h2:=h2.mod m4 (fun g hg=>by cases hg;omega);replace hw1:=hw1.mod m4 (fun g hg=>by cases hg;omega);replace hw2:=hw2.mod m4 (fun g hg=>by cases hg;omega);replace hw3:=hw3.mod m4 (fun g hg=>by cases hg;omega);replace hw4:=hw4.mod m4 (fun g hg=>by cases hg;omega);replace hw7:=hw7.mod m4 (fun g hg=>by cases hg;omega);replace hw8:=hw8.mod m4 (fun g hg=>by cases hg;omega);replace hw5:=hw5.mod m4 (fun g hg=>by cases hg;omega);replace hw6:=hw6.mod m4 (fun g hg=>by cases hg;omega)
  have z10:=m4.size
  refine Qd (Qx (Xh Z Z (Qv Yh h3.at Z) E ?_))
  rw [recvW_yes hse]
  exact ⟨_,Z,Worker.mkO (⟨(Kn x r).queue,(Kn x r).staged,(Kn x r).inputs,(Kn x r).cells,List.set ((Kn x r).sums) (Int.toNat r.stamp.epoch) (IntKind.i64.wrap ((((Kn x r).sums)[(Int.toNat r.stamp.epoch)]'hi1) - 1)),List.set ((Kn x r).black) (Int.toNat r.stamp.epoch) true,(Kn x r).caps,(Kn x r).dones⟩ : Worker) sp1 (Own.widen hw1 (by omega) (by omega)) (Own.widen hw2 (by omega) (by omega)) (Own.widen hw3 (by omega) (by omega)) (Own.widen hw4 (by omega) (by omega)) (Own.widen hw5 (by omega) (by omega)) (Own.widen hw6 (by omega) (by omega)) (Own.widen hw7 (by omega) (by omega)) (Own.widen hw8 (by omega) (by omega))⟩
 ·refine Qy (Qh (Qi [true,false] Z Z (Qa (Ql Yh Z h1.at Z) Z (Qs (cs':=[o9,o10,o11,o12,o13,o14,o15,o16]) Yh Z Z Z (Qg hw1.one (Qg hw2.one (Qg hw3.one (Qg hw4.one (Qg hw5.one (Qg hw6.one (Qg hw7.one (Qg hw8.one Z)))))))) h3 (Nat.le_of_ble_eq_true Z) Z (fun w12 m5 h3'=>?_)))))
  replace h3:=h3'
  replace E:=E.step m5 (fun g hg=>by cases hg;omega);replace h1:=h1.mod m5 (fun g hg=>by cases hg;omega);replace h2:=h2.mod m5 (fun g hg=>by cases hg;omega);replace hw1:=hw1.mod m5 (fun g hg=>by cases hg;omega);replace hw2:=hw2.mod m5 (fun g hg=>by cases hg;omega);replace hw3:=hw3.mod m5 (fun g hg=>by cases hg;omega);replace hw4:=hw4.mod m5 (fun g hg=>by cases hg;omega);replace hw5:=hw5.mod m5 (fun g hg=>by cases hg;omega);replace hw6:=hw6.mod m5 (fun g hg=>by cases hg;omega);replace hw7:=hw7.mod m5 (fun g hg=>by cases hg;omega);replace hw8:=hw8.mod m5 (fun g hg=>by cases hg;omega)
  have z11:=m5.size
  refine Qd (Qx (Xh Z Z (Qv Yh h3.at Z) E ?_))
  rw [recvW_no (recv_sn hd5.1.1 hc1)]
  exact ⟨_,Z,Worker.mkO (Kn x r) sp1 (Own.widen hw1 (by omega) (by omega)) (Own.widen hw2 (by omega) (by omega)) (Own.widen hw3 (by omega) (by omega)) (Own.widen hw4 (by omega) (by omega)) (Own.widen hw5 (by omega) (by omega)) (Own.widen hw6 (by omega) (by omega)) (Own.widen hw7 (by omega) (by omega)) (Own.widen hw8 (by omega) (by omega))⟩

set_option maxHeartbeats 4000000 in
set_option maxRecDepth 20000 in
theorem s_PutCell (vxs : Value) (xs : List Cell) (x : Cell) (w : World) (hxs : RdS w vxs xs) (hb : xs.length ≤ 4194304) : Ct Tryz.prog 126 [vxs,.agg (Enc.enc x).toArray] w (fun v w'=>Own w' w.heap.size w'.heap.size 4 v (List.flatMap (Enc.enc (α:=Cell)) (H3 xs x))):=by
 refine Yp Tryz.func126 Z Tryz.ntmps126 Z ?_
 refine Yb [(0,vxs),(1,.agg (Enc.enc x).toArray)] ⟨Z,Z,trivial⟩ ?_
 have E : Ext w w:=Ext.refl w
 refine Qh (Qi [false,true] Z Z (Xb Z Z (fun b1 w1 e1 s1 h1=>?_)))
 have g_b1 : w.heap.size ≤ b1:=by have:=E.size;omega
 have y_b1:=h1.lt
 replace E:=E.trans e1
 have z1:=e1.size
 refine Qa (Qe Z) Z (Qd (Qh (Qh (Qi [true,true,false] Z Z (Qa (Qb Z) Z (Qa (Ql Vx Z h1.at Z) Z (Qw Tryz.call125 Z (s_HasCell vxs xs x _ (hxs.ext E)) Z (fun _ w2 e2 hv=>?_))))))))
 subst hv
 replace E:=E.trans e2;replace h1:=h1.ext e2
 have z2:=e2.size
 refine Qd (Qt Z (fun hc1=>?_) (fun hc1=>?_))
 ·refine Qh (Qi [false,true,false,true] Z Z (Qz (vs:=[]) (css:=[]) K3 Z Z trivial Z Z (fun b2 w3 e3 s2 h2=>?_)))
  replace h2 : Blk w3 b2 []:=h2
  have g_b2 : w.heap.size ≤ b2:=by have:=E.size;omega
  have y_b2:=h2.lt
  replace E:=E.trans e3;replace h1:=h1.ext e3
  have z3:=e3.size
  refine Qa (Qb Z) Z (Xo K3 Z Z (Own.ofBlk (lo:=b2) (hi:=b2 + 1) (sz:=4) h2 (Nat.le_refl _) (Nat.lt_succ_self _) (by simp) (by simp [maxLen])) (RdS.src (hxs.ext E)) (Xm _) (by simp only [Ya,List.length_nil,List.length_append,List.length_take,List.length_drop,List.length_cons];simp only [Enc.sz];omega) (by decide) (by omega) (by omega) Z Z (fun v1 w4 m1 ho1=>?_))
  replace E:=E.step m1 (fun g hg=>by have:=Own.blk (Own.ofBlk (lo:=b2) (hi:=b2 + 1) (sz:=4) h2 (Nat.le_refl _) (Nat.lt_succ_self _) (by simp) (by simp [maxLen])) g hg;omega);replace h1:=h1.mod m1 (fun g hg=>by have:=Own.blk (Own.ofBlk (lo:=b2) (hi:=b2 + 1) (sz:=4) h2 (Nat.le_refl _) (Nat.lt_succ_self _) (by simp) (by simp [maxLen])) g hg;omega)
  have z4:=m1.size
  refine Qa (Qe Z) Z (Qd (Qx (Qu Z Z E ?_)))
  exact Own.fin ho1 (by omega) (by omega) (by simp only [putM_yes hc1,List.nil_append])
 ·refine Qy (Qh (Qi [true] Z Z (Qa (Qe Z) Z (Qd (Qh (Q2 (Y6 (fun (k : Nat)=>[(0,vxs),(3,.pointer (some ⟨b1,0,none⟩)),(4,.slice none 0 0),(5,.int .i64 ((k : Nat) : Int))]) (fun (k : Nat) w'=>Ext w w' ∧ w2.heap.size ≤ w'.heap.size ∧ Blk w' b1 (Enc.enc x) ∧ k ≤ xs.length ∧ (xs.take k).all (Ah x) = true) (fun (k : Nat)=>xs.length - k) 0 ⟨Z,Z,Z,Z,trivial⟩ ⟨E,Nat.le_refl _,h1,Nat.zero_le _,Z⟩ ?_)))))))
  clear E h1
  rintro k w5 ⟨E,z5,h1,hk,hI⟩
  refine Qh (Qh (Xk Xd [(0,true),(1,true),(2,true),(3,true),(4,true),(5,true),(6,true),(7,true),(8,true),(9,true),(10,false),(11,true),(12,true)] (by decide +kernel) Z (fun w6 e4=>?_)))
  replace E:=E.trans e4;replace h1:=h1.ext e4
  have z6:=e4.size
  refine Qa (Qb Z) Z (Qa (Qb Z) Z (Qa (Ye Tryz.underlying28 Z (hxs.ext E).len) Z (Qa (Xe Z Z) Z (Qa (Qb Z) Z (Xr 8 [(0,vxs),(3,.pointer (some ⟨b1,0,none⟩)),(4,.slice none 0 0),(5,.int .i64 ((k : Nat) : Int)),(25,.bool ((decide (((k : Nat) : Int) < ((xs.length : Nat) : Int))) && (decide ((Kg (List.getD xs k default) x) < 0))))] (fun w'=>Ext w w' ∧ w6.heap.size ≤ w'.heap.size ∧ Blk w' b1 (Enc.enc x)) ?_ ?_)))))
  ·refine Yz (gd:=17) Z Z (fun hg1=>?_) (fun hg1=>?_)
   ·have hg1n : k < xs.length:=by first | (have h:=of_decide_eq_true hg1;omega) | (have h:=hg1;simp at h;omega)
    refine Qm Z Z (Qb Z) Z (Qm Z Z (Qb Z) Z (Qm Z Z (Q5 (i:=k) K3 Z Z (hxs.ext E) (by first | assumption | omega | (simp only [List.length_set];first | assumption | omega) | (simp only [List.getElem_set_self,List.length_set];first | assumption | omega) | (simp only [Y3,Yj,List.length_set];first | assumption | omega) | (simp;done))) Z (Qm Z Z (Ql Vx Z (RdS.getD (hxs.ext E) (i:=k) (by first | assumption | omega | (simp only [List.length_set];first | assumption | omega) | (simp only [List.getElem_set_self,List.length_set];first | assumption | omega) | (simp only [Y3,Yj,List.length_set];first | assumption | omega) | (simp;done))) Z) Z (Qm Z Z (Ql Vx Z h1.at Z) Z ?_))))
    refine Xa Z Z ?_
    refine Qw Tryz.call62 Z (s_CellOrder (List.getD xs k default) x _ ) Z (fun _ w8 e5 hv=>?_)
    subst hv
    replace E:=E.trans e5;replace h1:=h1.ext e5
    have z7:=e5.size
    refine Qm Z Z (Xe Z Z) Z (Qa (Qr Z Z) Z (Qn ⟨Z,Z,Z,Z,congrArg (fun b=>some (Value.bool b)) (show (decide ((Kg (List.getD xs k default) x) < 0)) = ((decide (((k : Nat) : Int) < ((xs.length : Nat) : Int))) && (decide ((Kg (List.getD xs k default) x) < 0))) by first | (rw [hg1] <;> rfl) | (simp [hg1];done) | (simp only [Qq] <;> simp)),trivial⟩ ⟨E,(by omega),h1⟩))
   ·have hg1n : ¬ k < xs.length:=by first | (have h:=of_decide_eq_false hg1;omega) | (have h:=hg1;simp at h;omega)
    refine Qc Z Z Z Z (Qc Z Z Z Z (Qc Z Z Z Z (Qc Z Z Z Z (Qc Z Z Z Z ?_))))
    refine Q3 Z Z Z Z ?_
    refine Qc Z Z Z Z (Qa (Qp Z Z) Z (Qn ⟨Z,Z,Z,Z,congrArg (fun b=>some (Value.bool b)) (show false = ((decide (((k : Nat) : Int) < ((xs.length : Nat) : Int))) && (decide ((Kg (List.getD xs k default) x) < 0))) by first | (rw [hg1] <;> rfl) | (simp [hg1];done) | (simp only [Qq] <;> simp)),trivial⟩ ⟨E,(by omega),h1⟩))
  clear E h1
  rintro w7 ⟨E,z8,h1⟩
  refine Qd (Qt Z (fun hc2=>?_) (fun hc2=>?_))
  ·have hlt:=put_lt hc2
   refine Qy (Q2 (Qi [true,true,true] Z Z (Qa (Qb Z) Z (Qa (Yu Z Z (Ku (by unfold maxLen;omega))) Z (Qa (Qe Z) Z (Qd (Q4 (Yn (Q4 (Yg (k + 1) (by omega) ⟨Z,Z,Z,Z,trivial⟩ ⟨E,(by omega),h1,(by omega),(put_step hI hc2)⟩))))))))))
  ·refine Y5 (Yc (Q8 ?_))
   refine Qh ?_
   have hk1 : k ≤ xs.length:=by first | assumption | omega
   have hs1 : RdS (α:=Cell) w (slTo vxs k) (List.take k xs):=RdL.slTo hxs hk1
   refine S_regF Xd [7] 6 34 [33] [(1,true),(2,true),(3,true),(5,true)] [(0,false),(4,false)] [(7,false),(8,true)] (fun b=>.slice (some ⟨b,0,none⟩) 1 1) (z:=[.int .i64 x.op,.int .i64 x.epoch,.int .i64 x.key,.int .i64 x.val]) (by decide +kernel) Z Z Z Z Z Z Z [(0,vxs),(3,.pointer (some ⟨b1,0,none⟩)),(4,.slice none 0 0),(5,.int .i64 ((k : Nat) : Int)),(25,.bool ((decide (((k : Nat) : Int) < ((xs.length : Nat) : Int))) && (decide ((Kg (List.getD xs k default) x) < 0)))),(29,vxs),(30,.int .i64 ((k : Nat) : Int)),(31,slTo vxs k),(33,.agg (Enc.enc x).toArray)] [(33,.agg (Enc.enc x).toArray)] Z ⟨Z,trivial⟩ (fun w'=>Ext w w' ∧ w7.heap.size ≤ w'.heap.size ∧ Blk w' b1 (Enc.enc x)) (float_lit1 K3 Z Z Z Z) (fun w9 e6=>?_) (fun w9 hphi_w9=>?_)
   ·replace E:=E.trans e6;replace h1:=h1.ext e6
    have z9:=e6.size
    refine Qa (Qb Z) Z (Qa (Qb Z) Z (Qa (Ck K3 Z Z (RdL.room (hxs.ext E)) hk1) Z (Qa (Ql Vx Z h1.at Z) Z (Qn ⟨Z,Z,Z,Z,Z,Z,Z,Z,Z,trivial⟩ ⟨E,(by omega),h1⟩))))
   clear E h1
   obtain ⟨E,z10,h1⟩:=hphi_w9
   refine JI_un Z (fun w10 e7=>?_) Z
   replace E:=E.trans e7;replace h1:=h1.ext e7
   have z11:=e7.size
   refine Qz (vs:=[]) (css:=[]) K3 Z Z trivial Z Z (fun b3 w11 e8 s3 h3=>?_)
   replace h3 : Blk w11 b3 []:=h3
   have g_b3 : w.heap.size ≤ b3:=by have:=E.size;omega
   have y_b3:=h3.lt
   replace E:=E.trans e8;replace h1:=h1.ext e8
   have z12:=e8.size
   refine JI_go2 ?_
   refine JI_un Z (fun w12 e9=>?_) Z
   replace E:=E.trans e9;replace h1:=h1.ext e9;replace h3:=h3.ext e9
   have z13:=e9.size
   refine J_appendD K3 Z Z (Own.ofBlk (lo:=b3) (hi:=b3 + 1) (sz:=4) h3 (Nat.le_refl _) (Nat.lt_succ_self _) (by simp) (by simp [maxLen])) ⟨_,_,Z⟩ (RdS.src (hs1.ext E)) (Xm _) (by simp only [Ya,List.length_nil,List.length_append,List.length_take,List.length_drop,List.length_cons];simp only [Enc.sz];omega) (by decide) (by omega) (by omega) Z (fun v2 w13 e10 ho2 hb_ho2=>?_)
   replace E:=E.trans e10;replace h1:=h1.ext e10
   have z14:=e10.size
   have g_ho2 : w.heap.size ≤ b3:=by have:=E.size;omega
   have hn1 : ∀ g,Value.ownBlock v2 = some g → g = b3 ∨ w12.heap.size ≤ g:=fun g hg=>(hb_ho2 g hg).elim (fun h=>.inl (by cases h;rfl)) (fun h=>.inr h)
   replace ho2 : Own w13 b3 w13.heap.size 4 v2 (List.flatMap (Enc.enc (α:=Cell)) (List.take k xs)):=ho2
   refine JI_go2 ?_
   refine JI_end Z (fun b4 w14 e11 g1 y1 h4 hI1=>?_)
   have hI1_0 : b4 < w10.heap.size ∨ w11.heap.size ≤ b4:=hI1 (_,_) (by simp)
   have hI1_1 : b4 < w12.heap.size ∨ w13.heap.size ≤ b4:=hI1 (_,_) (by simp)
   replace E:=E.trans e11;replace h1:=h1.ext e11;replace ho2:=ho2.ext e11
   have z15:=e11.size
   have g_b4 : w.heap.size ≤ b4:=by have:=E.size;omega
   have y_b4:=h4.lt
   refine J2_sub [(0,vxs),(3,.pointer (some ⟨b1,0,none⟩)),(4,.slice none 0 0),(5,.int .i64 ((k : Nat) : Int)),(25,.bool ((decide (((k : Nat) : Int) < ((xs.length : Nat) : Int))) && (decide ((Kg (List.getD xs k default) x) < 0)))),(28,.slice (some ⟨b3,0,none⟩) 0 0),(29,vxs),(30,.int .i64 ((k : Nat) : Int)),(31,slTo vxs k),(32,v2),(33,.agg (Enc.enc x).toArray),(34,.slice (some ⟨b4,0,none⟩) 1 1)] ⟨Z,Z,Z,Z,Z,Z,Z,Z,Z,Z,Z,Z,trivial⟩ ?_
   refine J2_X Z ?_
   refine Ka K3 Z Z ho2 (Src.ofBlk h4 Z) Z (by simp only [Ya,List.length_nil,List.length_append,List.length_take,List.length_drop,List.length_cons];simp only [Enc.sz];omega) (by decide) (by omega) (by omega) Z Z (fun v3 w15 m2 ho3 hb1=>?_)
   have hn2 : ∀ g,Value.ownBlock v3 = some g → g = b3 ∨ w12.heap.size ≤ g:=fun g hg=>(hb1 g hg).elim (fun h=>hn1 g h) (fun h=>by omega)
   replace E:=E.step m2 (fun g hg=>by have:=Own.blk ho2 g hg;have:=hn1 g hg;omega);replace h1:=h1.mod m2 (fun g hg=>by have:=Own.blk ho2 g hg;have:=hn1 g hg;omega)
   have z16:=m2.size
   refine Bp ?_
   refine Qa (Qe Z) Z (Qd (Qh (Qi [true,true,true,true,false,true] Z Z (Qa (Qb Z) Z (Qa (Qb Z) Z (Qa (Qb Z) Z ?_))))))
   have hk2 : k ≤ xs.length:=by first | assumption | omega
   have hs2 : RdS (α:=Cell) w (slFrom vxs k 4) (List.drop k xs):=RdL.slFrom hxs hk2
   refine Qa (Gi K3 Z Z (RdL.room (hxs.ext E)) hk2) Z (Ka K3 Z Z ho3 (RdS.src (hs2.ext E)) (Xm _) (by simp only [Ya,List.length_nil,List.length_append,List.length_take,List.length_drop,List.length_cons];simp only [Enc.sz];omega) (by decide) (by omega) (by omega) Z Z (fun v4 w16 m3 ho4 hb2=>?_))
   have hn3 : ∀ g,Value.ownBlock v4 = some g → g = b3 ∨ w12.heap.size ≤ g:=fun g hg=>(hb2 g hg).elim (fun h=>hn2 g h) (fun h=>by omega)
   replace E:=E.step m3 (fun g hg=>by have:=Own.blk ho3 g hg;have:=hn2 g hg;omega);replace h1:=h1.mod m3 (fun g hg=>by have:=Own.blk ho3 g hg;have:=hn2 g hg;omega)
   have z17:=m3.size
   refine Qa (Qe Z) Z (Qd (Qx (Qu Z Z E ?_)))
   exact Own.fin ho4 (by omega) (by omega) (by rw [putM_no hc1 hI hk hc2,insM_flat];rfl)

set_option maxHeartbeats 4000000 in
set_option maxRecDepth 20000 in
theorem s_Recall (kind : Int) (vxs : Value) (xs : List Cell) (x : Cell) (w : World) (hxs : RdS w vxs xs) (hb : xs.length ≤ 4194304) : Ct Tryz.prog 116 [.int .i64 kind,vxs,.agg (Enc.enc x).toArray] w (fun v w'=>∃ u0,v = .tuple [u0,.bool ((X8 kind xs x).2)].toArray ∧ Own w' w.heap.size w'.heap.size 4 u0 (List.flatMap (Enc.enc (α:=Cell)) ((X8 kind xs x).1))):=by
 refine Yp Tryz.func116 Z Tryz.ntmps116 Z ?_
 refine Yb [(0,.int .i64 kind),(1,vxs),(2,.agg (Enc.enc x).toArray)] ⟨Z,Z,Z,trivial⟩ ?_
 have E : Ext w w:=Ext.refl w
 refine Qh (Qi [false,true,true] Z Z (Xb Z Z (fun b1 w1 e1 s1 h1=>?_)))
 have g_b1 : w.heap.size ≤ b1:=by have:=E.size;omega
 have y_b1:=h1.lt
 replace E:=E.trans e1
 have z1:=e1.size
 refine Qa (Qe Z) Z (Qa (Qe Z) Z (Qd (Qh (Qi [false,true,false,true] Z Z (Qz (vs:=[]) (css:=[]) K3 Z Z trivial Z Z (fun b2 w2 e2 s2 h2=>?_))))))
 replace h2 : Blk w2 b2 []:=h2
 have g_b2 : w.heap.size ≤ b2:=by have:=E.size;omega
 have y_b2:=h2.lt
 replace E:=E.trans e2;replace h1:=h1.ext e2
 have z2:=e2.size
 refine Qa (Qb Z) Z (Xo K3 Z Z (Own.ofBlk (lo:=b2) (hi:=b2 + 1) (sz:=4) h2 (Nat.le_refl _) (Nat.lt_succ_self _) (by simp) (by simp [maxLen])) (RdS.src (hxs.ext E)) (Xm _) (by first | (simp only [Ya,List.length_nil,List.length_cons];simp only [Enc.sz];omega) | (have h:=Hm xs (fun y=>!(Uf x y)) k;simp only [show Enc.sz Cell = 4 from Z] at h;simp only [List.length_cons,List.length_nil];omega)) (by decide) (by omega) (by omega) Z Z (fun v1 w3 m1 ho1=>?_))
 replace E:=E.step m1 (fun g hg=>by have:=Own.blk (Own.ofBlk (lo:=b2) (hi:=b2 + 1) (sz:=4) h2 (Nat.le_refl _) (Nat.lt_succ_self _) (by simp) (by simp [maxLen])) g hg;omega);replace h1:=h1.mod m1 (fun g hg=>by have:=Own.blk (Own.ofBlk (lo:=b2) (hi:=b2 + 1) (sz:=4) h2 (Nat.le_refl _) (Nat.lt_succ_self _) (by simp) (by simp [maxLen])) g hg;omega)
 have z3:=m1.size
 refine Qa (Qe Z) Z (Qd (Qh (Qh (Qi [true] Z Z (Qa (Qb Z) Z (Qd (Q2 (Qh (Qi [true,true] Z Z (Qa (Y9 Z Z) Z (Qa (Qe Z) Z (Qd (Qt Z (fun hc1=>?_) (fun hc1=>?_))))))))))))))
 ·refine Qh (Qh (Qi [true,true,false] Z Z (Qa (Qb Z) Z (Qa (Ql Vx Z h1.at Z) Z (Qw Tryz.call125 Z (s_HasCell vxs xs x _ (hxs.ext E)) Z (fun _ w4 e3 hv=>?_))))))
  subst hv
  replace E:=E.trans e3;replace h1:=h1.ext e3;replace ho1:=ho1.ext e3
  have z4:=e3.size
  refine Qd (Qt Z (fun hc2=>?_) (fun hc2=>?_))
  ·refine Qh (Qi [true,true,true] Z Z (Qa (Qb Z) Z (Qa (Qe Z) Z (Qa (Qe Z) Z (Qd (Qx (Q0 (Y1 (l:=[.tmp 6,.tmp 7]) (vs:=[v1,.bool false]) Z ⟨.tmp Z,.tmp Z,trivial⟩ Z E ?_))))))))
   rw [recallM_h (by assumption) (by assumption)]
   exact ⟨_,Z,Own.fin ho1 (by omega) (by omega) (by first | rfl | simp only [List.nil_append])⟩
  ·refine Qy (Qh (Qi [true,true,false,true,true] Z Z (Qa (Qb Z) Z (Qa (Ql Vx Z h1.at Z) Z (Qw Tryz.call126 Z (s_PutCell vxs xs x _ (hxs.ext E) (by omega)) Z (fun v2 w5 e4 ho2=>?_))))))
   have g_ho2 : w.heap.size ≤ w4.heap.size:=E.size
   replace E:=E.trans e4;replace h1:=h1.ext e4;replace ho1:=ho1.ext e4
   have z5:=e4.size
   refine Qa (Qe Z) Z (Qa (Qe Z) Z (Qd (Qx (Q0 (Y1 (l:=[.tmp 6,.tmp 7]) (vs:=[v2,.bool true]) Z ⟨.tmp Z,.tmp Z,trivial⟩ Z E ?_)))))
   rw [recallM_i (by assumption) (by assumption)]
   exact ⟨_,Z,Own.fin ho2 (by omega) (by omega) (by first | rfl | simp only [List.nil_append])⟩
 ·refine Qh (Qh (Qi [true,true] Z Z (Qa (Y9 Z Z) Z (Qa (Qe Z) Z (Qd (Qt Z (fun hc3=>?_) (fun hc3=>?_)))))))
  ·refine Qy (S_condTe Z hc3 (Qh (Qi [true,true,true,true,true,true,true,false,true,true,true,true,true] Z Z (Qa (Qb Z) Z (Qa (Qf V3 Z) Z (Qa (Qk Xi Z (h1.one 0 Z)) Z (Qa (Qf V2 Z) Z (Qa (Qk Xi Z (h1.one 1 Z)) Z (Qa (Qf V1 Z) Z (Qa (Qk Xi Z (h1.one 2 Z)) Z (Qw Tryz.call127 Z (s_LeastOf vxs xs x.op x.epoch x.key _ (hxs.ext E)) Z (fun _ w6 e5 hv=>?_))))))))))))
   subst hv
   replace E:=E.trans e5;replace h1:=h1.ext e5;replace ho1:=ho1.ext e5
   have z6:=e5.size
   refine Qa (Qb Z) Z (Qa (Ym Z Z) Z (Qa (Ym Z Z) Z (Qa (Qe Z) Z (Qa (Qe Z) Z (Qd (Qh (Qh (Qi [true,true,true,true,true,true,true] Z Z (Qa (Qb Z) Z (Qa (Qb Z) Z (Xr 5 [(0,.int .i64 kind),(1,vxs),(2,.agg (Enc.enc x).toArray),(5,.pointer (some ⟨b1,0,none⟩)),(6,.slice none 0 0),(7,.bool false),(8,v1),(9,.int .i64 ((Yt xs x.op x.epoch x.key).1)),(10,.bool ((Yt xs x.op x.epoch x.key).2)),(13,.slice (some ⟨b2,0,none⟩) 0 0),(14,vxs),(15,v1),(16,.int .i64 kind),(17,.bool (kind == 6)),(18,.bool (kind == 6)),(26,.bool (kind == 5)),(27,.bool (kind == 5)),(29,.tuple [.int .i64 ((Yt xs x.op x.epoch x.key).1),.bool ((Yt xs x.op x.epoch x.key).2)].toArray),(30,vxs),(31,.pointer (some ⟨b1,0,none⟩)),(32,.int .i64 x.op),(33,.pointer (some ⟨b1,1,none⟩)),(34,.int .i64 x.epoch),(35,.pointer (some ⟨b1,2,none⟩)),(36,.int .i64 x.key),(37,.tuple [.int .i64 ((Yt xs x.op x.epoch x.key).1),.bool ((Yt xs x.op x.epoch x.key).2)].toArray),(38,.int .i64 ((Yt xs x.op x.epoch x.key).1)),(39,.bool ((Yt xs x.op x.epoch x.key).2)),(46,.bool (((Yt xs x.op x.epoch x.key).2) && (decide (((Yt xs x.op x.epoch x.key).1) ≤ x.val))))] (fun w'=>w6 = w') ?_ ?_)))))))))))
   ·refine Yz (gd:=41) Z Z (fun hg1=>?_) (fun hg1=>?_)
    ·refine Qm Z Z (Qb Z) Z (Qm Z Z (Qf Hj Z) Z (Qm Z Z (Qk Xi Z (h1.one 3 Z)) Z (Qm Z Z (H8 Z Z) Z (Qa (Qr Z Z) Z (Qn ⟨Z,Z,Z,Z,Z,Z,Z,Z,Z,Z,Z,Z,Z,Z,Z,Z,Z,Z,Z,Z,Z,Z,Z,Z,Z,Z,Z,Z,congrArg (fun b=>some (Value.bool b)) (show (decide (((Yt xs x.op x.epoch x.key).1) ≤ x.val)) = (((Yt xs x.op x.epoch x.key).2) && (decide (((Yt xs x.op x.epoch x.key).1) ≤ x.val))) by first | (rw [hg1] <;> rfl) | (simp [hg1];done) | (simp only [Qq] <;> simp)),trivial⟩ Z)))))
    ·refine Qc Z Z Z Z (Qc Z Z Z Z (Qc Z Z Z Z (Qc Z Z Z Z (Qa (Qp Z Z) Z (Qn ⟨Z,Z,Z,Z,Z,Z,Z,Z,Z,Z,Z,Z,Z,Z,Z,Z,Z,Z,Z,Z,Z,Z,Z,Z,Z,Z,Z,Z,congrArg (fun b=>some (Value.bool b)) (show false = (((Yt xs x.op x.epoch x.key).2) && (decide (((Yt xs x.op x.epoch x.key).1) ≤ x.val))) by first | (rw [hg1] <;> rfl) | (simp [hg1];done) | (simp only [Qq] <;> simp)),trivial⟩ Z)))))
   rintro _ rfl
   refine Qd (Qt Z (fun hc4=>?_) (fun hc4=>?_))
   ·refine Qh (Qi [true,true,true] Z Z (Qa (Qb Z) Z (Qa (Qe Z) Z (Qa (Qe Z) Z (Qd (Qx (Q0 (Y1 (l:=[.tmp 6,.tmp 7]) (vs:=[v1,.bool false]) Z ⟨.tmp Z,.tmp Z,trivial⟩ Z E ?_))))))))
    rw [Hw (.inl (by assumption)),K8 (by assumption)]
    exact ⟨_,Z,Own.fin ho1 (by omega) (by omega) (by first | rfl | simp only [List.nil_append])⟩
   ·refine Qy (Qh (Qi [false,true] Z Z (Qz (vs:=[]) (css:=[]) K3 Z Z trivial Z Z (fun b3 w8 e6 s3 h3=>?_))))
    replace h3 : Blk w8 b3 []:=h3
    have g_b3 : w.heap.size ≤ b3:=by have:=E.size;omega
    have y_b3:=h3.lt
    replace E:=E.trans e6;replace h1:=h1.ext e6;replace ho1:=ho1.ext e6
    have z7:=e6.size
    refine Qa (Qe Z) Z (Qd (Qh (Qh (Qi [true] Z Z (Qa (Qe Z) Z (Qd (Q2 (Y6 (fun (xq : Nat × Value)=>let ⟨k,vo⟩:=xq;[(1,vxs),(5,.pointer (some ⟨b1,0,none⟩)),(6,.slice none 0 0),(7,.bool false),(8,v1),(11,vo),(12,.int .i64 ((k : Nat) : Int))]) (fun (xq : Nat × Value) w'=>let ⟨k,vo⟩:=xq;Ext w w' ∧ w8.heap.size ≤ w'.heap.size ∧ Blk w' b1 (Enc.enc x) ∧ Own w' b2 w3.heap.size 4 v1 ([] ++ List.flatMap (Enc.enc (α:=Cell)) xs) ∧ k ≤ xs.length ∧ Own w' b3 w'.heap.size 4 vo (List.flatMap (Enc.enc (α:=Cell)) ((xs.take k).filter (fun y=>!(Uf x y))))) (fun (xq : Nat × Value)=>let ⟨k,vo⟩:=xq;xs.length - k) (0,.slice (some ⟨b3,0,none⟩) 0 0) ⟨Z,Z,Z,Z,Z,Z,Z,trivial⟩ ⟨E,Nat.le_refl _,h1,ho1,Nat.zero_le _,Own.fin (Own.ofBlk (lo:=b3) (hi:=b3 + 1) (sz:=4) h3 (Nat.le_refl _) (Nat.lt_succ_self _) (by simp) (by simp [maxLen])) (by have:=E.size;omega) (by omega) Z⟩ ?_))))))))
    clear E h1 ho1 h3
    rintro ⟨k,vo⟩ w9 ⟨E,z8,h1,ho1,hk,ho⟩
    refine Yb [(1,vxs),(5,.pointer (some ⟨b1,0,none⟩)),(6,.slice none 0 0),(7,.bool false),(8,v1),(11,vo),(12,.int .i64 ((k : Nat) : Int))] ⟨Z,Z,Z,Z,Z,Z,Z,trivial⟩ ?_
    refine Qh (Qh (Qi [true,true,true,true] Z Z (Qa (Qb Z) Z (Qa (Qb Z) Z (Qa (Ye Tryz.underlying28 Z (hxs.ext E).len) Z (Qa (Xe Z Z) Z (Qd (Qt Z (fun hc5=>?_) (fun hc5=>?_)))))))))
    ·have hc5n : k < xs.length:=by first | (have h:=of_decide_eq_true hc5;omega) | (have h:=hc5;simp at h;omega)
     refine Qy (Qh (Q2 (Qh (Xk Xd [(0,true),(1,true),(2,true),(3,true),(4,true),(5,true),(6,true),(7,true),(8,true),(9,true),(10,true),(11,true),(12,true),(13,true),(14,true),(15,true),(16,true),(17,true),(18,true),(19,true),(20,true),(21,true),(22,true),(23,true),(24,true),(25,true),(26,true),(27,true)] (by decide +kernel) Z (fun w10 e7=>?_)))))
     replace E:=E.trans e7;replace h1:=h1.ext e7;replace ho1:=ho1.ext e7;replace ho:=ho.ext e7
     have z9:=e7.size
     refine Qa (Qb Z) Z (Qa (Qb Z) Z ?_)
     have hi1 : k < xs.length:=(by first | assumption | omega | (simp only [List.length_set];first | assumption | omega) | (simp only [List.getElem_set_self,List.length_set];first | assumption | omega) | (simp only [Y3,Yj,List.length_set];first | assumption | omega) | (simp;done))
     refine Qa (Q5 (i:=k) K3 Z Z (hxs.ext E) hi1) Z (Qa (Q7 V3 Z) Z (Qa (Qk Xi Z (((hxs.ext E).get hi1).one 0 Z)) Z (Qa (Qf V3 Z) Z (Qa (Qk Xi Z (h1.one 0 Z)) Z (Qa (X1 Z Z) Z (Qa (Qb Z) Z (Xr 19 [(1,vxs),(5,.pointer (some ⟨b1,0,none⟩)),(6,.slice none 0 0),(7,.bool false),(8,v1),(11,vo),(12,.int .i64 ((k : Nat) : Int)),(49,.int .i64 ((k : Nat) : Int)),(50,vxs),(51,.int .i64 ((xs.length : Nat) : Int)),(52,.bool (decide (((k : Nat) : Int) < ((xs.length : Nat) : Int)))),(82,.bool (((((xs[k]'hi1).op) != x.op) || (((xs[k]'hi1).epoch) != x.epoch)) || (((xs[k]'hi1).key) != x.key)))] (fun w'=>w10 = w') ?_ ?_)))))))
     ·refine Yz (gd:=63) Z Z (fun hg2=>?_) (fun hg2=>?_)
      ·refine Qc Z Z Z Z (Qc Z Z Z Z (Qc Z Z Z Z (Qc Z Z Z Z (Qc Z Z Z Z (Qc Z Z Z Z (Qc Z Z Z Z (Qc Z Z Z Z (Qa (Qr Z Z) Z (Qa (Qb Z) Z (Qc Z Z Z Z (Qc Z Z Z Z (Qc Z Z Z Z (Qc Z Z Z Z (Qc Z Z Z Z (Qc Z Z Z Z (Qc Z Z Z Z (Qc Z Z Z Z (Qa (Qr Z Z) Z (Qn ⟨Z,Z,Z,Z,Z,Z,Z,Z,Z,Z,Z,congrArg (fun b=>some (Value.bool b)) (show true = (((((xs[k]'hi1).op) != x.op) || (((xs[k]'hi1).epoch) != x.epoch)) || (((xs[k]'hi1).key) != x.key)) by first | (rw [hg2] <;> rfl) | (simp [hg2];done) | (simp only [Qq] <;> simp)),trivial⟩ Z)))))))))))))))))))
      ·refine Qm Z Z (Qb Z) Z (Qm Z Z (Qb Z) Z (Qm Z Z (Q5 (i:=k) K3 Z Z (hxs.ext E) hi1) Z (Qm Z Z (Q7 V2 Z) Z (Qm Z Z (Qk Xi Z (((hxs.ext E).get hi1).one 1 Z)) Z (Qm Z Z (Qf V2 Z) Z (Qm Z Z (Qk Xi Z (h1.one 1 Z)) Z (Qm Z Z (X1 Z Z) Z (Qa (Qp Z Z) Z (Qa (Qb Z) Z ?_)))))))))
       refine Yz (gd:=73) Z Z (fun hg3=>?_) (fun hg3=>?_)
       ·refine Qc Z Z Z Z (Qc Z Z Z Z (Qc Z Z Z Z (Qc Z Z Z Z (Qc Z Z Z Z (Qc Z Z Z Z (Qc Z Z Z Z (Qc Z Z Z Z (Qa (Qr Z Z) Z (Qn ⟨Z,Z,Z,Z,Z,Z,Z,Z,Z,Z,Z,congrArg (fun b=>some (Value.bool b)) (show true = (((((xs[k]'hi1).op) != x.op) || (((xs[k]'hi1).epoch) != x.epoch)) || (((xs[k]'hi1).key) != x.key)) by first | (rw [hg2,hg3] <;> rfl) | (simp [hg2,hg3];done) | (simp only [Qq] <;> simp)),trivial⟩ Z)))))))))
       ·refine Qm Z Z (Qb Z) Z (Qm Z Z (Qb Z) Z (Qm Z Z (Q5 (i:=k) K3 Z Z (hxs.ext E) hi1) Z (Qm Z Z (Q7 V1 Z) Z (Qm Z Z (Qk Xi Z (((hxs.ext E).get hi1).one 2 Z)) Z (Qm Z Z (Qf V1 Z) Z (Qm Z Z (Qk Xi Z (h1.one 2 Z)) Z (Qm Z Z (X1 Z Z) Z (Qa (Qp Z Z) Z (Qn ⟨Z,Z,Z,Z,Z,Z,Z,Z,Z,Z,Z,congrArg (fun b=>some (Value.bool b)) (show (((xs[k]'hi1).key) != x.key) = (((((xs[k]'hi1).op) != x.op) || (((xs[k]'hi1).epoch) != x.epoch)) || (((xs[k]'hi1).key) != x.key)) by first | (rw [hg2,hg3] <;> rfl) | (simp [hg2,hg3];done) | (simp only [Qq] <;> simp)),trivial⟩ Z)))))))))
     rintro _ rfl
     refine Qd (Qt Z (fun hc6=>?_) (fun hc6=>?_))
     ·refine Qi [true,true,true,true,true,false,false,true] Z Z (Qa (Qb Z) Z (Qa (Qb Z) Z (Qa (Qb Z) Z (Qa (Q5 (i:=k) K3 Z Z (hxs.ext E) hi1) Z (Qa (Ql Vx Z ((hxs.ext E).get hi1) Z) Z (Qz (vs:=[.agg (Enc.enc (xs[k]'hi1)).toArray]) (css:=[[.int .i64 ((xs[k]'hi1).op),.int .i64 ((xs[k]'hi1).epoch),.int .i64 ((xs[k]'hi1).key),.int .i64 ((xs[k]'hi1).val)]]) K3 Z Z ⟨⟨Z,Z⟩,trivial⟩ Z Z (fun b4 w12 e8 s4 h4=>?_)))))))
      replace h4 : Blk w12 b4 [.int .i64 ((xs[k]'hi1).op),.int .i64 ((xs[k]'hi1).epoch),.int .i64 ((xs[k]'hi1).key),.int .i64 ((xs[k]'hi1).val)]:=h4
      have g_b4 : w.heap.size ≤ b4:=by have:=E.size;omega
      have y_b4:=h4.lt
      replace E:=E.trans e8;replace h1:=h1.ext e8;replace ho1:=ho1.ext e8;replace ho:=ho.ext e8
      have z10:=e8.size
      refine Xo K3 Z Z ho (Src.ofBlk h4 Z) Z (by first | (simp only [Ya,List.length_nil,List.length_cons];simp only [Enc.sz];omega) | (have h:=Hm xs (fun y=>!(Uf x y)) k;simp only [show Enc.sz Cell = 4 from Z] at h;simp only [List.length_cons,List.length_nil];omega)) (by decide) (by omega) (by omega) Z Z (fun v3 w13 m2 ho3=>?_)
      replace E:=E.step m2 (fun g hg=>by have:=Own.blk ho g hg;omega);replace h1:=h1.mod m2 (fun g hg=>by have:=Own.blk ho g hg;omega);replace ho1:=ho1.mod m2 (fun g hg=>by have:=Own.blk ho g hg;omega)
      have z11:=m2.size
      refine Qa (Qe Z) Z (Qd (Q4 (Yn (Qi [true,true,true] Z Z (Qa (Qb Z) Z (Qa (Yu Z Z (Yw hc5n hxs.1)) Z (Qa (Qe Z) Z (Qd (Q4 (Yg (k + 1,v3) (by simp;omega) ⟨Z,Z,Z,Z,Z,Z,Z,trivial⟩ ⟨E,(by omega),h1,ho1,(by omega),Own.fin ho3 (Nat.le_refl _) (by omega) (Tu (by assumption) (ns_yes (by assumption)))⟩))))))))))
     ·refine Qy (Q4 (Yn (Qi [true,true,true] Z Z (Qa (Qb Z) Z (Qa (Yu Z Z (Yw hc5n hxs.1)) Z (Qa (Qe Z) Z (Qd (Q4 (Yg (k + 1,vo) (by simp;omega) ⟨Z,Z,Z,Z,Z,Z,Z,trivial⟩ ⟨E,(by omega),h1,ho1,(by omega),Own.fin ho (Nat.le_refl _) (by omega) (C1 (by assumption) (ns_no (by assumption)))⟩)))))))))
    ·have hc5n : ¬ k < xs.length:=by first | (have h:=of_decide_eq_false hc5;omega) | (have h:=hc5;simp at h;omega)
     refine Y5 (Yc (Q8 ?_))
     refine Qh (Qi [true,true,false,true,true] Z Z (Qa (Qb Z) Z (Qa (Ql Vx Z h1.at Z) Z (Qw Tryz.call126 Z (s_PutCell vo ((xs.take k).filter (fun y=>!(Uf x y))) x _ (Own.rd (by decide) ho) (by have h1:=List.length_filter_le (fun y=>!(Uf x y)) (xs.take k);simp only [List.length_take] at h1;omega)) Z (fun v4 w14 e9 ho4=>?_)))))
     have g_ho4 : w.heap.size ≤ w9.heap.size:=E.size
     replace E:=E.trans e9;replace h1:=h1.ext e9;replace ho1:=ho1.ext e9;replace ho:=ho.ext e9
     have z12:=e9.size
     refine Qa (Qe Z) Z (Qa (Qe Z) Z (Qd (Qx (Q0 (Y1 (l:=[.tmp 6,.tmp 7]) (vs:=[v4,.bool true]) Z ⟨.tmp Z,.tmp Z,trivial⟩ Z E ?_)))))
     rw [Hw (.inl (by assumption)),V8 (by assumption)]
     exact ⟨_,Z,Own.fin ho4 (by omega) (by omega) (by simp only [List.nil_append,List.take_of_length_le (show xs.length ≤ k by omega)] <;> rfl)⟩
  ·refine Qi [true,true] Z Z (Qa (Y9 Z Z) Z (Qa (Qe Z) Z (Qd (Qt Z (fun hc7=>?_) (fun hc7=>?_)))))
   ·refine Qh (Qi [true,true,true,true,true,true,true,false,true,true,true,true,true] Z Z (Qa (Qb Z) Z (Qa (Qf V3 Z) Z (Qa (Qk Xi Z (h1.one 0 Z)) Z (Qa (Qf V2 Z) Z (Qa (Qk Xi Z (h1.one 1 Z)) Z (Qa (Qf V1 Z) Z (Qa (Qk Xi Z (h1.one 2 Z)) Z (Qw Tryz.call127 Z (s_LeastOf vxs xs x.op x.epoch x.key _ (hxs.ext E)) Z (fun _ w15 e10 hv=>?_))))))))))
    subst hv
    replace E:=E.trans e10;replace h1:=h1.ext e10;replace ho1:=ho1.ext e10
    have z13:=e10.size
    refine Qa (Qb Z) Z (Qa (Ym Z Z) Z (Qa (Ym Z Z) Z (Qa (Qe Z) Z (Qa (Qe Z) Z (Qd (Qh (Qh (Qi [true,true,true,true,true,true,true] Z Z (Qa (Qb Z) Z (Qa (Qb Z) Z (Xr 5 [(0,.int .i64 kind),(1,vxs),(2,.agg (Enc.enc x).toArray),(5,.pointer (some ⟨b1,0,none⟩)),(6,.slice none 0 0),(7,.bool false),(8,v1),(9,.int .i64 ((Yt xs x.op x.epoch x.key).1)),(10,.bool ((Yt xs x.op x.epoch x.key).2)),(13,.slice (some ⟨b2,0,none⟩) 0 0),(14,vxs),(15,v1),(16,.int .i64 kind),(17,.bool (kind == 6)),(18,.bool (kind == 6)),(26,.bool (kind == 8)),(27,.bool (kind == 5)),(28,.bool (kind == 8)),(29,.tuple [.int .i64 ((Yt xs x.op x.epoch x.key).1),.bool ((Yt xs x.op x.epoch x.key).2)].toArray),(30,vxs),(31,.pointer (some ⟨b1,0,none⟩)),(32,.int .i64 x.op),(33,.pointer (some ⟨b1,1,none⟩)),(34,.int .i64 x.epoch),(35,.pointer (some ⟨b1,2,none⟩)),(36,.int .i64 x.key),(37,.tuple [.int .i64 ((Yt xs x.op x.epoch x.key).1),.bool ((Yt xs x.op x.epoch x.key).2)].toArray),(38,.int .i64 ((Yt xs x.op x.epoch x.key).1)),(39,.bool ((Yt xs x.op x.epoch x.key).2)),(46,.bool (((Yt xs x.op x.epoch x.key).2) && (decide (((Yt xs x.op x.epoch x.key).1) ≤ x.val))))] (fun w'=>w15 = w') ?_ ?_)))))))))))
    ·refine Yz (gd:=41) Z Z (fun hg4=>?_) (fun hg4=>?_)
     ·refine Qm Z Z (Qb Z) Z (Qm Z Z (Qf Hj Z) Z (Qm Z Z (Qk Xi Z (h1.one 3 Z)) Z (Qm Z Z (H8 Z Z) Z (Qa (Qr Z Z) Z (Qn ⟨Z,Z,Z,Z,Z,Z,Z,Z,Z,Z,Z,Z,Z,Z,Z,Z,Z,Z,Z,Z,Z,Z,Z,Z,Z,Z,Z,Z,Z,congrArg (fun b=>some (Value.bool b)) (show (decide (((Yt xs x.op x.epoch x.key).1) ≤ x.val)) = (((Yt xs x.op x.epoch x.key).2) && (decide (((Yt xs x.op x.epoch x.key).1) ≤ x.val))) by first | (rw [hg4] <;> rfl) | (simp [hg4];done) | (simp only [Qq] <;> simp)),trivial⟩ Z)))))
     ·refine Qc Z Z Z Z (Qc Z Z Z Z (Qc Z Z Z Z (Qc Z Z Z Z (Qa (Qp Z Z) Z (Qn ⟨Z,Z,Z,Z,Z,Z,Z,Z,Z,Z,Z,Z,Z,Z,Z,Z,Z,Z,Z,Z,Z,Z,Z,Z,Z,Z,Z,Z,Z,congrArg (fun b=>some (Value.bool b)) (show false = (((Yt xs x.op x.epoch x.key).2) && (decide (((Yt xs x.op x.epoch x.key).1) ≤ x.val))) by first | (rw [hg4] <;> rfl) | (simp [hg4];done) | (simp only [Qq] <;> simp)),trivial⟩ Z)))))
    rintro _ rfl
    refine Qd (Qt Z (fun hc8=>?_) (fun hc8=>?_))
    ·refine Qh (Qi [true,true,true] Z Z (Qa (Qb Z) Z (Qa (Qe Z) Z (Qa (Qe Z) Z (Qd (Qx (Q0 (Y1 (l:=[.tmp 6,.tmp 7]) (vs:=[v1,.bool false]) Z ⟨.tmp Z,.tmp Z,trivial⟩ Z E ?_))))))))
     rw [Hw (.inr (by assumption)),K8 (by assumption)]
     exact ⟨_,Z,Own.fin ho1 (by omega) (by omega) (by first | rfl | simp only [List.nil_append])⟩
    ·refine Qy (Qh (Qi [false,true] Z Z (Qz (vs:=[]) (css:=[]) K3 Z Z trivial Z Z (fun b5 w17 e11 s5 h5=>?_))))
     replace h5 : Blk w17 b5 []:=h5
     have g_b5 : w.heap.size ≤ b5:=by have:=E.size;omega
     have y_b5:=h5.lt
     replace E:=E.trans e11;replace h1:=h1.ext e11;replace ho1:=ho1.ext e11
     have z14:=e11.size
     refine Qa (Qe Z) Z (Qd (Qh (Qh (Qi [true] Z Z (Qa (Qe Z) Z (Qd (Q2 (Y6 (fun (xq : Nat × Value)=>let ⟨k,vo⟩:=xq;[(1,vxs),(5,.pointer (some ⟨b1,0,none⟩)),(6,.slice none 0 0),(7,.bool false),(8,v1),(11,vo),(12,.int .i64 ((k : Nat) : Int))]) (fun (xq : Nat × Value) w'=>let ⟨k,vo⟩:=xq;Ext w w' ∧ w17.heap.size ≤ w'.heap.size ∧ Blk w' b1 (Enc.enc x) ∧ Own w' b2 w3.heap.size 4 v1 ([] ++ List.flatMap (Enc.enc (α:=Cell)) xs) ∧ k ≤ xs.length ∧ Own w' b5 w'.heap.size 4 vo (List.flatMap (Enc.enc (α:=Cell)) ((xs.take k).filter (fun y=>!(Uf x y))))) (fun (xq : Nat × Value)=>let ⟨k,vo⟩:=xq;xs.length - k) (0,.slice (some ⟨b5,0,none⟩) 0 0) ⟨Z,Z,Z,Z,Z,Z,Z,trivial⟩ ⟨E,Nat.le_refl _,h1,ho1,Nat.zero_le _,Own.fin (Own.ofBlk (lo:=b5) (hi:=b5 + 1) (sz:=4) h5 (Nat.le_refl _) (Nat.lt_succ_self _) (by simp) (by simp [maxLen])) (by have:=E.size;omega) (by omega) Z⟩ ?_))))))))
     clear E h1 ho1 h5
     rintro ⟨k,vo⟩ w18 ⟨E,z15,h1,ho1,hk,ho⟩
     refine Yb [(1,vxs),(5,.pointer (some ⟨b1,0,none⟩)),(6,.slice none 0 0),(7,.bool false),(8,v1),(11,vo),(12,.int .i64 ((k : Nat) : Int))] ⟨Z,Z,Z,Z,Z,Z,Z,trivial⟩ ?_
     refine Qh (Qh (Qi [true,true,true,true] Z Z (Qa (Qb Z) Z (Qa (Qb Z) Z (Qa (Ye Tryz.underlying28 Z (hxs.ext E).len) Z (Qa (Xe Z Z) Z (Qd (Qt Z (fun hc9=>?_) (fun hc9=>?_)))))))))
     ·have hc9n : k < xs.length:=by first | (have h:=of_decide_eq_true hc9;omega) | (have h:=hc9;simp at h;omega)
      refine Qy (Qh (Q2 (Qh (Xk Xd [(0,true),(1,true),(2,true),(3,true),(4,true),(5,true),(6,true),(7,true),(8,true),(9,true),(10,true),(11,true),(12,true),(13,true),(14,true),(15,true),(16,true),(17,true),(18,true),(19,true),(20,true),(21,true),(22,true),(23,true),(24,true),(25,true),(26,true),(27,true)] (by decide +kernel) Z (fun w19 e12=>?_)))))
      replace E:=E.trans e12;replace h1:=h1.ext e12;replace ho1:=ho1.ext e12;replace ho:=ho.ext e12
      have z16:=e12.size
      refine Qa (Qb Z) Z (Qa (Qb Z) Z ?_)
      have hi2 : k < xs.length:=(by first | assumption | omega | (simp only [List.length_set];first | assumption | omega) | (simp only [List.getElem_set_self,List.length_set];first | assumption | omega) | (simp only [Y3,Yj,List.length_set];first | assumption | omega) | (simp;done))
      refine Qa (Q5 (i:=k) K3 Z Z (hxs.ext E) hi2) Z (Qa (Q7 V3 Z) Z (Qa (Qk Xi Z (((hxs.ext E).get hi2).one 0 Z)) Z (Qa (Qf V3 Z) Z (Qa (Qk Xi Z (h1.one 0 Z)) Z (Qa (X1 Z Z) Z (Qa (Qb Z) Z (Xr 19 [(1,vxs),(5,.pointer (some ⟨b1,0,none⟩)),(6,.slice none 0 0),(7,.bool false),(8,v1),(11,vo),(12,.int .i64 ((k : Nat) : Int)),(49,.int .i64 ((k : Nat) : Int)),(50,vxs),(51,.int .i64 ((xs.length : Nat) : Int)),(52,.bool (decide (((k : Nat) : Int) < ((xs.length : Nat) : Int)))),(82,.bool (((((xs[k]'hi2).op) != x.op) || (((xs[k]'hi2).epoch) != x.epoch)) || (((xs[k]'hi2).key) != x.key)))] (fun w'=>w19 = w') ?_ ?_)))))))
      ·refine Yz (gd:=63) Z Z (fun hg5=>?_) (fun hg5=>?_)
       ·refine Qc Z Z Z Z (Qc Z Z Z Z (Qc Z Z Z Z (Qc Z Z Z Z (Qc Z Z Z Z (Qc Z Z Z Z (Qc Z Z Z Z (Qc Z Z Z Z (Qa (Qr Z Z) Z (Qa (Qb Z) Z (Qc Z Z Z Z (Qc Z Z Z Z (Qc Z Z Z Z (Qc Z Z Z Z (Qc Z Z Z Z (Qc Z Z Z Z (Qc Z Z Z Z (Qc Z Z Z Z (Qa (Qr Z Z) Z (Qn ⟨Z,Z,Z,Z,Z,Z,Z,Z,Z,Z,Z,congrArg (fun b=>some (Value.bool b)) (show true = (((((xs[k]'hi2).op) != x.op) || (((xs[k]'hi2).epoch) != x.epoch)) || (((xs[k]'hi2).key) != x.key)) by first | (rw [hg5] <;> rfl) | (simp [hg5];done) | (simp only [Qq] <;> simp)),trivial⟩ Z)))))))))))))))))))
       ·refine Qm Z Z (Qb Z) Z (Qm Z Z (Qb Z) Z (Qm Z Z (Q5 (i:=k) K3 Z Z (hxs.ext E) hi2) Z (Qm Z Z (Q7 V2 Z) Z (Qm Z Z (Qk Xi Z (((hxs.ext E).get hi2).one 1 Z)) Z (Qm Z Z (Qf V2 Z) Z (Qm Z Z (Qk Xi Z (h1.one 1 Z)) Z (Qm Z Z (X1 Z Z) Z (Qa (Qp Z Z) Z (Qa (Qb Z) Z ?_)))))))))
        refine Yz (gd:=73) Z Z (fun hg6=>?_) (fun hg6=>?_)
        ·refine Qc Z Z Z Z (Qc Z Z Z Z (Qc Z Z Z Z (Qc Z Z Z Z (Qc Z Z Z Z (Qc Z Z Z Z (Qc Z Z Z Z (Qc Z Z Z Z (Qa (Qr Z Z) Z (Qn ⟨Z,Z,Z,Z,Z,Z,Z,Z,Z,Z,Z,congrArg (fun b=>some (Value.bool b)) (show true = (((((xs[k]'hi2).op) != x.op) || (((xs[k]'hi2).epoch) != x.epoch)) || (((xs[k]'hi2).key) != x.key)) by first | (rw [hg5,hg6] <;> rfl) | (simp [hg5,hg6];done) | (simp only [Qq] <;> simp)),trivial⟩ Z)))))))))
        ·refine Qm Z Z (Qb Z) Z (Qm Z Z (Qb Z) Z (Qm Z Z (Q5 (i:=k) K3 Z Z (hxs.ext E) hi2) Z (Qm Z Z (Q7 V1 Z) Z (Qm Z Z (Qk Xi Z (((hxs.ext E).get hi2).one 2 Z)) Z (Qm Z Z (Qf V1 Z) Z (Qm Z Z (Qk Xi Z (h1.one 2 Z)) Z (Qm Z Z (X1 Z Z) Z (Qa (Qp Z Z) Z (Qn ⟨Z,Z,Z,Z,Z,Z,Z,Z,Z,Z,Z,congrArg (fun b=>some (Value.bool b)) (show (((xs[k]'hi2).key) != x.key) = (((((xs[k]'hi2).op) != x.op) || (((xs[k]'hi2).epoch) != x.epoch)) || (((xs[k]'hi2).key) != x.key)) by first | (rw [hg5,hg6] <;> rfl) | (simp [hg5,hg6];done) | (simp only [Qq] <;> simp)),trivial⟩ Z)))))))))
      rintro _ rfl
      refine Qd (Qt Z (fun hc10=>?_) (fun hc10=>?_))
      ·refine Qi [true,true,true,true,true,false,false,true] Z Z (Qa (Qb Z) Z (Qa (Qb Z) Z (Qa (Qb Z) Z (Qa (Q5 (i:=k) K3 Z Z (hxs.ext E) hi2) Z (Qa (Ql Vx Z ((hxs.ext E).get hi2) Z) Z (Qz (vs:=[.agg (Enc.enc (xs[k]'hi2)).toArray]) (css:=[[.int .i64 ((xs[k]'hi2).op),.int .i64 ((xs[k]'hi2).epoch),.int .i64 ((xs[k]'hi2).key),.int .i64 ((xs[k]'hi2).val)]]) K3 Z Z ⟨⟨Z,Z⟩,trivial⟩ Z Z (fun b6 w21 e13 s6 h6=>?_)))))))
       replace h6 : Blk w21 b6 [.int .i64 ((xs[k]'hi2).op),.int .i64 ((xs[k]'hi2).epoch),.int .i64 ((xs[k]'hi2).key),.int .i64 ((xs[k]'hi2).val)]:=h6
       have g_b6 : w.heap.size ≤ b6:=by have:=E.size;omega
       have y_b6:=h6.lt
       replace E:=E.trans e13;replace h1:=h1.ext e13;replace ho1:=ho1.ext e13;replace ho:=ho.ext e13
       have z17:=e13.size
       refine Xo K3 Z Z ho (Src.ofBlk h6 Z) Z (by first | (simp only [Ya,List.length_nil,List.length_cons];simp only [Enc.sz];omega) | (have h:=Hm xs (fun y=>!(Uf x y)) k;simp only [show Enc.sz Cell = 4 from Z] at h;simp only [List.length_cons,List.length_nil];omega)) (by decide) (by omega) (by omega) Z Z (fun v5 w22 m3 ho5=>?_)
       replace E:=E.step m3 (fun g hg=>by have:=Own.blk ho g hg;omega);replace h1:=h1.mod m3 (fun g hg=>by have:=Own.blk ho g hg;omega);replace ho1:=ho1.mod m3 (fun g hg=>by have:=Own.blk ho g hg;omega)
       have z18:=m3.size
       refine Qa (Qe Z) Z (Qd (Q4 (Yn (Qi [true,true,true] Z Z (Qa (Qb Z) Z (Qa (Yu Z Z (Yw hc9n hxs.1)) Z (Qa (Qe Z) Z (Qd (Q4 (Yg (k + 1,v5) (by simp;omega) ⟨Z,Z,Z,Z,Z,Z,Z,trivial⟩ ⟨E,(by omega),h1,ho1,(by omega),Own.fin ho5 (Nat.le_refl _) (by omega) (Tu (by assumption) (ns_yes (by assumption)))⟩))))))))))
      ·refine Qy (Q4 (Yn (Qi [true,true,true] Z Z (Qa (Qb Z) Z (Qa (Yu Z Z (Yw hc9n hxs.1)) Z (Qa (Qe Z) Z (Qd (Q4 (Yg (k + 1,vo) (by simp;omega) ⟨Z,Z,Z,Z,Z,Z,Z,trivial⟩ ⟨E,(by omega),h1,ho1,(by omega),Own.fin ho (Nat.le_refl _) (by omega) (C1 (by assumption) (ns_no (by assumption)))⟩)))))))))
     ·have hc9n : ¬ k < xs.length:=by first | (have h:=of_decide_eq_false hc9;omega) | (have h:=hc9;simp at h;omega)
      refine Y5 (Yc (Q8 ?_))
      refine Qh (Qi [true,true,false,true,true] Z Z (Qa (Qb Z) Z (Qa (Ql Vx Z h1.at Z) Z (Qw Tryz.call126 Z (s_PutCell vo ((xs.take k).filter (fun y=>!(Uf x y))) x _ (Own.rd (by decide) ho) (by have h1:=List.length_filter_le (fun y=>!(Uf x y)) (xs.take k);simp only [List.length_take] at h1;omega)) Z (fun v6 w23 e14 ho6=>?_)))))
      have g_ho6 : w.heap.size ≤ w18.heap.size:=E.size
      replace E:=E.trans e14;replace h1:=h1.ext e14;replace ho1:=ho1.ext e14;replace ho:=ho.ext e14
      have z19:=e14.size
      refine Qa (Qe Z) Z (Qa (Qe Z) Z (Qd (Qx (Q0 (Y1 (l:=[.tmp 6,.tmp 7]) (vs:=[v6,.bool true]) Z ⟨.tmp Z,.tmp Z,trivial⟩ Z E ?_)))))
      rw [Hw (.inr (by assumption)),V8 (by assumption)]
      exact ⟨_,Z,Own.fin ho6 (by omega) (by omega) (by simp only [List.nil_append,List.take_of_length_le (show xs.length ≤ k by omega)] <;> rfl)⟩
   ·refine Qy (Q4 (Yn (Qh (Qi [true,true,true] Z Z (Qa (Qb Z) Z (Qa (Qe Z) Z (Qa (Qe Z) Z (Qd (Qx (Y1 (l:=[.tmp 6,.tmp 7]) (vs:=[v1,.bool true]) Z ⟨.tmp Z,.tmp Z,trivial⟩ Z E ?_))))))))))
    rw [A8 (by assumption) (by assumption) (by assumption)]
    exact ⟨_,Z,Own.fin ho1 (by omega) (by omega) (by first | rfl | simp only [List.nil_append])⟩

set_option maxRecDepth 20000 in
theorem s_l02Less (a : Int) (b : Int) (w : World)  : Ct Tryz.prog 124 [.int .i64 a,.int .i64 b] w (fun v _=>v = .int .i64 (if b < a then b else a)):=by
 refine Yp Tryz.func124 Z Tryz.ntmps124 Z ?_
 refine Yb [(0,.int .i64 a),(1,.int .i64 b)] ⟨Z,Z,trivial⟩ ?_
 have E : Ext w w:=Ext.refl w
 refine Qh (Qi [true] Z Z (Qa (Qe Z) Z (Qd (Qh (Qh (Qi [true,true,true] Z Z (Qa (Qb Z) Z (Qa (Qb Z) Z (Qa (Xe Z Z) Z (Qd (Qt Z (fun hc1=>?_) (fun hc1=>?_))))))))))))
 ·refine Qh (Qi [true,true] Z Z (Qa (Qb Z) Z (Qa (Qe Z) Z (Qd (Qx (Qu Z Z E ?_))))))
  rw [if_pos (of_decide_eq_true hc1)]
 ·refine Qy (Qh (Qi [true,true] Z Z (Qa (Qb Z) Z (Qa (Qe Z) Z (Qd (Qx (Qu Z Z E ?_)))))))
  rw [if_neg (of_decide_eq_false hc1)]

set_option maxRecDepth 20000 in
theorem s_Changed (cx : List Value) (x : Node) (a : Int) (b : Int) (w : World) (hx : Dat.R w 0 w.heap.size cx x) : Ct Tryz.prog 114 [.agg cx.toArray,.int .i64 a,.int .i64 b] w (fun v _=>v = .tuple [.int .i64 ((Qo x a b).1),.int .i64 ((Qo x a b).2.1),.bool ((Qo x a b).2.2)].toArray):=by
 refine Yp Tryz.func114 Z Tryz.ntmps114 Z ?_
 obtain ⟨o1,rfl,hd1⟩:=Node.op hx
 refine Yb [(0,.agg [.int .i64 x.kind,.int .i64 x.a,.int .i64 x.b,o1].toArray),(1,.int .i64 a),(2,.int .i64 b)] ⟨Z,Z,Z,trivial⟩ ?_
 have E : Ext w w:=Ext.refl w
 refine Qh (Qi [false,true,true,true] Z Z (Xb Z Z (fun b1 w1 e1 s1 h1=>?_)))
 have g_b1 : w.heap.size ≤ b1:=by have:=E.size;omega
 have y_b1:=h1.lt
 replace E:=E.trans e1
 have z1:=e1.size
 refine Qa (Qe Z) Z (Qa (Qe Z) Z (Qa (Qe Z) Z (Qd (Qh (Qh (Qi [true,false,true,true,true,false,true,true,true,true,false,true,true] Z Z (Qa (Ql K9 Z h1.at Z) Z (Qw Tryz.call112 Z (s_NodeOk [.int .i64 x.kind,.int .i64 x.a,.int .i64 x.b,o1] x _ (Node.mkR x (RdD.any (hd1.ext E)))) Z (fun _ w2 e2 hv=>?_)))))))))
 subst hv
 replace E:=E.trans e2;replace h1:=h1.ext e2
 have z2:=e2.size
 refine Qa (Xn Z) Z (Qa (Qb Z) Z (Xr 9 [(0,.agg [.int .i64 x.kind,.int .i64 x.a,.int .i64 x.b,o1].toArray),(1,.int .i64 a),(2,.int .i64 b),(3,.pointer (some ⟨b1,0,none⟩)),(6,.int .i64 0),(7,.int .i64 0),(8,.bool false),(21,.bool (((!(Xc x)) || (!(Y2 a 0 99))) || (!(Y2 b 0 999))))] (fun w'=>Ext w w' ∧ w2.heap.size ≤ w'.heap.size ∧ Blk w' b1 ([.int .i64 x.kind,.int .i64 x.a,.int .i64 x.b,o1])) ?_ ?_))
 ·refine Yz (gd:=12) Z Z (fun hg1=>?_) (fun hg1=>?_)
  ·refine Qc Z Z Z Z ?_
   refine Q3 Z Z Z Z ?_
   refine Qc Z Z Z Z (Qa (Qr Z Z) Z (Qa (Qb Z) Z (Qc Z Z Z Z ?_)))
   refine Q3 Z Z Z Z ?_
   refine Qc Z Z Z Z (Qa (Qr Z Z) Z (Qn ⟨Z,Z,Z,Z,Z,Z,Z,congrArg (fun b=>some (Value.bool b)) (show true = (((!(Xc x)) || (!(Y2 a 0 99))) || (!(Y2 b 0 999))) by first | (rw [hg1] <;> rfl) | (simp [hg1];done) | (simp only [Qq] <;> simp)),trivial⟩ ⟨E,(by omega),h1⟩))
  ·refine Qm Z Z (Qb Z) Z ?_
   refine Xa Z Z ?_
   refine Qw Tryz.call32 Z (s_l01In a 0 99 _ ) Z (fun _ w4 e3 hv=>?_)
   subst hv
   replace E:=E.trans e3;replace h1:=h1.ext e3
   have z3:=e3.size
   refine Qm Z Z (Xn Z) Z (Qa (Qp Z Z) Z (Qa (Qb Z) Z ?_))
   refine Yz (gd:=17) Z Z (fun hg2=>?_) (fun hg2=>?_)
   ·refine Qc Z Z Z Z ?_
    refine Q3 Z Z Z Z ?_
    refine Qc Z Z Z Z (Qa (Qr Z Z) Z (Qn ⟨Z,Z,Z,Z,Z,Z,Z,congrArg (fun b=>some (Value.bool b)) (show true = (((!(Xc x)) || (!(Y2 a 0 99))) || (!(Y2 b 0 999))) by first | (rw [hg1,hg2] <;> rfl) | (simp [hg1,hg2];done) | (simp only [Qq] <;> simp)),trivial⟩ ⟨E,(by omega),h1⟩))
   ·refine Qm Z Z (Qb Z) Z ?_
    refine Xa Z Z ?_
    refine Qw Tryz.call32 Z (s_l01In b 0 999 _ ) Z (fun _ w5 e4 hv=>?_)
    subst hv
    replace E:=E.trans e4;replace h1:=h1.ext e4
    have z4:=e4.size
    refine Qm Z Z (Xn Z) Z (Qa (Qp Z Z) Z (Qn ⟨Z,Z,Z,Z,Z,Z,Z,congrArg (fun b=>some (Value.bool b)) (show (!(Y2 b 0 999)) = (((!(Xc x)) || (!(Y2 a 0 99))) || (!(Y2 b 0 999))) by first | (rw [hg1,hg2] <;> rfl) | (simp [hg1,hg2];done) | (simp only [Qq] <;> simp)),trivial⟩ ⟨E,(by omega),h1⟩))
 clear E h1
 rintro w3 ⟨E,z5,h1⟩
 refine Qd (Qt Z (fun hc1=>?_) (fun hc1=>?_))
 ·replace hc1:=ch_st hc1
  refine Qh (Qi [true,true,true,true,true] Z Z (Qa (Qb Z) Z (Qa (Qb Z) Z (Qa (Qe Z) Z (Qa (Qe Z) Z (Qa (Qe Z) Z (Qd (Qx (Y1 (l:=[.tmp 6,.tmp 7,.tmp 8]) (vs:=[.int .i64 a,.int .i64 b,.bool false]) Z ⟨.tmp Z,.tmp Z,.tmp Z,trivial⟩ Z E ?_)))))))))
  rw [ch_0 (by assumption)]
 ·replace hc1:=ch_s hc1
  have hno:=ch_ok hc1
  refine Qy (Qh (Qh (Qi [true,true] Z Z (Qa (Qf Uw Z) Z (Qa (Qk Xi Z (h1.one 0 Z)) Z (Qd (Q2 (Qh (Qi [true,true] Z Z (Qa (Y9 Z Z) Z (Qa (Qe Z) Z (Qd (Qt Z (fun hc2=>?_) (fun hc2=>?_))))))))))))))
  ·refine Qh (Qi [true,true,true,true,true,false,true,true,true] Z Z (Qa (Qb Z) Z (Qa (Qb Z) Z (Qa (Qf Hi Z) Z (Qa (Qk Xi Z (h1.one 1 Z)) Z (Qa (Yu Z Z Z) Z (Qw Tryz.call124 Z (s_l02Less (IntKind.i64.wrap (b + x.a)) 999 _ ) Z (fun _ w6 e5 hv=>?_))))))))
   subst hv
   replace E:=E.trans e5;replace h1:=h1.ext e5
   have z6:=e5.size
   refine Qa (Qe Z) Z (Qa (Qe Z) Z (Qa (Qe Z) Z (Qd (Qx (Q0 (Y1 (l:=[.tmp 6,.tmp 7,.tmp 8]) (vs:=[.int .i64 a,.int .i64 (if 999 < (IntKind.i64.wrap (b + x.a)) then 999 else (IntKind.i64.wrap (b + x.a))),.bool true]) Z ⟨.tmp Z,.tmp Z,.tmp Z,trivial⟩ Z E ?_))))))
   rw [ch_2 (by assumption) (by assumption),min_999]
  ·refine Qh (Qi [true,true] Z Z (Qa (Y9 Z Z) Z (Qa (Qe Z) Z (Qd (Qt Z (fun hc3=>?_) (fun hc3=>?_))))))
   ·refine Qh (Qi [true,true,true,true,true,true,true,true,true] Z Z (Qa (Qb Z) Z (Qa (Qf Hi Z) Z (Qa (Qk Xi Z (h1.one 1 Z)) Z (Qa (Yu Z Z Z) Z (Qa (R_rem Z Z (by decide) Z) Z (Qa (Qb Z) Z (Qa (Qe Z) Z (Qa (Qe Z) Z (Qa (Qe Z) Z (Qd (Qx (Q0 (Y1 (l:=[.tmp 6,.tmp 7,.tmp 8]) (vs:=[.int .i64 (Int.tmod (IntKind.i64.wrap (a + x.a)) 100),.int .i64 b,.bool true]) Z ⟨.tmp Z,.tmp Z,.tmp Z,trivial⟩ Z E ?_))))))))))))))
    rw [ch_4 (by assumption) (by assumption)]
   ·refine Qh (Qi [true,true] Z Z (Qa (Y9 Z Z) Z (Qa (Qe Z) Z (Qd (Qt Z (fun hc4=>?_) (fun hc4=>?_))))))
    ·have hna:=node_a3 hno hc4
     refine Qh (Xk Xd [(0,true),(1,true),(2,true),(3,true),(4,true),(5,true),(6,true),(7,true),(8,true),(9,true),(10,true),(11,true)] (by decide +kernel) Z (fun w7 e6=>?_))
     replace E:=E.trans e6;replace h1:=h1.ext e6
     have z7:=e6.size
     refine Qa (Qb Z) Z (Qa (Qb Z) Z (Qa (Qb Z) Z (Qa (Qf Hi Z) Z (Qa (Qk Xi Z (h1.one 1 Z)) Z (Qa (R_rem Z Z (by omega) Z) Z (Qa (Qf fl91_2 Z) Z (Qa (Qk Xi Z (h1.one 2 Z)) Z (Qa (Y9 Z Z) Z (Qa (Qe Z) Z (Qa (Qe Z) Z (Qa (Qe Z) Z (Qd (Qx (Q0 (Y1 (l:=[.tmp 6,.tmp 7,.tmp 8]) (vs:=[.int .i64 a,.int .i64 b,.bool ((Int.tmod a x.a) == x.b)]) Z ⟨.tmp Z,.tmp Z,.tmp Z,trivial⟩ Z E ?_)))))))))))))))
     rw [ch_3 (by assumption) (by assumption)]
    ·refine Qy (Q4 (Yn (Qh (Xk Xd [(0,true),(1,true),(2,true),(3,true),(4,true),(5,true),(6,true),(7,true)] (by decide +kernel) Z (fun w8 e7=>?_)))))
     replace E:=E.trans e7;replace h1:=h1.ext e7
     have z8:=e7.size
     refine Qa (Qb Z) Z (Qa (Qb Z) Z (Qa (Qf Uw Z) Z (Qa (Qk Xi Z (h1.one 0 Z)) Z (Qa (X1 Z Z) Z (Qa (Qe Z) Z (Qa (Qe Z) Z (Qa (Qe Z) Z (Qd (Qx (Y1 (l:=[.tmp 6,.tmp 7,.tmp 8]) (vs:=[.int .i64 a,.int .i64 b,.bool (x.kind != 8)]) Z ⟨.tmp Z,.tmp Z,.tmp Z,trivial⟩ Z E ?_))))))))))
     rw [ch_o (by assumption) (by assumption) (by assumption) (by assumption)]

set_option maxHeartbeats 4000000 in
set_option maxRecDepth 20000 in
theorem s_Unstaged (cx : List Value) (x : Worker) (w : World) (hx : Dat.R w 0 w.heap.size cx x) (hb : Q6 x ≤ 1048576) : Ct Tryz.prog 88 [.agg cx.toArray] w (fun v w'=>∃ c0,v = .tuple [.agg c0.toArray,.agg (Enc.enc ((Vc x).2.1)).toArray,.bool ((Vc x).2.2)].toArray ∧ Own1.O w' w.heap.size w'.heap.size c0 ((Vc x).1)):=by
 refine Yp Tryz.func88 Z Tryz.ntmps88 Z ?_
 obtain ⟨o1,o2,o3,o4,o5,o6,o7,o8,rfl,hd1,hd2,hd3,hd4,hd5,hd6,hd7,hd8⟩:=Worker.op hx
 refine Yb [(0,.agg [o1,o2,o3,o4,o5,o6,o7,o8].toArray)] ⟨Z,trivial⟩ ?_
 have E : Ext w w:=Ext.refl w
 refine Qh (Qi [false,false,false,true] Z Z (Xb Z Z (fun b1 w1 e1 s1 h1=>?_)))
 have g_b1 : w.heap.size ≤ b1:=by have:=E.size;omega
 have y_b1:=h1.lt
 replace E:=E.trans e1
 have z1:=e1.size
 refine Yd Yh Z (fun b2 w2 e2 s2 h2=>?_)
 have g_b2 : w.heap.size ≤ b2:=by have:=E.size;omega
 have y_b2:=h2.lt
 replace E:=E.trans e2;replace h1:=h1.ext e2
 have z2:=e2.size
 refine Yd Xq Z (fun b3 w3 e3 s3 h3=>?_)
 have g_b3 : w.heap.size ≤ b3:=by have:=E.size;omega
 have y_b3:=h3.lt
 replace E:=E.trans e3;replace h1:=h1.ext e3;replace h2:=h2.ext e3
 have z3:=e3.size
 refine Qa (Qe Z) Z (Qd (Qh (Qi [true,false,false] Z Z (Qa (Ql Yh Z h1.at Z) Z (Qw Tryz.call41 Z (s_l12Copy [o1,o2,o3,o4,o5,o6,o7,o8] x _ (Worker.mkR x (RdD.any (hd1.ext E)) (RdD.any (hd2.ext E)) (RdD.any (hd3.ext E)) (RdD.any (hd4.ext E)) (RdD.any (hd5.ext E)) (RdD.any (hd6.ext E)) (RdD.any (hd7.ext E)) (RdD.any (hd8.ext E))) (by first | omega | (simp only [Q1];omega) | (rw [Q1];done) | (simp only [Q1];done))) Z (fun _ w4 e4 ho1=>?_))))))
 obtain ⟨_,rfl,ho1⟩:=ho1
 have g_ho1 : w.heap.size ≤ w3.heap.size:=E.size
 replace E:=E.trans e4;replace h1:=h1.ext e4;replace h2:=h2.ext e4;replace h3:=h3.ext e4
 have z4:=e4.size
 obtain ⟨o9,o10,o11,o12,o13,o14,o15,o16,rfl,sp1,hw1,hw2,hw3,hw4,hw5,hw6,hw7,hw8⟩:=Worker.opO ho1
 refine Qs (cs':=[o9,o10,o11,o12,o13,o14,o15,o16]) Yh Z Z Z (Qg hw1.one (Qg hw2.one (Qg hw3.one (Qg hw4.one (Qg hw5.one (Qg hw6.one (Qg hw7.one (Qg hw8.one Z)))))))) h1 (Nat.le_of_ble_eq_true Z) Z (fun w5 m1 h1'=>?_)
 replace h1:=h1'
 replace E:=E.step m1 (fun g hg=>by cases hg;omega);replace h2:=h2.mod m1 (fun g hg=>by cases hg;omega);replace h3:=h3.mod m1 (fun g hg=>by cases hg;omega);replace hw1:=hw1.mod m1 (fun g hg=>by cases hg;omega);replace hw2:=hw2.mod m1 (fun g hg=>by cases hg;omega);replace hw3:=hw3.mod m1 (fun g hg=>by cases hg;omega);replace hw4:=hw4.mod m1 (fun g hg=>by cases hg;omega);replace hw5:=hw5.mod m1 (fun g hg=>by cases hg;omega);replace hw6:=hw6.mod m1 (fun g hg=>by cases hg;omega);replace hw7:=hw7.mod m1 (fun g hg=>by cases hg;omega);replace hw8:=hw8.mod m1 (fun g hg=>by cases hg;omega)
 have z5:=m1.size
 refine Qd (Qh (Qh (Qi [true,true,true,true] Z Z (Qa (Qf Ui Z) Z (Qa (Qk Xv Z (h1.one 1 Z)) Z (Qa (Ye Tryz.underlying27 Z (Own.len (by decide) hw2)) Z (Qa (Y9 Z Z) Z (Qd (Qt Z (fun hc1=>?_) (fun hc1=>?_))))))))))
 ·have hc1n : x.staged.length = 0:=by first | (have h:=of_decide_eq_true hc1;omega) | (have h:=hc1;simp at h;omega)
  refine Qh (Qi [true,true,false,false,true] Z Z (Qa (Ql Yh Z h1.at Z) Z (Qa (Kv (⟨0,(⟨0,0⟩ : Stamp),0,0⟩ : Record) Z (fun _=>by kernel_rfl)) Z (Qs (cs':=[o9,o10,o11,o12,o13,o14,o15,o16]) Yh Z Z Z (Qg hw1.one (Qg hw2.one (Qg hw3.one (Qg hw4.one (Qg hw5.one (Qg hw6.one (Qg hw7.one (Qg hw8.one Z)))))))) h2 (Nat.le_of_ble_eq_true Z) Z (fun w6 m2 h2'=>?_)))))
  replace h2:=h2'
  replace E:=E.step m2 (fun g hg=>by cases hg;omega);replace h1:=h1.mod m2 (fun g hg=>by cases hg;omega);replace h3:=h3.mod m2 (fun g hg=>by cases hg;omega);replace hw1:=hw1.mod m2 (fun g hg=>by cases hg;omega);replace hw2:=hw2.mod m2 (fun g hg=>by cases hg;omega);replace hw3:=hw3.mod m2 (fun g hg=>by cases hg;omega);replace hw4:=hw4.mod m2 (fun g hg=>by cases hg;omega);replace hw5:=hw5.mod m2 (fun g hg=>by cases hg;omega);replace hw6:=hw6.mod m2 (fun g hg=>by cases hg;omega);replace hw7:=hw7.mod m2 (fun g hg=>by cases hg;omega);replace hw8:=hw8.mod m2 (fun g hg=>by cases hg;omega)
  have z6:=m2.size
  refine Qs (cs':=[.int .i64 ((⟨0,(⟨0,0⟩ : Stamp),0,0⟩ : Record).op),.int .i64 (((⟨0,(⟨0,0⟩ : Stamp),0,0⟩ : Record).stamp).epoch),.int .i64 (((⟨0,(⟨0,0⟩ : Stamp),0,0⟩ : Record).stamp).turn),.int .i64 ((⟨0,(⟨0,0⟩ : Stamp),0,0⟩ : Record).key),.int .i64 ((⟨0,(⟨0,0⟩ : Stamp),0,0⟩ : Record).val)]) Xq Z Z Z Z h3 (Nat.le_of_ble_eq_true Z) Z (fun w7 m3 h3'=>?_)
  replace h3:=h3'
  replace E:=E.step m3 (fun g hg=>by cases hg;omega);replace h1:=h1.mod m3 (fun g hg=>by cases hg;omega);replace h2:=h2.mod m3 (fun g hg=>by cases hg;omega);replace hw1:=hw1.mod m3 (fun g hg=>by cases hg;omega);replace hw2:=hw2.mod m3 (fun g hg=>by cases hg;omega);replace hw3:=hw3.mod m3 (fun g hg=>by cases hg;omega);replace hw4:=hw4.mod m3 (fun g hg=>by cases hg;omega);replace hw5:=hw5.mod m3 (fun g hg=>by cases hg;omega);replace hw6:=hw6.mod m3 (fun g hg=>by cases hg;omega);replace hw7:=hw7.mod m3 (fun g hg=>by cases hg;omega);replace hw8:=hw8.mod m3 (fun g hg=>by cases hg;omega)
  have z7:=m3.size
  refine Qa (Qe Z) Z (Qd (Qx (Y1 (l:=[.cell 2 33,.cell 3 55,.tmp 4]) (vs:=[.agg [o9,o10,o11,o12,o13,o14,o15,o16].toArray,.agg (Enc.enc (⟨0,(⟨0,0⟩ : Stamp),0,0⟩ : Record)).toArray,.bool false]) Z ⟨.cell Z (Qv Yh h2.at Z),.cell Z (Qv Xq h3.at Z),.tmp Z,trivial⟩ Z E ?_)))
  rw [unst_no hc1]
  exact ⟨_,Z,(Worker.mkO x sp1 (Own.widen hw1 (by omega) (by omega)) (Own.widen hw2 (by omega) (by omega)) (Own.widen hw3 (by omega) (by omega)) (Own.widen hw4 (by omega) (by omega)) (Own.widen hw5 (by omega) (by omega)) (Own.widen hw6 (by omega) (by omega)) (Own.widen hw7 (by omega) (by omega)) (Own.widen hw8 (by omega) (by omega)))⟩
 ·have hsl:=unst_lt hc1
  have hc1n : ¬ x.staged.length = 0:=by first | (have h:=of_decide_eq_false hc1;omega) | (have h:=hc1;simp at h;omega)
  refine Qy (Qh (Qi [true,true,true,true,false,false] Z Z (Qa (Qf Ui Z) Z (Qa (Qk Xv Z (h1.one 1 Z)) Z ?_))))
  have hi1 : 0 < x.staged.length:=(by first | assumption | omega | (simp only [List.length_set];first | assumption | omega) | (simp only [List.getElem_set_self,List.length_set];first | assumption | omega) | (simp only [Y3,Yj,List.length_set];first | assumption | omega) | (simp;done))
  refine Qa (Q5 (i:=0) Xp Z Z (Own.rd (by decide) hw2) hi1) Z (Qa (Ql Xq Z ((Own.rd (by decide) hw2).get hi1) Z) Z (Yd Xq Z (fun b4 w8 e5 s4 h4=>?_)))
  have g_b4 : w.heap.size ≤ b4:=by have:=E.size;omega
  have y_b4:=h4.lt
  replace E:=E.trans e5;replace h1:=h1.ext e5;replace h2:=h2.ext e5;replace h3:=h3.ext e5;replace hw1:=hw1.ext e5;replace hw2:=hw2.ext e5;replace hw3:=hw3.ext e5;replace hw4:=hw4.ext e5;replace hw5:=hw5.ext e5;replace hw6:=hw6.ext e5;replace hw7:=hw7.ext e5;replace hw8:=hw8.ext e5
  have z8:=e5.size
  refine Qs (cs':=[.int .i64 ((x.staged[0]'hi1).op),.int .i64 (((x.staged[0]'hi1).stamp).epoch),.int .i64 (((x.staged[0]'hi1).stamp).turn),.int .i64 ((x.staged[0]'hi1).key),.int .i64 ((x.staged[0]'hi1).val)]) Xq Z Z Z Z h4 (Nat.le_of_ble_eq_true Z) Z (fun w9 m4 h4'=>?_)
  replace h4:=h4'
  replace E:=E.step m4 (fun g hg=>by cases hg;omega);replace h1:=h1.mod m4 (fun g hg=>by cases hg;omega);replace h2:=h2.mod m4 (fun g hg=>by cases hg;omega);replace h3:=h3.mod m4 (fun g hg=>by cases hg;omega);replace hw1:=hw1.mod m4 (fun g hg=>by cases hg;omega);replace hw2:=hw2.mod m4 (fun g hg=>by cases hg;omega);replace hw3:=hw3.mod m4 (fun g hg=>by cases hg;omega);replace hw4:=hw4.mod m4 (fun g hg=>by cases hg;omega);replace hw5:=hw5.mod m4 (fun g hg=>by cases hg;omega);replace hw6:=hw6.mod m4 (fun g hg=>by cases hg;omega);replace hw7:=hw7.mod m4 (fun g hg=>by cases hg;omega);replace hw8:=hw8.mod m4 (fun g hg=>by cases hg;omega)
  have z9:=m4.size
  refine Qd (Qh (Qi [false,true,true,true,false,true,false] Z Z (Qz (vs:=[]) (css:=[]) Xp Z Z trivial Z Z (fun b5 w10 e6 s5 h5=>?_))))
  replace h5 : Blk w10 b5 []:=h5
  have g_b5 : w.heap.size ≤ b5:=by have:=E.size;omega
  have y_b5:=h5.lt
  replace E:=E.trans e6;replace h1:=h1.ext e6;replace h2:=h2.ext e6;replace h3:=h3.ext e6;replace hw1:=hw1.ext e6;replace hw2:=hw2.ext e6;replace hw3:=hw3.ext e6;replace hw4:=hw4.ext e6;replace hw5:=hw5.ext e6;replace hw6:=hw6.ext e6;replace hw7:=hw7.ext e6;replace hw8:=hw8.ext e6;replace h4:=h4.ext e6
  have z10:=e6.size
  refine Qa (Qf Ui Z) Z (Qa (Qk Xv Z (h1.one 1 Z)) Z ?_)
  have hk1 : 1 ≤ x.staged.length:=by first | assumption | omega
  have hs1:=Own.slFromE (α:=Record) hw2 hk1
  replace hs1 : Own w10 w3.heap.size w4.heap.size 5 (slFrom o10 1 5) (List.flatMap (Enc.enc (α:=Record)) (List.drop 1 x.staged)):=hs1
  have hb1 : Become w10 o10 (slFrom o10 1 5):=fun g hg=>.inl (by rwa [H9] at hg)
  replace sp1:=SepL.set hb1 1 rfl sp1 ⟨(Own.lt hw1),(Own.lt hw2),(Own.lt hw3),(Own.lt hw4),(Own.lt hw5),(Own.lt hw6),(Own.lt hw7),(Own.lt hw8),trivial⟩
  replace sp1 : SepL [o9,slFrom o10 1 5,o11,o12,o13,o14,o15,o16]:=sp1
  refine Qa (Gi Xp Z Z (Own.roomE (α:=Record) hw2) hk1) Z (Xo Xp Z Z (Own.ofBlk (lo:=b5) (hi:=b5 + 1) (sz:=5) h5 (Nat.le_refl _) (Nat.lt_succ_self _) (by simp) (by simp [maxLen])) (Own.src hs1) (Xm _) (by unfold Q6 at hb;simp only [Ya,List.length_nil,List.length_drop];simp only [Enc.sz];omega) (by decide) (by omega) (by omega) Z Z (fun v1 w11 m5 ho2=>?_))
  replace E:=E.step m5 (fun g hg=>by have:=Own.blk (Own.ofBlk (lo:=b5) (hi:=b5 + 1) (sz:=5) h5 (Nat.le_refl _) (Nat.lt_succ_self _) (by simp) (by simp [maxLen])) g hg;omega);replace h1:=h1.mod m5 (fun g hg=>by have:=Own.blk (Own.ofBlk (lo:=b5) (hi:=b5 + 1) (sz:=5) h5 (Nat.le_refl _) (Nat.lt_succ_self _) (by simp) (by simp [maxLen])) g hg;omega);replace h2:=h2.mod m5 (fun g hg=>by have:=Own.blk (Own.ofBlk (lo:=b5) (hi:=b5 + 1) (sz:=5) h5 (Nat.le_refl _) (Nat.lt_succ_self _) (by simp) (by simp [maxLen])) g hg;omega);replace h3:=h3.mod m5 (fun g hg=>by have:=Own.blk (Own.ofBlk (lo:=b5) (hi:=b5 + 1) (sz:=5) h5 (Nat.le_refl _) (Nat.lt_succ_self _) (by simp) (by simp [maxLen])) g hg;omega);replace hw1:=hw1.mod m5 (fun g hg=>by have:=Own.blk (Own.ofBlk (lo:=b5) (hi:=b5 + 1) (sz:=5) h5 (Nat.le_refl _) (Nat.lt_succ_self _) (by simp) (by simp [maxLen])) g hg;omega);replace hw3:=hw3.mod m5 (fun g hg=>by have:=Own.blk (Own.ofBlk (lo:=b5) (hi:=b5 + 1) (sz:=5) h5 (Nat.le_refl _) (Nat.lt_succ_self _) (by simp) (by simp [maxLen])) g hg;omega);replace hw4:=hw4.mod m5 (fun g hg=>by have:=Own.blk (Own.ofBlk (lo:=b5) (hi:=b5 + 1) (sz:=5) h5 (Nat.le_refl _) (Nat.lt_succ_self _) (by simp) (by simp [maxLen])) g hg;omega);replace hw5:=hw5.mod m5 (fun g hg=>by have:=Own.blk (Own.ofBlk (lo:=b5) (hi:=b5 + 1) (sz:=5) h5 (Nat.le_refl _) (Nat.lt_succ_self _) (by simp) (by simp [maxLen])) g hg;omega);replace hw6:=hw6.mod m5 (fun g hg=>by have:=Own.blk (Own.ofBlk (lo:=b5) (hi:=b5 + 1) (sz:=5) h5 (Nat.le_refl _) (Nat.lt_succ_self _) (by simp) (by simp [maxLen])) g hg;omega);replace hw7:=hw7.mod m5 (fun g hg=>by have:=Own.blk (Own.ofBlk (lo:=b5) (hi:=b5 + 1) (sz:=5) h5 (Nat.le_refl _) (Nat.lt_succ_self _) (by simp) (by simp [maxLen])) g hg;omega);replace hw8:=hw8.mod m5 (fun g hg=>by have:=Own.blk (Own.ofBlk (lo:=b5) (hi:=b5 + 1) (sz:=5) h5 (Nat.le_refl _) (Nat.lt_succ_self _) (by simp) (by simp [maxLen])) g hg;omega);replace h4:=h4.mod m5 (fun g hg=>by have:=Own.blk (Own.ofBlk (lo:=b5) (hi:=b5 + 1) (sz:=5) h5 (Nat.le_refl _) (Nat.lt_succ_self _) (by simp) (by simp [maxLen])) g hg;omega);replace hs1:=hs1.mod m5 (fun g hg=>by have:=Own.blk (Own.ofBlk (lo:=b5) (hi:=b5 + 1) (sz:=5) h5 (Nat.le_refl _) (Nat.lt_succ_self _) (by simp) (by simp [maxLen])) g hg;omega)
  have z11:=m5.size
  refine Qa (Qf Ui Z) Z (Xf (cs':=[o9,v1,o11,o12,o13,o14,o15,o16]) Xv Z Z ho2.one h1 (Nat.le_of_ble_eq_true Z) Z (fun w12 m6 h1'=>?_))
  replace h1:=h1'
  replace E:=E.step m6 (fun g hg=>by cases hg;omega);replace h2:=h2.mod m6 (fun g hg=>by cases hg;omega);replace h3:=h3.mod m6 (fun g hg=>by cases hg;omega);replace hw1:=hw1.mod m6 (fun g hg=>by cases hg;omega);replace hw3:=hw3.mod m6 (fun g hg=>by cases hg;omega);replace hw4:=hw4.mod m6 (fun g hg=>by cases hg;omega);replace hw5:=hw5.mod m6 (fun g hg=>by cases hg;omega);replace hw6:=hw6.mod m6 (fun g hg=>by cases hg;omega);replace hw7:=hw7.mod m6 (fun g hg=>by cases hg;omega);replace hw8:=hw8.mod m6 (fun g hg=>by cases hg;omega);replace h4:=h4.mod m6 (fun g hg=>by cases hg;omega);replace hs1:=hs1.mod m6 (fun g hg=>by cases hg;omega);replace ho2:=ho2.mod m6 (fun g hg=>by cases hg;omega)
  have z12:=m6.size
  refine Qd (Qh (S_regS Xd 2 [2,24] [(0,true)] [(1,true)] [(3,false),(4,true)] (by decide +kernel) Z Z Z Z Z Z Z [(0,.agg [o1,o2,o3,o4,o5,o6,o7,o8].toArray),(1,.pointer (some ⟨b1,0,none⟩)),(2,.pointer (some ⟨b2,0,none⟩)),(3,.pointer (some ⟨b3,0,none⟩)),(4,.bool false),(5,.pointer (some ⟨b4,0,none⟩)),(6,.agg [o1,o2,o3,o4,o5,o6,o7,o8].toArray),(7,.agg [o9,o10,o11,o12,o13,o14,o15,o16].toArray),(8,.pointer (some ⟨b1,1,none⟩)),(9,o10),(10,.int .i64 ((x.staged.length : Nat) : Int)),(11,.bool (((x.staged.length : Nat) : Int) == 0)),(14,.pointer (some ⟨b1,1,none⟩)),(15,o10),(16,.pointer (some ⟨Kk o10,Ue o10 + 0 * 5,none⟩)),(17,.agg (Enc.enc (x.staged[0]'hi1)).toArray),(18,.slice (some ⟨b5,0,none⟩) 0 0),(19,.pointer (some ⟨b1,1,none⟩)),(20,o10),(21,slFrom o10 1 5),(22,v1),(23,.pointer (some ⟨b1,1,none⟩)),(24,.agg [o9,v1,o11,o12,o13,o14,o15,o16].toArray)] [(2,.pointer (some ⟨b2,0,none⟩)),(24,.agg [o9,v1,o11,o12,o13,o14,o15,o16].toArray)] Z ⟨Z,Z,trivial⟩ (fun w'=>Ext w w' ∧ w12.heap.size ≤ w'.heap.size ∧ Blk w' b1 [o9,v1,o11,o12,o13,o14,o15,o16] ∧ Blk w' b2 [.slice none 0 0,.slice none 0 0,.slice none 0 0,.slice none 0 0,.slice none 0 0,.slice none 0 0,.slice none 0 0,.slice none 0 0] ∧ Blk w' b3 [.int .i64 0,.int .i64 0,.int .i64 0,.int .i64 0,.int .i64 0] ∧ Own w' w3.heap.size w4.heap.size 5 o9 (List.flatMap (Enc.enc (α:=Record)) x.queue) ∧ Own w' w3.heap.size w4.heap.size 5 o11 (List.flatMap (Enc.enc (α:=Record)) x.inputs) ∧ Own w' w3.heap.size w4.heap.size 4 o12 (List.flatMap (Enc.enc (α:=Cell)) x.cells) ∧ Own w' w3.heap.size w4.heap.size 1 o13 (List.flatMap (Enc.enc (α:=Int)) x.sums) ∧ Own w' w3.heap.size w4.heap.size 1 o14 (List.flatMap (Enc.enc (α:=Bool)) x.black) ∧ Own w' w3.heap.size w4.heap.size 1 o15 (List.flatMap (Enc.enc (α:=Bool)) x.caps) ∧ Own w' w3.heap.size w4.heap.size 2 o16 (List.flatMap (Enc.enc (α:=Done)) x.dones) ∧ Blk w' b4 [.int .i64 ((x.staged[0]'hi1).op),.int .i64 (((x.staged[0]'hi1).stamp).epoch),.int .i64 (((x.staged[0]'hi1).stamp).turn),.int .i64 ((x.staged[0]'hi1).key),.int .i64 ((x.staged[0]'hi1).val)] ∧ Own w' w3.heap.size w4.heap.size 5 (slFrom o10 1 5) (List.flatMap (Enc.enc (α:=Record)) (List.drop 1 x.staged)) ∧ Own w' b5 w11.heap.size 5 v1 ([] ++ List.flatMap (Enc.enc (α:=Record)) (List.drop 1 x.staged))) b2 (fun w'=>Blk w' b2 [o9,v1,o11,o12,o13,o14,o15,o16]) (fun w13 e7=>?_) (fun w13 hphi_w13=>?_)))
  ·replace E:=E.trans e7;replace h1:=h1.ext e7;replace h2:=h2.ext e7;replace h3:=h3.ext e7;replace hw1:=hw1.ext e7;replace hw3:=hw3.ext e7;replace hw4:=hw4.ext e7;replace hw5:=hw5.ext e7;replace hw6:=hw6.ext e7;replace hw7:=hw7.ext e7;replace hw8:=hw8.ext e7;replace h4:=h4.ext e7;replace hs1:=hs1.ext e7;replace ho2:=ho2.ext e7
   have z13:=e7.size
   refine Qa (Ql Yh Z h1.at Z) Z (Qn ⟨Z,Z,Z,Z,Z,Z,Z,Z,Z,Z,Z,Z,Z,Z,Z,Z,Z,Z,Z,Z,Z,Z,Z,trivial⟩ ⟨E,(by omega),h1,h2,h3,hw1,hw3,hw4,hw5,hw6,hw7,hw8,h4,hs1,ho2⟩)
  clear E h1 h2 h3 hw1 hw3 hw4 hw5 hw6 hw7 hw8 h4 hs1 ho2
  obtain ⟨E,z14,h1,h2,h3,hw1,hw3,hw4,hw5,hw6,hw7,hw8,h4,hs1,ho2⟩:=hphi_w13
  refine ⟨fs_store (cs':=[o9,v1,o11,o12,o13,o14,o15,o16]) Yh Z Z Z (Qg hw1.one (Qg ho2.one (Qg hw3.one (Qg hw4.one (Qg hw5.one (Qg hw6.one (Qg hw7.one (Qg hw8.one Z)))))))) h2 (Nat.le_of_ble_eq_true Z) Z,?_⟩
  refine JS_st (v:=.agg (Enc.enc (x.staged[0]'hi1)).toArray) (fun wX mX=>?_) Z ?_
  ·have E:=E.step mX (fun g hg=>by cases hg;omega);replace h4:=h4.mod mX (fun g hg=>by cases hg;omega);exact Ql Xq rfl h4.at rfl
  refine JS_end (fun w14 m7 hR=>?_)
  replace h2:=hR
  clear hR
  replace E:=E.step m7 (fun g hg=>by cases hg;omega);replace h1:=h1.mod m7 (fun g hg=>by cases hg;omega);replace h3:=h3.mod m7 (fun g hg=>by cases hg;omega);replace hw1:=hw1.mod m7 (fun g hg=>by cases hg;omega);replace hw3:=hw3.mod m7 (fun g hg=>by cases hg;omega);replace hw4:=hw4.mod m7 (fun g hg=>by cases hg;omega);replace hw5:=hw5.mod m7 (fun g hg=>by cases hg;omega);replace hw6:=hw6.mod m7 (fun g hg=>by cases hg;omega);replace hw7:=hw7.mod m7 (fun g hg=>by cases hg;omega);replace hw8:=hw8.mod m7 (fun g hg=>by cases hg;omega);replace h4:=h4.mod m7 (fun g hg=>by cases hg;omega);replace hs1:=hs1.mod m7 (fun g hg=>by cases hg;omega);replace ho2:=ho2.mod m7 (fun g hg=>by cases hg;omega)
  have z15:=m7.size
  refine Qs (cs':=[.int .i64 ((x.staged[0]'hi1).op),.int .i64 (((x.staged[0]'hi1).stamp).epoch),.int .i64 (((x.staged[0]'hi1).stamp).turn),.int .i64 ((x.staged[0]'hi1).key),.int .i64 ((x.staged[0]'hi1).val)]) Xq Z Z Z Z h3 (Nat.le_of_ble_eq_true Z) Z (fun w15 m8 h3'=>?_)
  replace h3:=h3'
  replace E:=E.step m8 (fun g hg=>by cases hg;omega);replace h1:=h1.mod m8 (fun g hg=>by cases hg;omega);replace h2:=h2.mod m8 (fun g hg=>by cases hg;omega);replace hw1:=hw1.mod m8 (fun g hg=>by cases hg;omega);replace hw3:=hw3.mod m8 (fun g hg=>by cases hg;omega);replace hw4:=hw4.mod m8 (fun g hg=>by cases hg;omega);replace hw5:=hw5.mod m8 (fun g hg=>by cases hg;omega);replace hw6:=hw6.mod m8 (fun g hg=>by cases hg;omega);replace hw7:=hw7.mod m8 (fun g hg=>by cases hg;omega);replace hw8:=hw8.mod m8 (fun g hg=>by cases hg;omega);replace h4:=h4.mod m8 (fun g hg=>by cases hg;omega);replace hs1:=hs1.mod m8 (fun g hg=>by cases hg;omega);replace ho2:=ho2.mod m8 (fun g hg=>by cases hg;omega)
  have z16:=m8.size
  refine Qa (Qe Z) Z (Qd (Qx (Y1 (l:=[.cell 2 33,.cell 3 55,.tmp 4]) (vs:=[.agg [o9,v1,o11,o12,o13,o14,o15,o16].toArray,.agg (Enc.enc (x.staged[0]'hi1)).toArray,.bool true]) Z ⟨.cell Z (Qv Yh h2.at Z),.cell Z (Qv Xq h3.at Z),.tmp Z,trivial⟩ Z E ?_)))
  rw [unst_yes hsl]
  exact ⟨_,Z,(Worker.mkO (⟨x.queue,[] ++ (List.drop 1 x.staged),x.inputs,x.cells,x.sums,x.black,x.caps,x.dones⟩ : Worker) ⟨⟨(Own.sep hw1 ho2 (by omega)),⟨sp1.1.2.1,⟨sp1.1.2.2.1,⟨sp1.1.2.2.2.1,⟨sp1.1.2.2.2.2.1,⟨sp1.1.2.2.2.2.2.1,⟨sp1.1.2.2.2.2.2.2.1,trivial⟩⟩⟩⟩⟩⟩⟩,⟨⟨(Own.sep ho2 hw3 (by omega)),⟨(Own.sep ho2 hw4 (by omega)),⟨(Own.sep ho2 hw5 (by omega)),⟨(Own.sep ho2 hw6 (by omega)),⟨(Own.sep ho2 hw7 (by omega)),⟨(Own.sep ho2 hw8 (by omega)),trivial⟩⟩⟩⟩⟩⟩,⟨⟨sp1.2.2.1.1,⟨sp1.2.2.1.2.1,⟨sp1.2.2.1.2.2.1,⟨sp1.2.2.1.2.2.2.1,⟨sp1.2.2.1.2.2.2.2.1,trivial⟩⟩⟩⟩⟩,⟨⟨sp1.2.2.2.1.1,⟨sp1.2.2.2.1.2.1,⟨sp1.2.2.2.1.2.2.1,⟨sp1.2.2.2.1.2.2.2.1,trivial⟩⟩⟩⟩,⟨⟨sp1.2.2.2.2.1.1,⟨sp1.2.2.2.2.1.2.1,⟨sp1.2.2.2.2.1.2.2.1,trivial⟩⟩⟩,⟨⟨sp1.2.2.2.2.2.1.1,⟨sp1.2.2.2.2.2.1.2.1,trivial⟩⟩,⟨⟨sp1.2.2.2.2.2.2.1.1,trivial⟩,⟨trivial,trivial⟩⟩⟩⟩⟩⟩⟩⟩ (Own.widen hw1 (by omega) (by omega)) (Own.widen ho2 (by omega) (by omega)) (Own.widen hw3 (by omega) (by omega)) (Own.widen hw4 (by omega) (by omega)) (Own.widen hw5 (by omega) (by omega)) (Own.widen hw6 (by omega) (by omega)) (Own.widen hw7 (by omega) (by omega)) (Own.widen hw8 (by omega) (by omega)))⟩

end Go.Proofs.YtcpjlfikdobckaaGreat
