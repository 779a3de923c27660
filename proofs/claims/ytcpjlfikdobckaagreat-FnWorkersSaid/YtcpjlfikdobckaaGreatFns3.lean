/- What the functions that the laws call come to: a contract each; no condition. -/
import Derived.Test.YtcpjlfikdobckaaGreatFns2
namespace Go.Proofs.YtcpjlfikdobckaaGreat
open Go Go.Proofs.YtcpjlfikdobckaaGreat.X Go.Proofs
set_option maxHeartbeats 4000000 in
set_option maxRecDepth 20000 in
theorem s_TakeInput (cg : List Value) (g : Graph) (cx : List Value) (x : Worker) (w : World) (hg : Dat.R w 0 w.heap.size cg g) (hx : Dat.R w 0 w.heap.size cx x) (hb : Q6 x ≤ 1048576) : Ct Tryz.prog 85 [.agg cg.toArray,.agg cx.toArray] w (fun v w'=>∃ c0,v = .tuple [.agg c0.toArray,.bool ((Vw g x).2)].toArray ∧ Own1.O w' w.heap.size w'.heap.size c0 ((Vw g x).1)):=by
 refine Yp Tryz.func85 Z Tryz.ntmps85 Z ?_
 obtain ⟨o1,rfl,hd1⟩:=Graph.op hg
 obtain ⟨o2,o3,o4,o5,o6,o7,o8,o9,rfl,hd2,hd3,hd4,hd5,hd6,hd7,hd8,hd9⟩:=Worker.op hx
 refine Yb [(0,.agg [o1,.int .i64 g.workers,.int .i64 g.cap].toArray),(1,.agg [o2,o3,o4,o5,o6,o7,o8,o9].toArray)] ⟨Z,Z,trivial⟩ ?_
 have E : Ext w w:=Ext.refl w
 refine Qh (Qi [false,false,false,true] Z Z (Xb Z Z (fun b1 w1 e1 s1 h1=>?_)))
 have g_b1 : w.heap.size ≤ b1:=by have:=E.size;omega
 have y_b1:=h1.lt
 replace E:=E.trans e1
 have z1:=e1.size
 refine Xb Z Z (fun b2 w2 e2 s2 h2=>?_)
 have g_b2 : w.heap.size ≤ b2:=by have:=E.size;omega
 have y_b2:=h2.lt
 replace E:=E.trans e2;replace h1:=h1.ext e2
 have z2:=e2.size
 refine Yd Yh Z (fun b3 w3 e3 s3 h3=>?_)
 have g_b3 : w.heap.size ≤ b3:=by have:=E.size;omega
 have y_b3:=h3.lt
 replace E:=E.trans e3;replace h1:=h1.ext e3;replace h2:=h2.ext e3
 have z3:=e3.size
 refine Qa (Qe Z) Z (Qd (Qh (Qi [true,false,false] Z Z (Qa (Ql Yh Z h2.at Z) Z (Qw Tryz.call41 Z (s_l12Copy [o2,o3,o4,o5,o6,o7,o8,o9] x _ (Worker.mkR x (RdD.any (hd2.ext E)) (RdD.any (hd3.ext E)) (RdD.any (hd4.ext E)) (RdD.any (hd5.ext E)) (RdD.any (hd6.ext E)) (RdD.any (hd7.ext E)) (RdD.any (hd8.ext E)) (RdD.any (hd9.ext E))) (by first | omega | (simp only [Q1];omega) | (rw [Q1];done) | (simp only [Q1];done))) Z (fun _ w4 e4 ho1=>?_))))))
 obtain ⟨_,rfl,ho1⟩:=ho1
 have g_ho1 : w.heap.size ≤ w3.heap.size:=E.size
 replace E:=E.trans e4;replace h1:=h1.ext e4;replace h2:=h2.ext e4;replace h3:=h3.ext e4
 have z4:=e4.size
 obtain ⟨o10,o11,o12,o13,o14,o15,o16,o17,rfl,sp1,hw1,hw2,hw3,hw4,hw5,hw6,hw7,hw8⟩:=Worker.opO ho1
 refine Qs (cs':=[o10,o11,o12,o13,o14,o15,o16,o17]) Yh Z Z Z (Qg hw1.one (Qg hw2.one (Qg hw3.one (Qg hw4.one (Qg hw5.one (Qg hw6.one (Qg hw7.one (Qg hw8.one Z)))))))) h2 (Nat.le_of_ble_eq_true Z) Z (fun w5 m1 h2'=>?_)
 replace h2:=h2'
 replace E:=E.step m1 (fun g hg=>by cases hg;omega);replace h1:=h1.mod m1 (fun g hg=>by cases hg;omega);replace h3:=h3.mod m1 (fun g hg=>by cases hg;omega);replace hw1:=hw1.mod m1 (fun g hg=>by cases hg;omega);replace hw2:=hw2.mod m1 (fun g hg=>by cases hg;omega);replace hw3:=hw3.mod m1 (fun g hg=>by cases hg;omega);replace hw4:=hw4.mod m1 (fun g hg=>by cases hg;omega);replace hw5:=hw5.mod m1 (fun g hg=>by cases hg;omega);replace hw6:=hw6.mod m1 (fun g hg=>by cases hg;omega);replace hw7:=hw7.mod m1 (fun g hg=>by cases hg;omega);replace hw8:=hw8.mod m1 (fun g hg=>by cases hg;omega)
 have z5:=m1.size
 refine Qd (Qh (Qh (Qi [true,false,true,true,true,true,false,true,true,true,true,true,true,true,true,true,true,true,true,true,true,true,true,true,true,true,true] Z Z (Qa (Ql Xz Z h1.at Z) Z (Qw Tryz.call97 Z (s_GraphOk [o1,.int .i64 g.workers,.int .i64 g.cap] g _ (Graph.mkR g (RdD.any (hd1.ext E)))) Z (fun _ w6 e5 hv=>?_))))))
 subst hv
 replace E:=E.trans e5;replace h1:=h1.ext e5;replace h2:=h2.ext e5;replace h3:=h3.ext e5;replace hw1:=hw1.ext e5;replace hw2:=hw2.ext e5;replace hw3:=hw3.ext e5;replace hw4:=hw4.ext e5;replace hw5:=hw5.ext e5;replace hw6:=hw6.ext e5;replace hw7:=hw7.ext e5;replace hw8:=hw8.ext e5
 have z6:=e5.size
 refine Qa (Xn Z) Z (Qa (Qb Z) Z (Xr 23 [(0,.agg [o1,.int .i64 g.workers,.int .i64 g.cap].toArray),(1,.agg [o2,o3,o4,o5,o6,o7,o8,o9].toArray),(2,.pointer (some ⟨b1,0,none⟩)),(3,.pointer (some ⟨b2,0,none⟩)),(4,.pointer (some ⟨b3,0,none⟩)),(5,.bool false),(6,.agg [o2,o3,o4,o5,o6,o7,o8,o9].toArray),(7,.agg [o10,o11,o12,o13,o14,o15,o16,o17].toArray),(34,.bool (((((!(Yr g)) || (!(Yv g x))) || (decide (0 < ((x.staged.length : Nat) : Int)))) || (decide (0 < ((x.queue.length : Nat) : Int)))) || (((x.inputs.length : Nat) : Int) == 0)))] (fun w'=>Ext w w' ∧ w6.heap.size ≤ w'.heap.size ∧ Blk w' b1 ([o1,.int .i64 g.workers,.int .i64 g.cap]) ∧ Blk w' b2 [o10,o11,o12,o13,o14,o15,o16,o17] ∧ Blk w' b3 [.slice none 0 0,.slice none 0 0,.slice none 0 0,.slice none 0 0,.slice none 0 0,.slice none 0 0,.slice none 0 0,.slice none 0 0] ∧ Own w' w3.heap.size w4.heap.size 5 o10 (List.flatMap (Enc.enc (α:=Record)) x.queue) ∧ Own w' w3.heap.size w4.heap.size 5 o11 (List.flatMap (Enc.enc (α:=Record)) x.staged) ∧ Own w' w3.heap.size w4.heap.size 5 o12 (List.flatMap (Enc.enc (α:=Record)) x.inputs) ∧ Own w' w3.heap.size w4.heap.size 4 o13 (List.flatMap (Enc.enc (α:=Cell)) x.cells) ∧ Own w' w3.heap.size w4.heap.size 1 o14 (List.flatMap (Enc.enc (α:=Int)) x.sums) ∧ Own w' w3.heap.size w4.heap.size 1 o15 (List.flatMap (Enc.enc (α:=Bool)) x.black) ∧ Own w' w3.heap.size w4.heap.size 1 o16 (List.flatMap (Enc.enc (α:=Bool)) x.caps) ∧ Own w' w3.heap.size w4.heap.size 2 o17 (List.flatMap (Enc.enc (α:=Done)) x.dones)) ?_ ?_))
 ·refine Yz (gd:=11) Z Z (fun hg1=>?_) (fun hg1=>?_)
  ·refine Qc Z Z Z Z (Qc Z Z Z Z ?_)
   refine Q3 Z Z Z Z ?_
   refine Qc Z Z Z Z (Qa (Qr Z Z) Z (Qa (Qb Z) Z (Qc Z Z Z Z (Qc Z Z Z Z (Qc Z Z Z Z (Qc Z Z Z Z (Qa (Qr Z Z) Z (Qa (Qb Z) Z (Qc Z Z Z Z (Qc Z Z Z Z (Qc Z Z Z Z (Qc Z Z Z Z (Qa (Qr Z Z) Z (Qa (Qb Z) Z (Qc Z Z Z Z (Qc Z Z Z Z (Qc Z Z Z Z (Qc Z Z Z Z (Qa (Qr Z Z) Z (Qn ⟨Z,Z,Z,Z,Z,Z,Z,Z,congrArg (fun b=>some (Value.bool b)) (show true = (((((!(Yr g)) || (!(Yv g x))) || (decide (0 < ((x.staged.length : Nat) : Int)))) || (decide (0 < ((x.queue.length : Nat) : Int)))) || (((x.inputs.length : Nat) : Int) == 0)) by first | (rw [hg1] <;> rfl) | (simp [hg1];done) | (simp only [Qq] <;> simp)),trivial⟩ ⟨E,(by omega),h1,h2,h3,hw1,hw2,hw3,hw4,hw5,hw6,hw7,hw8⟩))))))))))))))))))))
  ·refine Qm Z Z (Ql Xz Z h1.at Z) Z (Qm Z Z (Ql Yh Z h2.at Z) Z ?_)
   refine Xa Z Z ?_
   refine Qw Tryz.call7 Z (s_WorkerOk [o1,.int .i64 g.workers,.int .i64 g.cap] g [o10,o11,o12,o13,o14,o15,o16,o17] x _ (Graph.mkR g (RdD.any (hd1.ext E))) (Worker.mkR x (RdD.any (Own.rdD hw1)) (RdD.any (Own.rdD hw2)) (RdD.any (Own.rdD hw3)) (RdD.any (Own.rdD hw4)) (RdD.any (Own.rdD hw5)) (RdD.any (Own.rdD hw6)) (RdD.any (Own.rdD hw7)) (RdD.any (Own.rdD hw8)))) Z (fun _ w8 e6 hv=>?_)
   subst hv
   replace E:=E.trans e6;replace h1:=h1.ext e6;replace h2:=h2.ext e6;replace h3:=h3.ext e6;replace hw1:=hw1.ext e6;replace hw2:=hw2.ext e6;replace hw3:=hw3.ext e6;replace hw4:=hw4.ext e6;replace hw5:=hw5.ext e6;replace hw6:=hw6.ext e6;replace hw7:=hw7.ext e6;replace hw8:=hw8.ext e6
   have z7:=e6.size
   refine Qm Z Z (Xn Z) Z (Qa (Qp Z Z) Z (Qa (Qb Z) Z ?_))
   refine Yz (gd:=17) Z Z (fun hg2=>?_) (fun hg2=>?_)
   ·refine Qc Z Z Z Z (Qc Z Z Z Z (Qc Z Z Z Z (Qc Z Z Z Z (Qa (Qr Z Z) Z (Qa (Qb Z) Z (Qc Z Z Z Z (Qc Z Z Z Z (Qc Z Z Z Z (Qc Z Z Z Z (Qa (Qr Z Z) Z (Qa (Qb Z) Z (Qc Z Z Z Z (Qc Z Z Z Z (Qc Z Z Z Z (Qc Z Z Z Z (Qa (Qr Z Z) Z (Qn ⟨Z,Z,Z,Z,Z,Z,Z,Z,congrArg (fun b=>some (Value.bool b)) (show true = (((((!(Yr g)) || (!(Yv g x))) || (decide (0 < ((x.staged.length : Nat) : Int)))) || (decide (0 < ((x.queue.length : Nat) : Int)))) || (((x.inputs.length : Nat) : Int) == 0)) by first | (rw [hg1,hg2] <;> rfl) | (simp [hg1,hg2];done) | (simp only [Qq] <;> simp)),trivial⟩ ⟨E,(by omega),h1,h2,h3,hw1,hw2,hw3,hw4,hw5,hw6,hw7,hw8⟩)))))))))))))))))
   ·refine Qm Z Z (Qf Ui Z) Z (Qm Z Z (Qk Xv Z (h2.one 1 Z)) Z (Qm Z Z (Ye Tryz.underlying27 Z (Own.len (by decide) hw2)) Z (Qm Z Z (U1 Z Z) Z (Qa (Qp Z Z) Z (Qa (Qb Z) Z ?_)))))
    refine Yz (gd:=23) Z Z (fun hg3=>?_) (fun hg3=>?_)
    ·have hg3n : x.staged.length > 0:=by first | (have h:=of_decide_eq_true hg3;omega) | (have h:=hg3;simp at h;omega)
     refine Qc Z Z Z Z (Qc Z Z Z Z (Qc Z Z Z Z (Qc Z Z Z Z (Qa (Qr Z Z) Z (Qa (Qb Z) Z (Qc Z Z Z Z (Qc Z Z Z Z (Qc Z Z Z Z (Qc Z Z Z Z (Qa (Qr Z Z) Z (Qn ⟨Z,Z,Z,Z,Z,Z,Z,Z,congrArg (fun b=>some (Value.bool b)) (show true = (((((!(Yr g)) || (!(Yv g x))) || (decide (0 < ((x.staged.length : Nat) : Int)))) || (decide (0 < ((x.queue.length : Nat) : Int)))) || (((x.inputs.length : Nat) : Int) == 0)) by first | (rw [hg1,hg2,hg3] <;> rfl) | (simp [hg1,hg2,hg3];done) | (simp only [Qq] <;> simp)),trivial⟩ ⟨E,(by omega),h1,h2,h3,hw1,hw2,hw3,hw4,hw5,hw6,hw7,hw8⟩)))))))))))
    ·have hg3n : ¬ x.staged.length > 0:=by first | (have h:=of_decide_eq_false hg3;omega) | (have h:=hg3;simp at h;omega)
     refine Qm Z Z (Qf Kf Z) Z (Qm Z Z (Qk Xv Z (h2.one 0 Z)) Z (Qm Z Z (Ye Tryz.underlying27 Z (Own.len (by decide) hw1)) Z (Qm Z Z (U1 Z Z) Z (Qa (Qp Z Z) Z (Qa (Qb Z) Z ?_)))))
     refine Yz (gd:=29) Z Z (fun hg4=>?_) (fun hg4=>?_)
     ·have hg4n : x.queue.length > 0:=by first | (have h:=of_decide_eq_true hg4;omega) | (have h:=hg4;simp at h;omega)
      refine Qc Z Z Z Z (Qc Z Z Z Z (Qc Z Z Z Z (Qc Z Z Z Z (Qa (Qr Z Z) Z (Qn ⟨Z,Z,Z,Z,Z,Z,Z,Z,congrArg (fun b=>some (Value.bool b)) (show true = (((((!(Yr g)) || (!(Yv g x))) || (decide (0 < ((x.staged.length : Nat) : Int)))) || (decide (0 < ((x.queue.length : Nat) : Int)))) || (((x.inputs.length : Nat) : Int) == 0)) by first | (rw [hg1,hg2,hg3,hg4] <;> rfl) | (simp [hg1,hg2,hg3,hg4];done) | (simp only [Qq] <;> simp)),trivial⟩ ⟨E,(by omega),h1,h2,h3,hw1,hw2,hw3,hw4,hw5,hw6,hw7,hw8⟩)))))
     ·have hg4n : ¬ x.queue.length > 0:=by first | (have h:=of_decide_eq_false hg4;omega) | (have h:=hg4;simp at h;omega)
      refine Qm Z Z (Qf X5 Z) Z (Qm Z Z (Qk Xv Z (h2.one 2 Z)) Z (Qm Z Z (Ye Tryz.underlying27 Z (Own.len (by decide) hw3)) Z (Qm Z Z (Y9 Z Z) Z (Qa (Qp Z Z) Z (Qn ⟨Z,Z,Z,Z,Z,Z,Z,Z,congrArg (fun b=>some (Value.bool b)) (show (((x.inputs.length : Nat) : Int) == 0) = (((((!(Yr g)) || (!(Yv g x))) || (decide (0 < ((x.staged.length : Nat) : Int)))) || (decide (0 < ((x.queue.length : Nat) : Int)))) || (((x.inputs.length : Nat) : Int) == 0)) by first | (rw [hg1,hg2,hg3,hg4] <;> rfl) | (simp [hg1,hg2,hg3,hg4];done) | (simp only [Qq] <;> simp)),trivial⟩ ⟨E,(by omega),h1,h2,h3,hw1,hw2,hw3,hw4,hw5,hw6,hw7,hw8⟩)))))
 clear E h1 h2 h3 hw1 hw2 hw3 hw4 hw5 hw6 hw7 hw8
 rintro w7 ⟨E,z8,h1,h2,h3,hw1,hw2,hw3,hw4,hw5,hw6,hw7,hw8⟩
 refine Qd (Qt Z (fun hc1=>?_) (fun hc1=>?_))
 ·refine Qh (Qi [true,false,true] Z Z (Qa (Ql Yh Z h2.at Z) Z (Qs (cs':=[o10,o11,o12,o13,o14,o15,o16,o17]) Yh Z Z Z (Qg hw1.one (Qg hw2.one (Qg hw3.one (Qg hw4.one (Qg hw5.one (Qg hw6.one (Qg hw7.one (Qg hw8.one Z)))))))) h3 (Nat.le_of_ble_eq_true Z) Z (fun w9 m2 h3'=>?_))))
  replace h3:=h3'
  replace E:=E.step m2 (fun g hg=>by cases hg;omega);replace h1:=h1.mod m2 (fun g hg=>by cases hg;omega);replace h2:=h2.mod m2 (fun g hg=>by cases hg;omega);replace hw1:=hw1.mod m2 (fun g hg=>by cases hg;omega);replace hw2:=hw2.mod m2 (fun g hg=>by cases hg;omega);replace hw3:=hw3.mod m2 (fun g hg=>by cases hg;omega);replace hw4:=hw4.mod m2 (fun g hg=>by cases hg;omega);replace hw5:=hw5.mod m2 (fun g hg=>by cases hg;omega);replace hw6:=hw6.mod m2 (fun g hg=>by cases hg;omega);replace hw7:=hw7.mod m2 (fun g hg=>by cases hg;omega);replace hw8:=hw8.mod m2 (fun g hg=>by cases hg;omega)
  have z9:=m2.size
  refine Qa (Qe Z) Z (Qd (Qx (Y1 (l:=[.cell 4 33,.tmp 5]) (vs:=[.agg [o10,o11,o12,o13,o14,o15,o16,o17].toArray,.bool false]) Z ⟨.cell Z (Qv Yh h3.at Z),.tmp Z,trivial⟩ Z E ?_)))
  rw [take_no hc1]
  exact ⟨_,Z,(Worker.mkO x sp1 (Own.widen hw1 (by omega) (by omega)) (Own.widen hw2 (by omega) (by omega)) (Own.widen hw3 (by omega) (by omega)) (Own.widen hw4 (by omega) (by omega)) (Own.widen hw5 (by omega) (by omega)) (Own.widen hw6 (by omega) (by omega)) (Own.widen hw7 (by omega) (by omega)) (Own.widen hw8 (by omega) (by omega)))⟩
 ·have htl:=take_lt hc1
  refine Qy (Qh (Ay Xd [7] [(0,true),(1,true),(2,true),(3,true),(4,true),(5,true),(6,false)] [(7,false),(8,true),(9,false)] (by decide +kernel) Z Z (fun w10 e7=>?_)))
  replace E:=E.trans e7;replace h1:=h1.ext e7;replace h2:=h2.ext e7;replace h3:=h3.ext e7;replace hw1:=hw1.ext e7;replace hw2:=hw2.ext e7;replace hw3:=hw3.ext e7;replace hw4:=hw4.ext e7;replace hw5:=hw5.ext e7;replace hw6:=hw6.ext e7;replace hw7:=hw7.ext e7;replace hw8:=hw8.ext e7
  have z10:=e7.size
  refine Qa (Qf Kf Z) Z (Qa (Qk Xv Z (h2.one 0 Z)) Z (Qa (Qf X5 Z) Z (Qa (Qk Xv Z (h2.one 2 Z)) Z ?_)))
  have hi1 : 0 < x.inputs.length:=(by first | assumption | omega | (simp only [List.length_set];first | assumption | omega) | (simp only [List.getElem_set_self,List.length_set];first | assumption | omega) | (simp only [Y3,Yj,List.length_set];first | assumption | omega) | (simp;done))
  refine Qa (Q5 (i:=0) Xp Z Z (Own.rd (by decide) hw3) hi1) Z (Qa (Ql Xq Z ((Own.rd (by decide) hw3).get hi1) Z) Z (Qz (vs:=[.agg (Enc.enc (x.inputs[0]'hi1)).toArray]) (css:=[[.int .i64 ((x.inputs[0]'hi1).op),.int .i64 (((x.inputs[0]'hi1).stamp).epoch),.int .i64 (((x.inputs[0]'hi1).stamp).turn),.int .i64 ((x.inputs[0]'hi1).key),.int .i64 ((x.inputs[0]'hi1).val)]]) Xp Z Z ⟨⟨Z,Z⟩,trivial⟩ Z Z (fun b4 w11 e8 s4 h4=>?_)))
  replace h4 : Blk w11 b4 [.int .i64 ((x.inputs[0]'hi1).op),.int .i64 (((x.inputs[0]'hi1).stamp).epoch),.int .i64 (((x.inputs[0]'hi1).stamp).turn),.int .i64 ((x.inputs[0]'hi1).key),.int .i64 ((x.inputs[0]'hi1).val)]:=h4
  have g_b4 : w.heap.size ≤ b4:=by have:=E.size;omega
  have y_b4:=h4.lt
  replace E:=E.trans e8;replace h1:=h1.ext e8;replace h2:=h2.ext e8;replace h3:=h3.ext e8;replace hw1:=hw1.ext e8;replace hw2:=hw2.ext e8;replace hw3:=hw3.ext e8;replace hw4:=hw4.ext e8;replace hw5:=hw5.ext e8;replace hw6:=hw6.ext e8;replace hw7:=hw7.ext e8;replace hw8:=hw8.ext e8
  have z11:=e8.size
  refine T2 ?_
  refine J2_X Z ?_
  refine Ka Xp Z Z hw1 (Src.ofBlk h4 Z) Z (by unfold Q6 at hb;simp only [Ya,List.length_nil,List.length_cons,List.length_drop];simp only [Enc.sz];omega) (by decide) (by omega) (by omega) Z Z (fun v1 w12 m3 ho2 hb1=>?_)
  have hn1 : ∀ g,Value.ownBlock v1 = some g → g < w4.heap.size ∨ w11.heap.size ≤ g:=fun g hg=>(hb1 g hg).elim (fun h=>.inl (by have:=Own.blk hw1 g h;omega)) (fun h=>.inr h)
  have sq1:=sp1
  replace sp1:=SepL.set hb1 0 rfl sp1 ⟨(Own.lt hw1),(Own.lt hw2),(Own.lt hw3),(Own.lt hw4),(Own.lt hw5),(Own.lt hw6),(Own.lt hw7),(Own.lt hw8),trivial⟩
  replace sp1 : SepL [v1,o11,o12,o13,o14,o15,o16,o17]:=sp1
  replace E:=E.step m3 (fun g hg=>by have:=Own.blk hw1 g hg;omega);replace h1:=h1.mod m3 (fun g hg=>by have:=Own.blk hw1 g hg;omega);replace h2:=h2.mod m3 (fun g hg=>by have:=Own.blk hw1 g hg;omega);replace h3:=h3.mod m3 (fun g hg=>by have:=Own.blk hw1 g hg;omega);replace hw2:=Own.modS hw2 m3 sq1.1.1;replace hw3:=Own.modS hw3 m3 sq1.1.2.1;replace hw4:=Own.modS hw4 m3 sq1.1.2.2.1;replace hw5:=Own.modS hw5 m3 sq1.1.2.2.2.1;replace hw6:=Own.modS hw6 m3 sq1.1.2.2.2.2.1;replace hw7:=Own.modS hw7 m3 sq1.1.2.2.2.2.2.1;replace hw8:=Own.modS hw8 m3 sq1.1.2.2.2.2.2.2.1
  have z12:=m3.size
  replace ho2 : Own w12 w3.heap.size w12.heap.size 5 v1 (List.flatMap (Enc.enc (α:=Record)) (x.queue ++ [(x.inputs[0]'hi1)])):=by rw [List.flatMap_append];exact ho2
  refine Bp ?_
  refine Qa (Qf Kf Z) Z (Xf (cs':=[v1,o11,o12,o13,o14,o15,o16,o17]) Xv Z Z ho2.one h2 (Nat.le_of_ble_eq_true Z) Z (fun w13 m4 h2'=>?_))
  replace h2:=h2'
  replace E:=E.step m4 (fun g hg=>by cases hg;omega);replace h1:=h1.mod m4 (fun g hg=>by cases hg;omega);replace h3:=h3.mod m4 (fun g hg=>by cases hg;omega);replace hw2:=hw2.mod m4 (fun g hg=>by cases hg;omega);replace hw3:=hw3.mod m4 (fun g hg=>by cases hg;omega);replace hw4:=hw4.mod m4 (fun g hg=>by cases hg;omega);replace hw5:=hw5.mod m4 (fun g hg=>by cases hg;omega);replace hw6:=hw6.mod m4 (fun g hg=>by cases hg;omega);replace hw7:=hw7.mod m4 (fun g hg=>by cases hg;omega);replace hw8:=hw8.mod m4 (fun g hg=>by cases hg;omega);replace ho2:=Own.modN ho2 m4 (fun g hg hv=>by have hN:=hn1 g hv;have hB:=Own.blk ho2 g hv;cases hg;omega)
  have z13:=m4.size
  refine Qd (Qh (Qi [false,true,true,true,false,true,false] Z Z (Qz (vs:=[]) (css:=[]) Xp Z Z trivial Z Z (fun b5 w14 e9 s5 h5=>?_))))
  replace h5 : Blk w14 b5 []:=h5
  have g_b5 : w.heap.size ≤ b5:=by have:=E.size;omega
  have y_b5:=h5.lt
  replace E:=E.trans e9;replace h1:=h1.ext e9;replace h2:=h2.ext e9;replace h3:=h3.ext e9;replace hw2:=hw2.ext e9;replace hw3:=hw3.ext e9;replace hw4:=hw4.ext e9;replace hw5:=hw5.ext e9;replace hw6:=hw6.ext e9;replace hw7:=hw7.ext e9;replace hw8:=hw8.ext e9;replace ho2:=ho2.ext e9
  have z14:=e9.size
  refine Qa (Qf X5 Z) Z (Qa (Qk Xv Z (h2.one 2 Z)) Z ?_)
  have hk1 : 1 ≤ x.inputs.length:=by first | assumption | omega
  have hs1:=Own.slFromE (α:=Record) hw3 hk1
  replace hs1 : Own w14 w3.heap.size w4.heap.size 5 (slFrom o12 1 5) (List.flatMap (Enc.enc (α:=Record)) (List.drop 1 x.inputs)):=hs1
  have hb2 : Become w14 o12 (slFrom o12 1 5):=fun g hg=>.inl (by rwa [H9] at hg)
  replace sp1:=SepL.set hb2 2 rfl sp1 ⟨(Own.lt ho2),(Own.lt hw2),(Own.lt hw3),(Own.lt hw4),(Own.lt hw5),(Own.lt hw6),(Own.lt hw7),(Own.lt hw8),trivial⟩
  replace sp1 : SepL [v1,o11,slFrom o12 1 5,o13,o14,o15,o16,o17]:=sp1
  refine Qa (Gi Xp Z Z (Own.roomE (α:=Record) hw3) hk1) Z (Xo Xp Z Z (Own.ofBlk (lo:=b5) (hi:=b5 + 1) (sz:=5) h5 (Nat.le_refl _) (Nat.lt_succ_self _) (by simp) (by simp [maxLen])) (Own.src hs1) (Xm _) (by unfold Q6 at hb;simp only [Ya,List.length_nil,List.length_cons,List.length_drop];simp only [Enc.sz];omega) (by decide) (by omega) (by omega) Z Z (fun v2 w15 m5 ho3=>?_))
  replace E:=E.step m5 (fun g hg=>by have:=Own.blk (Own.ofBlk (lo:=b5) (hi:=b5 + 1) (sz:=5) h5 (Nat.le_refl _) (Nat.lt_succ_self _) (by simp) (by simp [maxLen])) g hg;omega);replace h1:=h1.mod m5 (fun g hg=>by have:=Own.blk (Own.ofBlk (lo:=b5) (hi:=b5 + 1) (sz:=5) h5 (Nat.le_refl _) (Nat.lt_succ_self _) (by simp) (by simp [maxLen])) g hg;omega);replace h2:=h2.mod m5 (fun g hg=>by have:=Own.blk (Own.ofBlk (lo:=b5) (hi:=b5 + 1) (sz:=5) h5 (Nat.le_refl _) (Nat.lt_succ_self _) (by simp) (by simp [maxLen])) g hg;omega);replace h3:=h3.mod m5 (fun g hg=>by have:=Own.blk (Own.ofBlk (lo:=b5) (hi:=b5 + 1) (sz:=5) h5 (Nat.le_refl _) (Nat.lt_succ_self _) (by simp) (by simp [maxLen])) g hg;omega);replace hw2:=hw2.mod m5 (fun g hg=>by have:=Own.blk (Own.ofBlk (lo:=b5) (hi:=b5 + 1) (sz:=5) h5 (Nat.le_refl _) (Nat.lt_succ_self _) (by simp) (by simp [maxLen])) g hg;omega);replace hw4:=hw4.mod m5 (fun g hg=>by have:=Own.blk (Own.ofBlk (lo:=b5) (hi:=b5 + 1) (sz:=5) h5 (Nat.le_refl _) (Nat.lt_succ_self _) (by simp) (by simp [maxLen])) g hg;omega);replace hw5:=hw5.mod m5 (fun g hg=>by have:=Own.blk (Own.ofBlk (lo:=b5) (hi:=b5 + 1) (sz:=5) h5 (Nat.le_refl _) (Nat.lt_succ_self _) (by simp) (by simp [maxLen])) g hg;omega);replace hw6:=hw6.mod m5 (fun g hg=>by have:=Own.blk (Own.ofBlk (lo:=b5) (hi:=b5 + 1) (sz:=5) h5 (Nat.le_refl _) (Nat.lt_succ_self _) (by simp) (by simp [maxLen])) g hg;omega);replace hw7:=hw7.mod m5 (fun g hg=>by have:=Own.blk (Own.ofBlk (lo:=b5) (hi:=b5 + 1) (sz:=5) h5 (Nat.le_refl _) (Nat.lt_succ_self _) (by simp) (by simp [maxLen])) g hg;omega);replace hw8:=hw8.mod m5 (fun g hg=>by have:=Own.blk (Own.ofBlk (lo:=b5) (hi:=b5 + 1) (sz:=5) h5 (Nat.le_refl _) (Nat.lt_succ_self _) (by simp) (by simp [maxLen])) g hg;omega);replace ho2:=Own.modN ho2 m5 (fun g hg hv=>by have hN:=hn1 g hv;have hB:=Own.blk ho2 g hv;have:=Own.blk (Own.ofBlk (lo:=b5) (hi:=b5 + 1) (sz:=5) h5 (Nat.le_refl _) (Nat.lt_succ_self _) (by simp) (by simp [maxLen])) g hg;omega);replace hs1:=hs1.mod m5 (fun g hg=>by have:=Own.blk (Own.ofBlk (lo:=b5) (hi:=b5 + 1) (sz:=5) h5 (Nat.le_refl _) (Nat.lt_succ_self _) (by simp) (by simp [maxLen])) g hg;omega)
  have z15:=m5.size
  refine Qa (Qf X5 Z) Z (Xf (cs':=[v1,o11,v2,o13,o14,o15,o16,o17]) Xv Z Z ho3.one h2 (Nat.le_of_ble_eq_true Z) Z (fun w16 m6 h2'=>?_))
  replace h2:=h2'
  replace E:=E.step m6 (fun g hg=>by cases hg;omega);replace h1:=h1.mod m6 (fun g hg=>by cases hg;omega);replace h3:=h3.mod m6 (fun g hg=>by cases hg;omega);replace hw2:=hw2.mod m6 (fun g hg=>by cases hg;omega);replace hw4:=hw4.mod m6 (fun g hg=>by cases hg;omega);replace hw5:=hw5.mod m6 (fun g hg=>by cases hg;omega);replace hw6:=hw6.mod m6 (fun g hg=>by cases hg;omega);replace hw7:=hw7.mod m6 (fun g hg=>by cases hg;omega);replace hw8:=hw8.mod m6 (fun g hg=>by cases hg;omega);replace ho2:=Own.modN ho2 m6 (fun g hg hv=>by have hN:=hn1 g hv;have hB:=Own.blk ho2 g hv;cases hg;omega);replace hs1:=hs1.mod m6 (fun g hg=>by cases hg;omega);replace ho3:=ho3.mod m6 (fun g hg=>by cases hg;omega)
  have z16:=m6.size
  refine Qd (Qh (Qi [true,false,true] Z Z (Qa (Ql Yh Z h2.at Z) Z (Qs (cs':=[v1,o11,v2,o13,o14,o15,o16,o17]) Yh Z Z Z (Qg ho2.one (Qg hw2.one (Qg ho3.one (Qg hw4.one (Qg hw5.one (Qg hw6.one (Qg hw7.one (Qg hw8.one Z)))))))) h3 (Nat.le_of_ble_eq_true Z) Z (fun w17 m7 h3'=>?_)))))
  replace h3:=h3'
  replace E:=E.step m7 (fun g hg=>by cases hg;omega);replace h1:=h1.mod m7 (fun g hg=>by cases hg;omega);replace h2:=h2.mod m7 (fun g hg=>by cases hg;omega);replace hw2:=hw2.mod m7 (fun g hg=>by cases hg;omega);replace hw4:=hw4.mod m7 (fun g hg=>by cases hg;omega);replace hw5:=hw5.mod m7 (fun g hg=>by cases hg;omega);replace hw6:=hw6.mod m7 (fun g hg=>by cases hg;omega);replace hw7:=hw7.mod m7 (fun g hg=>by cases hg;omega);replace hw8:=hw8.mod m7 (fun g hg=>by cases hg;omega);replace ho2:=Own.modN ho2 m7 (fun g hg hv=>by have hN:=hn1 g hv;have hB:=Own.blk ho2 g hv;cases hg;omega);replace hs1:=hs1.mod m7 (fun g hg=>by cases hg;omega);replace ho3:=ho3.mod m7 (fun g hg=>by cases hg;omega)
  have z17:=m7.size
  refine Qa (Qe Z) Z (Qd (Qx (Y1 (l:=[.cell 4 33,.tmp 5]) (vs:=[.agg [v1,o11,v2,o13,o14,o15,o16,o17].toArray,.bool true]) Z ⟨.cell Z (Qv Yh h3.at Z),.tmp Z,trivial⟩ Z E ?_)))
  rw [take_yes hc1 htl]
  exact ⟨_,Z,(Worker.mkO (⟨x.queue ++ [(x.inputs[0]'hi1)],x.staged,[] ++ (List.drop 1 x.inputs),x.cells,x.sums,x.black,x.caps,x.dones⟩ : Worker) ⟨⟨sp1.1.1,⟨(fun g hg he=>by have:=Own.blk ho2 g hg;have:=Own.blk ho3 g he;have:=hn1 g hg;omega),⟨sp1.1.2.2.1,⟨sp1.1.2.2.2.1,⟨sp1.1.2.2.2.2.1,⟨sp1.1.2.2.2.2.2.1,⟨sp1.1.2.2.2.2.2.2.1,trivial⟩⟩⟩⟩⟩⟩⟩,⟨⟨(Own.sep hw2 ho3 (by omega)),⟨sp1.2.1.2.1,⟨sp1.2.1.2.2.1,⟨sp1.2.1.2.2.2.1,⟨sp1.2.1.2.2.2.2.1,⟨sp1.2.1.2.2.2.2.2.1,trivial⟩⟩⟩⟩⟩⟩,⟨⟨(Own.sep ho3 hw4 (by omega)),⟨(Own.sep ho3 hw5 (by omega)),⟨(Own.sep ho3 hw6 (by omega)),⟨(Own.sep ho3 hw7 (by omega)),⟨(Own.sep ho3 hw8 (by omega)),trivial⟩⟩⟩⟩⟩,⟨⟨sp1.2.2.2.1.1,⟨sp1.2.2.2.1.2.1,⟨sp1.2.2.2.1.2.2.1,⟨sp1.2.2.2.1.2.2.2.1,trivial⟩⟩⟩⟩,⟨⟨sp1.2.2.2.2.1.1,⟨sp1.2.2.2.2.1.2.1,⟨sp1.2.2.2.2.1.2.2.1,trivial⟩⟩⟩,⟨⟨sp1.2.2.2.2.2.1.1,⟨sp1.2.2.2.2.2.1.2.1,trivial⟩⟩,⟨⟨sp1.2.2.2.2.2.2.1.1,trivial⟩,⟨trivial,trivial⟩⟩⟩⟩⟩⟩⟩⟩ (Own.widen ho2 (by omega) (by omega)) (Own.widen hw2 (by omega) (by omega)) (Own.widen ho3 (by omega) (by omega)) (Own.widen hw4 (by omega) (by omega)) (Own.widen hw5 (by omega) (by omega)) (Own.widen hw6 (by omega) (by omega)) (Own.widen hw7 (by omega) (by omega)) (Own.widen hw8 (by omega) (by omega)))⟩

set_option maxRecDepth 20000 in
theorem s_Remembers (k : Int) (w : World)  : Ct Tryz.prog 115 [.int .i64 k] w (fun v _=>v = .bool (((k == 5) || (k == 6)) || (k == 8))):=by
 refine Yp Tryz.func115 Z Tryz.ntmps115 Z ?_
 refine Yb [(0,.int .i64 k)] ⟨Z,trivial⟩ ?_
 have E : Ext w w:=Ext.refl w
 refine Qh (Qi [true] Z Z (Qa (Qe Z) Z (Qd (Qh (Qi [true,true,true,true,true,true,true,true,true,true,true] Z Z (Qa (Qb Z) Z (Qa (Y9 Z Z) Z (Qa (Qb Z) Z (Xr 7 [(0,.int .i64 k),(2,.bool false),(12,.bool (((k == 5) || (k == 6)) || (k == 8)))] (fun w'=>w = w') ?_ ?_)))))))))
 ·refine Yz (gd:=5) Z Z (fun hg1=>?_) (fun hg1=>?_)
  ·refine Qc Z Z Z Z (Qc Z Z Z Z (Qa (Qr Z Z) Z (Qa (Qb Z) Z (Qc Z Z Z Z (Qc Z Z Z Z (Qa (Qr Z Z) Z (Qn ⟨Z,Z,congrArg (fun b=>some (Value.bool b)) (show true = (((k == 5) || (k == 6)) || (k == 8)) by first | (rw [hg1] <;> rfl) | (simp [hg1];done) | (simp only [Qq] <;> simp)),trivial⟩ Z)))))))
  ·refine Qm Z Z (Qb Z) Z (Qm Z Z (Y9 Z Z) Z (Qa (Qp Z Z) Z (Qa (Qb Z) Z ?_)))
   refine Yz (gd:=9) Z Z (fun hg2=>?_) (fun hg2=>?_)
   ·refine Qc Z Z Z Z (Qc Z Z Z Z (Qa (Qr Z Z) Z (Qn ⟨Z,Z,congrArg (fun b=>some (Value.bool b)) (show true = (((k == 5) || (k == 6)) || (k == 8)) by first | (rw [hg1,hg2] <;> rfl) | (simp [hg1,hg2];done) | (simp only [Qq] <;> simp)),trivial⟩ Z)))
   ·refine Qm Z Z (Qb Z) Z (Qm Z Z (Y9 Z Z) Z (Qa (Qp Z Z) Z (Qn ⟨Z,Z,congrArg (fun b=>some (Value.bool b)) (show (k == 8) = (((k == 5) || (k == 6)) || (k == 8)) by first | (rw [hg1,hg2] <;> rfl) | (simp [hg1,hg2];done) | (simp only [Qq] <;> simp)),trivial⟩ Z)))
 rintro _ rfl
 refine Qa (Qe Z) Z (Qd (Qx (Qu Z Z E ?_)))
 rfl

set_option maxHeartbeats 4000000 in
set_option maxRecDepth 20000 in
theorem s_StepOp (cg : List Value) (g : Graph) (vcs : Value) (cs : List Cell) (r : Record) (w : World) (hg : Dat.R w 0 w.heap.size cg g) (hcs : RdS w vcs cs) (hb : cs.length ≤ 4194304) (hcg : Uq g ≤ 1048576) : Ct Tryz.prog 99 [.agg cg.toArray,vcs,.agg (Enc.enc r).toArray] w (fun v w'=>∃ u0 u1,v = .tuple [u0,u1,.bool ((Kc g cs r).2.2)].toArray ∧ Own w' w.heap.size w'.heap.size 4 u0 (List.flatMap (Enc.enc (α:=Cell)) ((Kc g cs r).1)) ∧ Own w' w.heap.size w'.heap.size 5 u1 (List.flatMap (Enc.enc (α:=Record)) ((Kc g cs r).2.1)) ∧ SepL [u0,u1]):=by
 refine Yp Tryz.func99 Z Tryz.ntmps99 Z ?_
 obtain ⟨o1,rfl,hd1⟩:=Graph.op hg
 refine Yb [(0,.agg [o1,.int .i64 g.workers,.int .i64 g.cap].toArray),(1,vcs),(2,.agg (Enc.enc r).toArray)] ⟨Z,Z,Z,trivial⟩ ?_
 have E : Ext w w:=Ext.refl w
 refine Qh (Qi [false,false,true,true,true] Z Z (Xb Z Z (fun b1 w1 e1 s1 h1=>?_)))
 have g_b1 : w.heap.size ≤ b1:=by have:=E.size;omega
 have y_b1:=h1.lt
 replace E:=E.trans e1
 have z1:=e1.size
 refine Xb Z Z (fun b2 w2 e2 s2 h2=>?_)
 have g_b2 : w.heap.size ≤ b2:=by have:=E.size;omega
 have y_b2:=h2.lt
 replace E:=E.trans e2;replace h1:=h1.ext e2
 have z2:=e2.size
 refine Qa (Qe Z) Z (Qa (Qe Z) Z (Qa (Qe Z) Z (Qd (Qh (Qi [false,true,false,true] Z Z (Qz (vs:=[]) (css:=[]) K3 Z Z trivial Z Z (fun b3 w3 e3 s3 h3=>?_)))))))
 replace h3 : Blk w3 b3 []:=h3
 have g_b3 : w.heap.size ≤ b3:=by have:=E.size;omega
 have y_b3:=h3.lt
 replace E:=E.trans e3;replace h1:=h1.ext e3;replace h2:=h2.ext e3
 have z3:=e3.size
 refine Qa (Qb Z) Z (Xo K3 Z Z (Own.ofBlk (lo:=b3) (hi:=b3 + 1) (sz:=4) h3 (Nat.le_refl _) (Nat.lt_succ_self _) (by simp) (by simp [maxLen])) (RdS.src (hcs.ext E)) (Xm _) (by first | (simp only [Ya,List.length_nil,List.length_cons];simp only [Enc.sz];omega) | (have h:=Hy g r k;rw [Ya];simp only [show Enc.sz Record = 5 from Z,List.length_cons,List.length_nil];omega)) (by decide) (by omega) (by omega) Z Z (fun v1 w4 m1 ho1=>?_))
 replace E:=E.step m1 (fun g hg=>by have:=Own.blk (Own.ofBlk (lo:=b3) (hi:=b3 + 1) (sz:=4) h3 (Nat.le_refl _) (Nat.lt_succ_self _) (by simp) (by simp [maxLen])) g hg;omega);replace h1:=h1.mod m1 (fun g hg=>by have:=Own.blk (Own.ofBlk (lo:=b3) (hi:=b3 + 1) (sz:=4) h3 (Nat.le_refl _) (Nat.lt_succ_self _) (by simp) (by simp [maxLen])) g hg;omega);replace h2:=h2.mod m1 (fun g hg=>by have:=Own.blk (Own.ofBlk (lo:=b3) (hi:=b3 + 1) (sz:=4) h3 (Nat.le_refl _) (Nat.lt_succ_self _) (by simp) (by simp [maxLen])) g hg;omega)
 have z4:=m1.size
 refine Qa (Qe Z) Z (Qd (Qh (Qi [false,true] Z Z (Qz (vs:=[]) (css:=[]) Xp Z Z trivial Z Z (fun b4 w5 e4 s4 h4=>?_)))))
 replace h4 : Blk w5 b4 []:=h4
 have g_b4 : w.heap.size ≤ b4:=by have:=E.size;omega
 have y_b4:=h4.lt
 replace E:=E.trans e4;replace h1:=h1.ext e4;replace h2:=h2.ext e4;replace ho1:=ho1.ext e4
 have z5:=e4.size
 refine Qa (Qe Z) Z (Qd (Qh (Qi [true,true,true,false,true,true,true,false,false,true] Z Z (Qa (Ql Xz Z h1.at Z) Z (Qa (Qf Ve Z) Z (Qa (Qk Xi Z (h2.one 0 Z)) Z (Qw Tryz.call113 Z (s_NodeOf [o1,.int .i64 g.workers,.int .i64 g.cap] g r.op _ (Graph.mkR g (RdD.any (hd1.ext E))) (by first | omega | (simp only [Q1];omega) | (rw [Q1];done) | (simp only [Q1];done))) Z (fun _ w6 e5 ho2=>?_))))))))
 obtain ⟨_,rfl,ho3⟩:=ho2
 have g_ho2 : w.heap.size ≤ w5.heap.size:=E.size
 replace E:=E.trans e5;replace h1:=h1.ext e5;replace h2:=h2.ext e5;replace ho1:=ho1.ext e5;replace h4:=h4.ext e5
 have z6:=e5.size
 obtain ⟨o2,rfl,sp1,hw1⟩:=Node.opO ho3
 refine Qa (Qb Z) Z (Qa (Ym Z Z) Z (Qa (Ym Z Z) Z (Yd K9 Z (fun b5 w7 e6 s5 h5=>?_))))
 have g_b5 : w.heap.size ≤ b5:=by have:=E.size;omega
 have y_b5:=h5.lt
 replace E:=E.trans e6;replace h1:=h1.ext e6;replace h2:=h2.ext e6;replace ho1:=ho1.ext e6;replace h4:=h4.ext e6;replace hw1:=hw1.ext e6
 have z7:=e6.size
 refine Qs (cs':=[.int .i64 (((Qj g r.op).1).kind),.int .i64 (((Qj g r.op).1).a),.int .i64 (((Qj g r.op).1).b),o2]) K9 Z Z Z (Qg Z (Qg Z (Qg Z (Qg hw1.one Z)))) h5 (Nat.le_of_ble_eq_true Z) Z (fun w8 m2 h5'=>?_)
 replace h5:=h5'
 replace E:=E.step m2 (fun g hg=>by cases hg;omega);replace h1:=h1.mod m2 (fun g hg=>by cases hg;omega);replace h2:=h2.mod m2 (fun g hg=>by cases hg;omega);replace ho1:=ho1.mod m2 (fun g hg=>by cases hg;omega);replace h4:=h4.mod m2 (fun g hg=>by cases hg;omega);replace hw1:=hw1.mod m2 (fun g hg=>by cases hg;omega)
 have z8:=m2.size
 refine Qa (Qe Z) Z (Qd (Qh (Qh (Qi [true,true,true,true,false,true,true,true,true,false,true,true] Z Z (Qa (Qb Z) Z (Qa (Xn Z) Z (Qa (Qb Z) Z (Xr 9 [(0,.agg [o1,.int .i64 g.workers,.int .i64 g.cap].toArray),(1,vcs),(2,.agg (Enc.enc r).toArray),(3,.pointer (some ⟨b1,0,none⟩)),(5,.pointer (some ⟨b2,0,none⟩)),(6,.slice none 0 0),(7,.slice none 0 0),(8,.bool false),(9,v1),(10,.slice (some ⟨b4,0,none⟩) 0 0),(11,.pointer (some ⟨b5,0,none⟩)),(12,.bool ((Qj g r.op).2)),(22,.slice (some ⟨b3,0,none⟩) 0 0),(23,vcs),(24,v1),(25,.slice (some ⟨b4,0,none⟩) 0 0),(26,.tuple [.agg [.int .i64 (((Qj g r.op).1).kind),.int .i64 (((Qj g r.op).1).a),.int .i64 (((Qj g r.op).1).b),o2].toArray,.bool ((Qj g r.op).2)].toArray),(27,.agg [o1,.int .i64 g.workers,.int .i64 g.cap].toArray),(28,.pointer (some ⟨b2,0,none⟩)),(29,.int .i64 r.op),(30,.tuple [.agg [.int .i64 (((Qj g r.op).1).kind),.int .i64 (((Qj g r.op).1).a),.int .i64 (((Qj g r.op).1).b),o2].toArray,.bool ((Qj g r.op).2)].toArray),(31,.agg [.int .i64 (((Qj g r.op).1).kind),.int .i64 (((Qj g r.op).1).a),.int .i64 (((Qj g r.op).1).b),o2].toArray),(32,.bool ((Qj g r.op).2)),(44,.bool (((!((Qj g r.op).2)) || (!(Yr g))) || (!(Yx r))))] (fun w'=>Ext w w' ∧ w8.heap.size ≤ w'.heap.size ∧ Blk w' b1 ([o1,.int .i64 g.workers,.int .i64 g.cap]) ∧ Blk w' b2 (Enc.enc r) ∧ Own w' b3 w4.heap.size 4 v1 ([] ++ List.flatMap (Enc.enc (α:=Cell)) cs) ∧ Blk w' b4 [] ∧ Own w' w5.heap.size w6.heap.size 1 o2 (List.flatMap (Enc.enc (α:=Int)) (((Qj g r.op).1).outs)) ∧ Blk w' b5 [.int .i64 (((Qj g r.op).1).kind),.int .i64 (((Qj g r.op).1).a),.int .i64 (((Qj g r.op).1).b),o2]) ?_ ?_))))))))
 ·refine Yz (gd:=35) Z Z (fun hg1=>?_) (fun hg1=>?_)
  ·refine Qc Z Z Z Z ?_
   refine Q3 Z Z Z Z ?_
   refine Qc Z Z Z Z (Qa (Qr Z Z) Z (Qa (Qb Z) Z (Qc Z Z Z Z ?_)))
   refine Q3 Z Z Z Z ?_
   refine Qc Z Z Z Z (Qa (Qr Z Z) Z (Qn ⟨Z,Z,Z,Z,Z,Z,Z,Z,Z,Z,Z,Z,Z,Z,Z,Z,Z,Z,Z,Z,Z,Z,Z,congrArg (fun b=>some (Value.bool b)) (show true = (((!((Qj g r.op).2)) || (!(Yr g))) || (!(Yx r))) by first | (rw [hg1] <;> rfl) | (simp [hg1];done) | (simp only [Qq] <;> simp)),trivial⟩ ⟨E,(by omega),h1,h2,ho1,h4,hw1,h5⟩))
  ·refine Qm Z Z (Ql Xz Z h1.at Z) Z ?_
   refine Xa Z Z ?_
   refine Qw Tryz.call97 Z (s_GraphOk [o1,.int .i64 g.workers,.int .i64 g.cap] g _ (Graph.mkR g (RdD.any (hd1.ext E)))) Z (fun _ w10 e7 hv=>?_)
   subst hv
   replace E:=E.trans e7;replace h1:=h1.ext e7;replace h2:=h2.ext e7;replace ho1:=ho1.ext e7;replace h4:=h4.ext e7;replace hw1:=hw1.ext e7;replace h5:=h5.ext e7
   have z9:=e7.size
   refine Qm Z Z (Xn Z) Z (Qa (Qp Z Z) Z (Qa (Qb Z) Z ?_))
   refine Yz (gd:=40) Z Z (fun hg2=>?_) (fun hg2=>?_)
   ·refine Qc Z Z Z Z ?_
    refine Q3 Z Z Z Z ?_
    refine Qc Z Z Z Z (Qa (Qr Z Z) Z (Qn ⟨Z,Z,Z,Z,Z,Z,Z,Z,Z,Z,Z,Z,Z,Z,Z,Z,Z,Z,Z,Z,Z,Z,Z,congrArg (fun b=>some (Value.bool b)) (show true = (((!((Qj g r.op).2)) || (!(Yr g))) || (!(Yx r))) by first | (rw [hg1,hg2] <;> rfl) | (simp [hg1,hg2];done) | (simp only [Qq] <;> simp)),trivial⟩ ⟨E,(by omega),h1,h2,ho1,h4,hw1,h5⟩))
   ·refine Qm Z Z (Ql Xq Z h2.at Z) Z ?_
    refine Xa Z Z ?_
    refine Qw Tryz.call61 Z (s_RecordOk r _ ) Z (fun _ w11 e8 hv=>?_)
    subst hv
    replace E:=E.trans e8;replace h1:=h1.ext e8;replace h2:=h2.ext e8;replace ho1:=ho1.ext e8;replace h4:=h4.ext e8;replace hw1:=hw1.ext e8;replace h5:=h5.ext e8
    have z10:=e8.size
    refine Qm Z Z (Xn Z) Z (Qa (Qp Z Z) Z (Qn ⟨Z,Z,Z,Z,Z,Z,Z,Z,Z,Z,Z,Z,Z,Z,Z,Z,Z,Z,Z,Z,Z,Z,Z,congrArg (fun b=>some (Value.bool b)) (show (!(Yx r)) = (((!((Qj g r.op).2)) || (!(Yr g))) || (!(Yx r))) by first | (rw [hg1,hg2] <;> rfl) | (simp [hg1,hg2];done) | (simp only [Qq] <;> simp)),trivial⟩ ⟨E,(by omega),h1,h2,ho1,h4,hw1,h5⟩))
 clear E h1 h2 ho1 h4 hw1 h5
 rintro w9 ⟨E,z11,h1,h2,ho1,h4,hw1,h5⟩
 refine Qd (Qt Z (fun hc1=>?_) (fun hc1=>?_))
 ·replace hc1:=st_spt hc1
  refine Qh (Qi [true,true,true,true,true] Z Z (Qa (Qb Z) Z (Qa (Qb Z) Z (Qa (Qe Z) Z (Qa (Qe Z) Z (Qa (Qe Z) Z (Qd (Qx (Y1 (l:=[.tmp 6,.tmp 7,.tmp 8]) (vs:=[v1,.slice (some ⟨b4,0,none⟩) 0 0,.bool false]) Z ⟨.tmp Z,.tmp Z,.tmp Z,trivial⟩ Z E ?_)))))))))
  rw [st_0 hc1]
  exact ⟨_,_,Z,Own.fin ho1 (by omega) (by omega) (by first | rfl | (simp only [List.nil_append];done)),Own.fin (Own.ofBlk (lo:=b4) (hi:=b4 + 1) (sz:=5) h4 (Nat.le_refl _) (Nat.lt_succ_self _) (by rfl) (by unfold maxLen;omega)) (by omega) (by omega) (by first | rfl | (simp only [List.nil_append];done)),⟨⟨(Own.sep ho1 (Own.ofBlk (lo:=b4) (hi:=b4 + 1) (sz:=5) h4 (Nat.le_refl _) (Nat.lt_succ_self _) (by rfl) (by unfold maxLen;omega)) (by omega)),trivial⟩,⟨trivial,trivial⟩⟩⟩
 ·replace hc1:=st_spf hc1
  have hq:=st_of hc1
  have hop:=Vt hq.2
  have hx : ((Qj g r.op).1) = Ut g r:=nodeOf_1 hq.2
  have hol : ((Qj g r.op).1).outs.length ≤ 2:=hx ▸ Ai (i:=Int.toNat r.op) hq.1 (by omega)
  refine Qy (Qh (Qi [true,true,true,true,true,false,true,true,true,true,true,true,true] Z Z (Qa (Ql K9 Z h5.at Z) Z (Qa (Qf Th Z) Z (Qa (Qk Xi Z (h2.one 3 Z)) Z (Qa (Qf Tg Z) Z (Qa (Qk Xi Z (h2.one 4 Z)) Z (Qw Tryz.call114 Z (s_Changed [.int .i64 (((Qj g r.op).1).kind),.int .i64 (((Qj g r.op).1).a),.int .i64 (((Qj g r.op).1).b),o2] ((Qj g r.op).1) r.key r.val _ (Node.mkR ((Qj g r.op).1) (RdD.any (Own.rdD hw1)))) Z (fun _ w12 e9 hv=>?_)))))))))
  subst hv
  replace E:=E.trans e9;replace h1:=h1.ext e9;replace h2:=h2.ext e9;replace ho1:=ho1.ext e9;replace h4:=h4.ext e9;replace hw1:=hw1.ext e9;replace h5:=h5.ext e9
  have z12:=e9.size
  refine Qa (Qb Z) Z (Qa (Ym Z Z) Z (Qa (Ym Z Z) Z (Qa (Ym Z Z) Z (Qa (Qe Z) Z (Qa (Qe Z) Z (Qa (Qe Z) Z (Qd (Qh (Qh (Qi [true,true,true,true,true,true,true] Z Z (Qa (Qb Z) Z (Qa (Xn Z) Z (Qa (Qb Z) Z (Xr 4 [(0,.agg [o1,.int .i64 g.workers,.int .i64 g.cap].toArray),(1,vcs),(2,.agg (Enc.enc r).toArray),(3,.pointer (some ⟨b1,0,none⟩)),(5,.pointer (some ⟨b2,0,none⟩)),(6,.slice none 0 0),(7,.slice none 0 0),(8,.bool false),(9,v1),(10,.slice (some ⟨b4,0,none⟩) 0 0),(11,.pointer (some ⟨b5,0,none⟩)),(12,.bool ((Qj g r.op).2)),(13,.int .i64 ((Qo ((Qj g r.op).1) r.key r.val).1)),(14,.int .i64 ((Qo ((Qj g r.op).1) r.key r.val).2.1)),(15,.bool ((Qo ((Qj g r.op).1) r.key r.val).2.2)),(22,.slice (some ⟨b3,0,none⟩) 0 0),(23,vcs),(24,v1),(25,.slice (some ⟨b4,0,none⟩) 0 0),(26,.tuple [.agg [.int .i64 (((Qj g r.op).1).kind),.int .i64 (((Qj g r.op).1).a),.int .i64 (((Qj g r.op).1).b),o2].toArray,.bool ((Qj g r.op).2)].toArray),(27,.agg [o1,.int .i64 g.workers,.int .i64 g.cap].toArray),(28,.pointer (some ⟨b2,0,none⟩)),(29,.int .i64 r.op),(30,.tuple [.agg [.int .i64 (((Qj g r.op).1).kind),.int .i64 (((Qj g r.op).1).a),.int .i64 (((Qj g r.op).1).b),o2].toArray,.bool ((Qj g r.op).2)].toArray),(31,.agg [.int .i64 (((Qj g r.op).1).kind),.int .i64 (((Qj g r.op).1).a),.int .i64 (((Qj g r.op).1).b),o2].toArray),(32,.bool ((Qj g r.op).2)),(44,.bool (((!((Qj g r.op).2)) || (!(Yr g))) || (!(Yx r)))),(47,.tuple [.int .i64 ((Qo ((Qj g r.op).1) r.key r.val).1),.int .i64 ((Qo ((Qj g r.op).1) r.key r.val).2.1),.bool ((Qo ((Qj g r.op).1) r.key r.val).2.2)].toArray),(48,.agg [.int .i64 (((Qj g r.op).1).kind),.int .i64 (((Qj g r.op).1).a),.int .i64 (((Qj g r.op).1).b),o2].toArray),(49,.pointer (some ⟨b2,3,none⟩)),(50,.int .i64 r.key),(51,.pointer (some ⟨b2,4,none⟩)),(52,.int .i64 r.val),(53,.tuple [.int .i64 ((Qo ((Qj g r.op).1) r.key r.val).1),.int .i64 ((Qo ((Qj g r.op).1) r.key r.val).2.1),.bool ((Qo ((Qj g r.op).1) r.key r.val).2.2)].toArray),(54,.int .i64 ((Qo ((Qj g r.op).1) r.key r.val).1)),(55,.int .i64 ((Qo ((Qj g r.op).1) r.key r.val).2.1)),(56,.bool ((Qo ((Qj g r.op).1) r.key r.val).2.2)),(63,.bool ((!((Qo ((Qj g r.op).1) r.key r.val).2.2)) && ((((Qj g r.op).1).kind) != 8)))] (fun w'=>w12 = w') ?_ ?_))))))))))))))
  ·refine Yz (gd:=59) Z Z (fun hg3=>?_) (fun hg3=>?_)
   ·refine Qm Z Z (Qf Uw Z) Z (Qm Z Z (Qk Xi Z (h5.one 0 Z)) Z (Qm Z Z (X1 Z Z) Z (Qa (Qr Z Z) Z (Qn ⟨Z,Z,Z,Z,Z,Z,Z,Z,Z,Z,Z,Z,Z,Z,Z,Z,Z,Z,Z,Z,Z,Z,Z,Z,Z,Z,Z,Z,Z,Z,Z,Z,Z,Z,Z,Z,Z,congrArg (fun b=>some (Value.bool b)) (show ((((Qj g r.op).1).kind) != 8) = ((!((Qo ((Qj g r.op).1) r.key r.val).2.2)) && ((((Qj g r.op).1).kind) != 8)) by first | (rw [hg3] <;> rfl) | (simp [hg3];done) | (simp only [Qq] <;> simp)),trivial⟩ Z))))
   ·refine Qc Z Z Z Z (Qc Z Z Z Z (Qc Z Z Z Z (Qa (Qp Z Z) Z (Qn ⟨Z,Z,Z,Z,Z,Z,Z,Z,Z,Z,Z,Z,Z,Z,Z,Z,Z,Z,Z,Z,Z,Z,Z,Z,Z,Z,Z,Z,Z,Z,Z,Z,Z,Z,Z,Z,Z,congrArg (fun b=>some (Value.bool b)) (show false = ((!((Qo ((Qj g r.op).1) r.key r.val).2.2)) && ((((Qj g r.op).1).kind) != 8)) by first | (rw [hg3] <;> rfl) | (simp [hg3];done) | (simp only [Qq] <;> simp)),trivial⟩ Z))))
  rintro _ rfl
  refine Qd (Qt Z (fun hc2=>?_) (fun hc2=>?_))
  ·refine Qh (Qi [true,true,true,true,true] Z Z (Qa (Qb Z) Z (Qa (Qb Z) Z (Qa (Qe Z) Z (Qa (Qe Z) Z (Qa (Qe Z) Z (Qd (Qx (Y1 (l:=[.tmp 6,.tmp 7,.tmp 8]) (vs:=[v1,.slice (some ⟨b4,0,none⟩) 0 0,.bool true]) Z ⟨.tmp Z,.tmp Z,.tmp Z,trivial⟩ Z E ?_)))))))))
   rw [st_1 hc1 hx hc2]
   exact ⟨_,_,Z,Own.fin ho1 (by omega) (by omega) (by first | rfl | (simp only [List.nil_append];done)),Own.fin (Own.ofBlk (lo:=b4) (hi:=b4 + 1) (sz:=5) h4 (Nat.le_refl _) (Nat.lt_succ_self _) (by rfl) (by unfold maxLen;omega)) (by omega) (by omega) (by first | rfl | (simp only [List.nil_append];done)),⟨⟨(Own.sep ho1 (Own.ofBlk (lo:=b4) (hi:=b4 + 1) (sz:=5) h4 (Nat.le_refl _) (Nat.lt_succ_self _) (by rfl) (by unfold maxLen;omega)) (by omega)),trivial⟩,⟨trivial,trivial⟩⟩⟩
  ·refine Qy (Qh (Qh (Qi [true,true,false] Z Z (Qa (Qf Uw Z) Z (Qa (Qk Xi Z (h5.one 0 Z)) Z (Qw Tryz.call115 Z (s_Remembers (((Qj g r.op).1).kind) _ ) Z (fun _ w14 e10 hv=>?_)))))))
   subst hv
   replace E:=E.trans e10;replace h1:=h1.ext e10;replace h2:=h2.ext e10;replace ho1:=ho1.ext e10;replace h4:=h4.ext e10;replace hw1:=hw1.ext e10;replace h5:=h5.ext e10
   have z13:=e10.size
   refine Qd (Qt Z (fun hc3=>?_) (fun hc3=>?_))
   ·refine Qh (Qi [true,true,true,true,true,true,true,true,true,true,true,true,true,false,true,true,true,true,true] Z Z (Qa (Qf Uw Z) Z (Qa (Qk Xi Z (h5.one 0 Z)) Z (Qa (Qb Z) Z (Qa (Qf Ve Z) Z (Qa (Qk Xi Z (h2.one 0 Z)) Z (Qa (Qf X4 Z) Z (Qa (Q7 Uh Z) Z (Qa (Qk Xi Z (h2.one 1 Z)) Z (Qa (Qf Th Z) Z (Qa (Qk Xi Z (h2.one 3 Z)) Z (Qa (Qf Tg Z) Z (Qa (Qk Xi Z (h2.one 4 Z)) Z (Qa (Kv (⟨r.op,r.stamp.epoch,r.key,r.val⟩ : Cell) Z (fun _=>by kernel_rfl)) Z (Qw Tryz.call116 Z (s_Recall (((Qj g r.op).1).kind) vcs cs (⟨r.op,r.stamp.epoch,r.key,r.val⟩ : Cell) _ (hcs.ext E) (by first | omega | (simp only [Q1];omega) | (rw [Q1];done) | (simp only [Q1];done))) Z (fun _ w15 e11 ho4=>?_))))))))))))))))
    obtain ⟨v2,rfl,ho5⟩:=ho4
    have g_ho4 : w.heap.size ≤ w14.heap.size:=E.size
    replace E:=E.trans e11;replace h1:=h1.ext e11;replace h2:=h2.ext e11;replace ho1:=ho1.ext e11;replace h4:=h4.ext e11;replace hw1:=hw1.ext e11;replace h5:=h5.ext e11
    have z14:=e11.size
    refine Qa (Qb Z) Z (Qa (Ym Z Z) Z (Qa (Ym Z Z) Z (Qa (Qe Z) Z (Qa (Qe Z) Z (Qd (Qh (Qi [true,true] Z Z (Qa (Qb Z) Z (Qa (Qe Z) Z (Qd (Qh (Qi [true,true] Z Z (Qa (Qb Z) Z (Qa (Xn Z) Z (Qd (Qt Z (fun hc4=>?_) (fun hc4=>?_)))))))))))))))))
    ·refine Qh (Qi [true,true,true,true,true] Z Z (Qa (Qb Z) Z (Qa (Qb Z) Z (Qa (Qe Z) Z (Qa (Qe Z) Z (Qa (Qe Z) Z (Qd (Qx (Y1 (l:=[.tmp 6,.tmp 7,.tmp 8]) (vs:=[v2,.slice (some ⟨b4,0,none⟩) 0 0,.bool true]) Z ⟨.tmp Z,.tmp Z,.tmp Z,trivial⟩ Z E ?_)))))))))
     rw [st_2 hc1 hx hc2 hc4]
     exact ⟨_,_,Z,Own.fin ho5 (by omega) (by omega) (by first | rfl | (simp only [List.nil_append];done)),Own.fin (Own.ofBlk (lo:=b4) (hi:=b4 + 1) (sz:=5) h4 (Nat.le_refl _) (Nat.lt_succ_self _) (by rfl) (by unfold maxLen;omega)) (by omega) (by omega) (by first | rfl | (simp only [List.nil_append];done)),⟨⟨(Own.sep ho5 (Own.ofBlk (lo:=b4) (hi:=b4 + 1) (sz:=5) h4 (Nat.le_refl _) (Nat.lt_succ_self _) (by rfl) (by unfold maxLen;omega)) (by omega)),trivial⟩,⟨trivial,trivial⟩⟩⟩
    ·refine Qy (Qh (Qi [true,true,false,false] Z Z (Qa (Qf X4 Z) Z (Qa (Ql Xs Z (h2.part 1 [.int .i64 r.stamp.epoch,.int .i64 r.stamp.turn] Z) Z) Z (Yd Xs Z (fun b6 w16 e12 s6 h6=>?_))))))
     have g_b6 : w.heap.size ≤ b6:=by have:=E.size;omega
     have y_b6:=h6.lt
     replace E:=E.trans e12;replace h1:=h1.ext e12;replace h2:=h2.ext e12;replace ho1:=ho1.ext e12;replace h4:=h4.ext e12;replace hw1:=hw1.ext e12;replace h5:=h5.ext e12;replace ho5:=ho5.ext e12
     have z15:=e12.size
     refine Qs (cs':=[.int .i64 r.stamp.epoch,.int .i64 r.stamp.turn]) Xs Z Z Z Z h6 (Nat.le_of_ble_eq_true Z) Z (fun w17 m3 h6'=>?_)
     replace h6:=h6'
     replace E:=E.step m3 (fun g hg=>by cases hg;omega);replace h1:=h1.mod m3 (fun g hg=>by cases hg;omega);replace h2:=h2.mod m3 (fun g hg=>by cases hg;omega);replace ho1:=ho1.mod m3 (fun g hg=>by cases hg;omega);replace h4:=h4.mod m3 (fun g hg=>by cases hg;omega);replace hw1:=hw1.mod m3 (fun g hg=>by cases hg;omega);replace h5:=h5.mod m3 (fun g hg=>by cases hg;omega);replace ho5:=ho5.mod m3 (fun g hg=>by cases hg;omega)
     have z16:=m3.size
     refine Qd (Qh (Qh (Qi [true,true,true] Z Z (Qa (Qf Uw Z) Z (Qa (Qk Xi Z (h5.one 0 Z)) Z (Qa (Y9 Z Z) Z (Qd (Qt Z (fun hc5=>?_) (fun hc5=>?_)))))))))
     ·have hstm:=stamp_7 hx hc5
      refine Qh (Qi [true,false,true,true,true,false,false,true] Z Z (Qa (Ql Xs Z h6.at Z) Z (Qw Tryz.call117 Z (s_NextTurn r.stamp _ ) Z (fun _ w18 e13 hv=>?_))))
      subst hv
      replace E:=E.trans e13;replace h1:=h1.ext e13;replace h2:=h2.ext e13;replace ho1:=ho1.ext e13;replace h4:=h4.ext e13;replace hw1:=hw1.ext e13;replace h5:=h5.ext e13;replace ho5:=ho5.ext e13;replace h6:=h6.ext e13
      have z17:=e13.size
      refine Qa (Qb Z) Z (Qa (Ym Z Z) Z (Qa (Ym Z Z) Z (Yd Xs Z (fun b7 w19 e14 s7 h7=>?_))))
      have g_b7 : w.heap.size ≤ b7:=by have:=E.size;omega
      have y_b7:=h7.lt
      replace E:=E.trans e14;replace h1:=h1.ext e14;replace h2:=h2.ext e14;replace ho1:=ho1.ext e14;replace h4:=h4.ext e14;replace hw1:=hw1.ext e14;replace h5:=h5.ext e14;replace ho5:=ho5.ext e14;replace h6:=h6.ext e14
      have z18:=e14.size
      refine Qs (cs':=[.int .i64 (((Y8 r.stamp).1).epoch),.int .i64 (((Y8 r.stamp).1).turn)]) Xs Z Z Z Z h7 (Nat.le_of_ble_eq_true Z) Z (fun w20 m4 h7'=>?_)
      replace h7:=h7'
      replace E:=E.step m4 (fun g hg=>by cases hg;omega);replace h1:=h1.mod m4 (fun g hg=>by cases hg;omega);replace h2:=h2.mod m4 (fun g hg=>by cases hg;omega);replace ho1:=ho1.mod m4 (fun g hg=>by cases hg;omega);replace h4:=h4.mod m4 (fun g hg=>by cases hg;omega);replace hw1:=hw1.mod m4 (fun g hg=>by cases hg;omega);replace h5:=h5.mod m4 (fun g hg=>by cases hg;omega);replace ho5:=ho5.mod m4 (fun g hg=>by cases hg;omega);replace h6:=h6.mod m4 (fun g hg=>by cases hg;omega)
      have z19:=m4.size
      refine Qa (Qe Z) Z (Qd (Qh (Qh (Qi [true,true] Z Z (Qa (Qb Z) Z (Qa (Xn Z) Z (Qd (Qt Z (fun hc6=>?_) (fun hc6=>?_)))))))))
      ·refine Qh (Qi [true,true,true,true,true] Z Z (Qa (Qb Z) Z (Qa (Qb Z) Z (Qa (Qe Z) Z (Qa (Qe Z) Z (Qa (Qe Z) Z (Qd (Qx (Y1 (l:=[.tmp 6,.tmp 7,.tmp 8]) (vs:=[v2,.slice (some ⟨b4,0,none⟩) 0 0,.bool true]) Z ⟨.tmp Z,.tmp Z,.tmp Z,trivial⟩ Z E ?_)))))))))
       rw [st_3 hc1 hx hc2 hc4,out_no (by rw [hstm];exact not_t hc6)]
       exact ⟨_,_,Z,Own.fin ho5 (by omega) (by omega) (by first | rfl | (simp only [List.nil_append];done)),Own.fin (Own.ofBlk (lo:=b4) (hi:=b4 + 1) (sz:=5) h4 (Nat.le_refl _) (Nat.lt_succ_self _) (by rfl) (by unfold maxLen;omega)) (by omega) (by omega) (by first | rfl | (simp only [List.nil_append];done)),⟨⟨(Own.sep ho5 (Own.ofBlk (lo:=b4) (hi:=b4 + 1) (sz:=5) h4 (Nat.le_refl _) (Nat.lt_succ_self _) (by rfl) (by unfold maxLen;omega)) (by omega)),trivial⟩,⟨trivial,trivial⟩⟩⟩
      ·refine Qy (Qi [true,false] Z Z (Qa (Ql Xs Z h7.at Z) Z (Qs (cs':=[.int .i64 (((Y8 r.stamp).1).epoch),.int .i64 (((Y8 r.stamp).1).turn)]) Xs Z Z Z Z h6 (Nat.le_of_ble_eq_true Z) Z (fun w21 m5 h6'=>?_))))
       replace h6:=h6'
       replace E:=E.step m5 (fun g hg=>by cases hg;omega);replace h1:=h1.mod m5 (fun g hg=>by cases hg;omega);replace h2:=h2.mod m5 (fun g hg=>by cases hg;omega);replace ho1:=ho1.mod m5 (fun g hg=>by cases hg;omega);replace h4:=h4.mod m5 (fun g hg=>by cases hg;omega);replace hw1:=hw1.mod m5 (fun g hg=>by cases hg;omega);replace h5:=h5.mod m5 (fun g hg=>by cases hg;omega);replace ho5:=ho5.mod m5 (fun g hg=>by cases hg;omega);replace h7:=h7.mod m5 (fun g hg=>by cases hg;omega)
       have z20:=m5.size
       refine Qd (Qh (Qh (Qi [true] Z Z (Qa (Qe Z) Z (Qd (Q2 (Y6 (fun (xq : Nat × Value)=>let ⟨k,vo⟩:=xq;[(6,.slice none 0 0),(7,.slice none 0 0),(8,.bool false),(9,v2),(10,vo),(11,.pointer (some ⟨b5,0,none⟩)),(13,.int .i64 ((Qo ((Qj g r.op).1) r.key r.val).1)),(14,.int .i64 ((Qo ((Qj g r.op).1) r.key r.val).2.1)),(18,.pointer (some ⟨b6,0,none⟩)),(21,.int .i64 ((k : Nat) : Int))]) (fun (xq : Nat × Value) w'=>let ⟨k,vo⟩:=xq;Ext w w' ∧ w21.heap.size ≤ w'.heap.size ∧ Blk w' b1 ([o1,.int .i64 g.workers,.int .i64 g.cap]) ∧ Blk w' b2 (Enc.enc r) ∧ Own w' b3 w4.heap.size 4 v1 ([] ++ List.flatMap (Enc.enc (α:=Cell)) cs) ∧ Own w' w5.heap.size w6.heap.size 1 o2 (List.flatMap (Enc.enc (α:=Int)) (((Qj g r.op).1).outs)) ∧ Blk w' b5 [.int .i64 (((Qj g r.op).1).kind),.int .i64 (((Qj g r.op).1).a),.int .i64 (((Qj g r.op).1).b),o2] ∧ Own w' w14.heap.size w15.heap.size 4 v2 (List.flatMap (Enc.enc (α:=Cell)) ((X8 (((Qj g r.op).1).kind) cs (⟨r.op,r.stamp.epoch,r.key,r.val⟩ : Cell)).1)) ∧ Blk w' b6 [.int .i64 (((Y8 r.stamp).1).epoch),.int .i64 (((Y8 r.stamp).1).turn)] ∧ Blk w' b7 [.int .i64 (((Y8 r.stamp).1).epoch),.int .i64 (((Y8 r.stamp).1).turn)] ∧ k ≤ ((Qj g r.op).1).outs.length ∧ Own w' b4 w'.heap.size 5 vo (List.flatMap (Enc.enc (α:=Record)) (Ge g r k)) ∧ (∀ g,Value.ownBlock vo = some g → g = b4 ∨ w21.heap.size ≤ g)) (fun (xq : Nat × Value)=>let ⟨k,vo⟩:=xq;((Qj g r.op).1).outs.length - k) (0,.slice (some ⟨b4,0,none⟩) 0 0) ⟨Z,Z,Z,Z,Z,Z,Z,Z,Z,Z,trivial⟩ ⟨E,Nat.le_refl _,h1,h2,ho1,hw1,h5,ho5,h6,h7,Nat.zero_le _,Own.fin (Own.ofBlk (lo:=b4) (hi:=b4 + 1) (sz:=5) h4 (Nat.le_refl _) (Nat.lt_succ_self _) (by simp) (by simp [maxLen])) (by omega) (by omega) out_zero.symm,(fun g hg=>.inl (by cases hg;rfl))⟩ ?_)))))))
       clear E h1 h2 ho1 h4 hw1 h5 ho5 h6 h7
       rintro ⟨k,vo⟩ w22 ⟨E,z21,h1,h2,ho1,hw1,h5,ho5,h6,h7,hk,hvo,hvn⟩
       refine Yb [(6,.slice none 0 0),(7,.slice none 0 0),(8,.bool false),(9,v2),(10,vo),(11,.pointer (some ⟨b5,0,none⟩)),(13,.int .i64 ((Qo ((Qj g r.op).1) r.key r.val).1)),(14,.int .i64 ((Qo ((Qj g r.op).1) r.key r.val).2.1)),(18,.pointer (some ⟨b6,0,none⟩)),(21,.int .i64 ((k : Nat) : Int))] ⟨Z,Z,Z,Z,Z,Z,Z,Z,Z,Z,trivial⟩ ?_
       refine Qh (Qh (Qi [true,true,true,true,true] Z Z (Qa (Qb Z) Z (Qa (Qf Ky Z) Z (Qa (Qk Uc Z (h5.one 3 Z)) Z (Qa (Ye Tryz.underlying29 Z (Own.len (by decide) hw1)) Z (Qa (Xe Z Z) Z (Qd (Qt Z (fun hc7=>?_) (fun hc7=>?_))))))))))
       ·have hc7n : k < (((Qj g r.op).1).outs).length:=by first | (have h:=of_decide_eq_true hc7;omega) | (have h:=hc7;simp at h;omega)
        refine Qy (Qh (Q2 (Ay Xd [11] [(0,true),(1,true),(2,true),(3,true),(4,true),(5,true),(6,true),(7,true),(8,true),(9,true),(10,false)] [(11,false),(12,true)] (by decide +kernel) Z Z (fun w23 e15=>?_))))
        replace E:=E.trans e15;replace h1:=h1.ext e15;replace h2:=h2.ext e15;replace ho1:=ho1.ext e15;replace hw1:=hw1.ext e15;replace h5:=h5.ext e15;replace ho5:=ho5.ext e15;replace h6:=h6.ext e15;replace h7:=h7.ext e15;replace hvo:=hvo.ext e15
        have z22:=e15.size
        refine Qa (Qb Z) Z (Qa (Qf Ky Z) Z (Qa (Qk Uc Z (h5.one 3 Z)) Z (Qa (Qb Z) Z ?_)))
        have hi1 : k < (((Qj g r.op).1).outs).length:=(by first | assumption | omega | (simp only [List.length_set];first | assumption | omega) | (simp only [List.getElem_set_self,List.length_set];first | assumption | omega) | (simp only [Y3,Yj,List.length_set];first | assumption | omega) | (simp;done))
        refine Qa (Q5 (i:=k) Kd Z Z (Own.rd (by decide) hw1) hi1) Z (Qa (Qk Xi Z (((Own.rd (by decide) hw1).get hi1).one 0 Z)) Z (Qa (Ql Xs Z h6.at Z) Z (Qa (Qb Z) Z (Qa (Qb Z) Z (Qa (Kv (⟨((((Qj g r.op).1).outs)[k]'hi1),((Y8 r.stamp).1),(Qo ((Qj g r.op).1) r.key r.val).1,(Qo ((Qj g r.op).1) r.key r.val).2.1⟩ : Record) Z (fun _=>by kernel_rfl)) Z (Qz (vs:=[.agg (Enc.enc (⟨((((Qj g r.op).1).outs)[k]'hi1),((Y8 r.stamp).1),(Qo ((Qj g r.op).1) r.key r.val).1,(Qo ((Qj g r.op).1) r.key r.val).2.1⟩ : Record)).toArray]) (css:=[[.int .i64 ((⟨((((Qj g r.op).1).outs)[k]'hi1),((Y8 r.stamp).1),(Qo ((Qj g r.op).1) r.key r.val).1,(Qo ((Qj g r.op).1) r.key r.val).2.1⟩ : Record).op),.int .i64 (((⟨((((Qj g r.op).1).outs)[k]'hi1),((Y8 r.stamp).1),(Qo ((Qj g r.op).1) r.key r.val).1,(Qo ((Qj g r.op).1) r.key r.val).2.1⟩ : Record).stamp).epoch),.int .i64 (((⟨((((Qj g r.op).1).outs)[k]'hi1),((Y8 r.stamp).1),(Qo ((Qj g r.op).1) r.key r.val).1,(Qo ((Qj g r.op).1) r.key r.val).2.1⟩ : Record).stamp).turn),.int .i64 ((⟨((((Qj g r.op).1).outs)[k]'hi1),((Y8 r.stamp).1),(Qo ((Qj g r.op).1) r.key r.val).1,(Qo ((Qj g r.op).1) r.key r.val).2.1⟩ : Record).key),.int .i64 ((⟨((((Qj g r.op).1).outs)[k]'hi1),((Y8 r.stamp).1),(Qo ((Qj g r.op).1) r.key r.val).1,(Qo ((Qj g r.op).1) r.key r.val).2.1⟩ : Record).val)]]) Xp Z Z ⟨⟨Z,Z⟩,trivial⟩ Z Z (fun b8 w24 e16 s8 h8=>?_)))))))
        replace h8 : Blk w24 b8 [.int .i64 ((⟨((((Qj g r.op).1).outs)[k]'hi1),((Y8 r.stamp).1),(Qo ((Qj g r.op).1) r.key r.val).1,(Qo ((Qj g r.op).1) r.key r.val).2.1⟩ : Record).op),.int .i64 (((⟨((((Qj g r.op).1).outs)[k]'hi1),((Y8 r.stamp).1),(Qo ((Qj g r.op).1) r.key r.val).1,(Qo ((Qj g r.op).1) r.key r.val).2.1⟩ : Record).stamp).epoch),.int .i64 (((⟨((((Qj g r.op).1).outs)[k]'hi1),((Y8 r.stamp).1),(Qo ((Qj g r.op).1) r.key r.val).1,(Qo ((Qj g r.op).1) r.key r.val).2.1⟩ : Record).stamp).turn),.int .i64 ((⟨((((Qj g r.op).1).outs)[k]'hi1),((Y8 r.stamp).1),(Qo ((Qj g r.op).1) r.key r.val).1,(Qo ((Qj g r.op).1) r.key r.val).2.1⟩ : Record).key),.int .i64 ((⟨((((Qj g r.op).1).outs)[k]'hi1),((Y8 r.stamp).1),(Qo ((Qj g r.op).1) r.key r.val).1,(Qo ((Qj g r.op).1) r.key r.val).2.1⟩ : Record).val)]:=h8
        have g_b8 : w.heap.size ≤ b8:=by have:=E.size;omega
        have y_b8:=h8.lt
        replace E:=E.trans e16;replace h1:=h1.ext e16;replace h2:=h2.ext e16;replace ho1:=ho1.ext e16;replace hw1:=hw1.ext e16;replace h5:=h5.ext e16;replace ho5:=ho5.ext e16;replace h6:=h6.ext e16;replace h7:=h7.ext e16;replace hvo:=hvo.ext e16
        have z23:=e16.size
        refine T2 ?_
        refine J2_X Z ?_
        refine Ka Xp Z Z hvo (Src.ofBlk h8 Z) Z (by first | (simp only [Ya,List.length_nil,List.length_cons];simp only [Enc.sz];omega) | (have h:=Hy g r k;rw [Ya];simp only [show Enc.sz Record = 5 from Z,List.length_cons,List.length_nil];omega)) (by decide) (by omega) (by omega) Z Z (fun v3 w25 m6 ho6 hb1=>?_)
        have hn1 : ∀ g,Value.ownBlock v3 = some g → g = b4 ∨ w21.heap.size ≤ g:=fun g hg=>(hb1 g hg).elim (fun h=>hvn g h) (fun h=>by omega)
        replace E:=E.step m6 (fun g hg=>by have:=Own.blk hvo g hg;have:=hvn g hg;omega);replace h1:=h1.mod m6 (fun g hg=>by have:=Own.blk hvo g hg;have:=hvn g hg;omega);replace h2:=h2.mod m6 (fun g hg=>by have:=Own.blk hvo g hg;have:=hvn g hg;omega);replace ho1:=ho1.mod m6 (fun g hg=>by have:=Own.blk hvo g hg;have:=hvn g hg;omega);replace hw1:=hw1.mod m6 (fun g hg=>by have:=Own.blk hvo g hg;have:=hvn g hg;omega);replace h5:=h5.mod m6 (fun g hg=>by have:=Own.blk hvo g hg;have:=hvn g hg;omega);replace ho5:=ho5.mod m6 (fun g hg=>by have:=Own.blk hvo g hg;have:=hvn g hg;omega);replace h6:=h6.mod m6 (fun g hg=>by have:=Own.blk hvo g hg;have:=hvn g hg;omega);replace h7:=h7.mod m6 (fun g hg=>by have:=Own.blk hvo g hg;have:=hvn g hg;omega)
        have z24:=m6.size
        refine Bp ?_
        refine Qa (Qe Z) Z (Qd (Q4 (Yn (Qi [true,true,true] Z Z (Qa (Qb Z) Z (Qa (Yu Z Z (Yw hc7n (Own.rd (by decide) hw1).1)) Z (Qa (Qe Z) Z (Qd (Q4 (Yg (k + 1,v3) (by dsimp only;omega) ⟨Z,Z,Z,Z,Z,Z,Z,Z,Z,Z,trivial⟩ ⟨E,(by omega),h1,h2,ho1,hw1,h5,ho5,h6,h7,(by omega),Own.fin ho6 (Nat.le_refl _) (by omega) (Tq (by rw [hstm]) (by rw [hstm];exact not_f hc6) hx (by omega)),hn1⟩))))))))))
       ·have hc7n : ¬ k < (((Qj g r.op).1).outs).length:=by first | (have h:=of_decide_eq_false hc7;omega) | (have h:=hc7;simp at h;omega)
        refine Y5 (Yc (Q8 ?_))
        refine Qh (Qi [true,true,true,true,true] Z Z (Qa (Qb Z) Z (Qa (Qb Z) Z (Qa (Qe Z) Z (Qa (Qe Z) Z (Qa (Qe Z) Z (Qd (Qx (Y1 (l:=[.tmp 6,.tmp 7,.tmp 8]) (vs:=[v2,vo,.bool true]) Z ⟨.tmp Z,.tmp Z,.tmp Z,trivial⟩ Z E ?_)))))))))
        rw [st_3 hc1 hx hc2 hc4]
        exact ⟨_,_,Z,Own.fin ho5 (by omega) (by omega) (by first | rfl | (simp only [List.nil_append];done)),Own.fin hvo (by omega) (by omega) (by rw [show ((Qj g r.op).1).outs.length = k from by omega]),⟨⟨(fun g hg he=>by have:=Own.blk ho5 g hg;have:=Own.blk hvo g he;have:=hvn g he;omega),trivial⟩,⟨trivial,trivial⟩⟩⟩
     ·have hstm:=stamp_o hx hc5
      refine Qy (Qh (Qh (Qi [true] Z Z (Qa (Qe Z) Z (Qd (Q2 (Y6 (fun (xq : Nat × Value)=>let ⟨k,vo⟩:=xq;[(6,.slice none 0 0),(7,.slice none 0 0),(8,.bool false),(9,v2),(10,vo),(11,.pointer (some ⟨b5,0,none⟩)),(13,.int .i64 ((Qo ((Qj g r.op).1) r.key r.val).1)),(14,.int .i64 ((Qo ((Qj g r.op).1) r.key r.val).2.1)),(18,.pointer (some ⟨b6,0,none⟩)),(21,.int .i64 ((k : Nat) : Int))]) (fun (xq : Nat × Value) w'=>let ⟨k,vo⟩:=xq;Ext w w' ∧ w17.heap.size ≤ w'.heap.size ∧ Blk w' b1 ([o1,.int .i64 g.workers,.int .i64 g.cap]) ∧ Blk w' b2 (Enc.enc r) ∧ Own w' b3 w4.heap.size 4 v1 ([] ++ List.flatMap (Enc.enc (α:=Cell)) cs) ∧ Own w' w5.heap.size w6.heap.size 1 o2 (List.flatMap (Enc.enc (α:=Int)) (((Qj g r.op).1).outs)) ∧ Blk w' b5 [.int .i64 (((Qj g r.op).1).kind),.int .i64 (((Qj g r.op).1).a),.int .i64 (((Qj g r.op).1).b),o2] ∧ Own w' w14.heap.size w15.heap.size 4 v2 (List.flatMap (Enc.enc (α:=Cell)) ((X8 (((Qj g r.op).1).kind) cs (⟨r.op,r.stamp.epoch,r.key,r.val⟩ : Cell)).1)) ∧ Blk w' b6 [.int .i64 r.stamp.epoch,.int .i64 r.stamp.turn] ∧ k ≤ ((Qj g r.op).1).outs.length ∧ Own w' b4 w'.heap.size 5 vo (List.flatMap (Enc.enc (α:=Record)) (Ge g r k)) ∧ (∀ g,Value.ownBlock vo = some g → g = b4 ∨ w17.heap.size ≤ g)) (fun (xq : Nat × Value)=>let ⟨k,vo⟩:=xq;((Qj g r.op).1).outs.length - k) (0,.slice (some ⟨b4,0,none⟩) 0 0) ⟨Z,Z,Z,Z,Z,Z,Z,Z,Z,Z,trivial⟩ ⟨E,Nat.le_refl _,h1,h2,ho1,hw1,h5,ho5,h6,Nat.zero_le _,Own.fin (Own.ofBlk (lo:=b4) (hi:=b4 + 1) (sz:=5) h4 (Nat.le_refl _) (Nat.lt_succ_self _) (by simp) (by simp [maxLen])) (by omega) (by omega) out_zero.symm,(fun g hg=>.inl (by cases hg;rfl))⟩ ?_)))))))
      clear E h1 h2 ho1 h4 hw1 h5 ho5 h6
      rintro ⟨k,vo⟩ w26 ⟨E,z25,h1,h2,ho1,hw1,h5,ho5,h6,hk,hvo,hvn⟩
      refine Yb [(6,.slice none 0 0),(7,.slice none 0 0),(8,.bool false),(9,v2),(10,vo),(11,.pointer (some ⟨b5,0,none⟩)),(13,.int .i64 ((Qo ((Qj g r.op).1) r.key r.val).1)),(14,.int .i64 ((Qo ((Qj g r.op).1) r.key r.val).2.1)),(18,.pointer (some ⟨b6,0,none⟩)),(21,.int .i64 ((k : Nat) : Int))] ⟨Z,Z,Z,Z,Z,Z,Z,Z,Z,Z,trivial⟩ ?_
      refine Qh (Qh (Qi [true,true,true,true,true] Z Z (Qa (Qb Z) Z (Qa (Qf Ky Z) Z (Qa (Qk Uc Z (h5.one 3 Z)) Z (Qa (Ye Tryz.underlying29 Z (Own.len (by decide) hw1)) Z (Qa (Xe Z Z) Z (Qd (Qt Z (fun hc8=>?_) (fun hc8=>?_))))))))))
      ·have hc8n : k < (((Qj g r.op).1).outs).length:=by first | (have h:=of_decide_eq_true hc8;omega) | (have h:=hc8;simp at h;omega)
       refine Qy (Qh (Q2 (Ay Xd [11] [(0,true),(1,true),(2,true),(3,true),(4,true),(5,true),(6,true),(7,true),(8,true),(9,true),(10,false)] [(11,false),(12,true)] (by decide +kernel) Z Z (fun w27 e17=>?_))))
       replace E:=E.trans e17;replace h1:=h1.ext e17;replace h2:=h2.ext e17;replace ho1:=ho1.ext e17;replace hw1:=hw1.ext e17;replace h5:=h5.ext e17;replace ho5:=ho5.ext e17;replace h6:=h6.ext e17;replace hvo:=hvo.ext e17
       have z26:=e17.size
       refine Qa (Qb Z) Z (Qa (Qf Ky Z) Z (Qa (Qk Uc Z (h5.one 3 Z)) Z (Qa (Qb Z) Z ?_)))
       have hi2 : k < (((Qj g r.op).1).outs).length:=(by first | assumption | omega | (simp only [List.length_set];first | assumption | omega) | (simp only [List.getElem_set_self,List.length_set];first | assumption | omega) | (simp only [Y3,Yj,List.length_set];first | assumption | omega) | (simp;done))
       refine Qa (Q5 (i:=k) Kd Z Z (Own.rd (by decide) hw1) hi2) Z (Qa (Qk Xi Z (((Own.rd (by decide) hw1).get hi2).one 0 Z)) Z (Qa (Ql Xs Z h6.at Z) Z (Qa (Qb Z) Z (Qa (Qb Z) Z (Qa (Kv (⟨((((Qj g r.op).1).outs)[k]'hi2),r.stamp,(Qo ((Qj g r.op).1) r.key r.val).1,(Qo ((Qj g r.op).1) r.key r.val).2.1⟩ : Record) Z (fun _=>by kernel_rfl)) Z (Qz (vs:=[.agg (Enc.enc (⟨((((Qj g r.op).1).outs)[k]'hi2),r.stamp,(Qo ((Qj g r.op).1) r.key r.val).1,(Qo ((Qj g r.op).1) r.key r.val).2.1⟩ : Record)).toArray]) (css:=[[.int .i64 ((⟨((((Qj g r.op).1).outs)[k]'hi2),r.stamp,(Qo ((Qj g r.op).1) r.key r.val).1,(Qo ((Qj g r.op).1) r.key r.val).2.1⟩ : Record).op),.int .i64 (((⟨((((Qj g r.op).1).outs)[k]'hi2),r.stamp,(Qo ((Qj g r.op).1) r.key r.val).1,(Qo ((Qj g r.op).1) r.key r.val).2.1⟩ : Record).stamp).epoch),.int .i64 (((⟨((((Qj g r.op).1).outs)[k]'hi2),r.stamp,(Qo ((Qj g r.op).1) r.key r.val).1,(Qo ((Qj g r.op).1) r.key r.val).2.1⟩ : Record).stamp).turn),.int .i64 ((⟨((((Qj g r.op).1).outs)[k]'hi2),r.stamp,(Qo ((Qj g r.op).1) r.key r.val).1,(Qo ((Qj g r.op).1) r.key r.val).2.1⟩ : Record).key),.int .i64 ((⟨((((Qj g r.op).1).outs)[k]'hi2),r.stamp,(Qo ((Qj g r.op).1) r.key r.val).1,(Qo ((Qj g r.op).1) r.key r.val).2.1⟩ : Record).val)]]) Xp Z Z ⟨⟨Z,Z⟩,trivial⟩ Z Z (fun b9 w28 e18 s9 h9=>?_)))))))
       replace h9 : Blk w28 b9 [.int .i64 ((⟨((((Qj g r.op).1).outs)[k]'hi2),r.stamp,(Qo ((Qj g r.op).1) r.key r.val).1,(Qo ((Qj g r.op).1) r.key r.val).2.1⟩ : Record).op),.int .i64 (((⟨((((Qj g r.op).1).outs)[k]'hi2),r.stamp,(Qo ((Qj g r.op).1) r.key r.val).1,(Qo ((Qj g r.op).1) r.key r.val).2.1⟩ : Record).stamp).epoch),.int .i64 (((⟨((((Qj g r.op).1).outs)[k]'hi2),r.stamp,(Qo ((Qj g r.op).1) r.key r.val).1,(Qo ((Qj g r.op).1) r.key r.val).2.1⟩ : Record).stamp).turn),.int .i64 ((⟨((((Qj g r.op).1).outs)[k]'hi2),r.stamp,(Qo ((Qj g r.op).1) r.key r.val).1,(Qo ((Qj g r.op).1) r.key r.val).2.1⟩ : Record).key),.int .i64 ((⟨((((Qj g r.op).1).outs)[k]'hi2),r.stamp,(Qo ((Qj g r.op).1) r.key r.val).1,(Qo ((Qj g r.op).1) r.key r.val).2.1⟩ : Record).val)]:=h9
       have g_b9 : w.heap.size ≤ b9:=by have:=E.size;omega
       have y_b9:=h9.lt
       replace E:=E.trans e18;replace h1:=h1.ext e18;replace h2:=h2.ext e18;replace ho1:=ho1.ext e18;replace hw1:=hw1.ext e18;replace h5:=h5.ext e18;replace ho5:=ho5.ext e18;replace h6:=h6.ext e18;replace hvo:=hvo.ext e18
       have z27:=e18.size
       refine T2 ?_
       refine J2_X Z ?_
       refine Ka Xp Z Z hvo (Src.ofBlk h9 Z) Z (by first | (simp only [Ya,List.length_nil,List.length_cons];simp only [Enc.sz];omega) | (have h:=Hy g r k;rw [Ya];simp only [show Enc.sz Record = 5 from Z,List.length_cons,List.length_nil];omega)) (by decide) (by omega) (by omega) Z Z (fun v4 w29 m7 ho7 hb2=>?_)
       have hn2 : ∀ g,Value.ownBlock v4 = some g → g = b4 ∨ w17.heap.size ≤ g:=fun g hg=>(hb2 g hg).elim (fun h=>hvn g h) (fun h=>by omega)
       replace E:=E.step m7 (fun g hg=>by have:=Own.blk hvo g hg;have:=hvn g hg;omega);replace h1:=h1.mod m7 (fun g hg=>by have:=Own.blk hvo g hg;have:=hvn g hg;omega);replace h2:=h2.mod m7 (fun g hg=>by have:=Own.blk hvo g hg;have:=hvn g hg;omega);replace ho1:=ho1.mod m7 (fun g hg=>by have:=Own.blk hvo g hg;have:=hvn g hg;omega);replace hw1:=hw1.mod m7 (fun g hg=>by have:=Own.blk hvo g hg;have:=hvn g hg;omega);replace h5:=h5.mod m7 (fun g hg=>by have:=Own.blk hvo g hg;have:=hvn g hg;omega);replace ho5:=ho5.mod m7 (fun g hg=>by have:=Own.blk hvo g hg;have:=hvn g hg;omega);replace h6:=h6.mod m7 (fun g hg=>by have:=Own.blk hvo g hg;have:=hvn g hg;omega)
       have z28:=m7.size
       refine Bp ?_
       refine Qa (Qe Z) Z (Qd (Q4 (Yn (Qi [true,true,true] Z Z (Qa (Qb Z) Z (Qa (Yu Z Z (Yw hc8n (Own.rd (by decide) hw1).1)) Z (Qa (Qe Z) Z (Qd (Q4 (Yg (k + 1,v4) (by dsimp only;omega) ⟨Z,Z,Z,Z,Z,Z,Z,Z,Z,Z,trivial⟩ ⟨E,(by omega),h1,h2,ho1,hw1,h5,ho5,h6,(by omega),Own.fin ho7 (Nat.le_refl _) (by omega) (Tq (by rw [hstm]) (by rw [hstm]) hx (by omega)),hn2⟩))))))))))
      ·have hc8n : ¬ k < (((Qj g r.op).1).outs).length:=by first | (have h:=of_decide_eq_false hc8;omega) | (have h:=hc8;simp at h;omega)
       refine Y5 (Yc (Q8 ?_))
       refine Qh (Qi [true,true,true,true,true] Z Z (Qa (Qb Z) Z (Qa (Qb Z) Z (Qa (Qe Z) Z (Qa (Qe Z) Z (Qa (Qe Z) Z (Qd (Qx (Y1 (l:=[.tmp 6,.tmp 7,.tmp 8]) (vs:=[v2,vo,.bool true]) Z ⟨.tmp Z,.tmp Z,.tmp Z,trivial⟩ Z E ?_)))))))))
       rw [st_3 hc1 hx hc2 hc4]
       exact ⟨_,_,Z,Own.fin ho5 (by omega) (by omega) (by first | rfl | (simp only [List.nil_append];done)),Own.fin hvo (by omega) (by omega) (by rw [show ((Qj g r.op).1).outs.length = k from by omega]),⟨⟨(fun g hg he=>by have:=Own.blk ho5 g hg;have:=Own.blk hvo g he;have:=hvn g he;omega),trivial⟩,⟨trivial,trivial⟩⟩⟩
   ·refine Qy (Qh (Qi [true,true,false,false] Z Z (Qa (Qf X4 Z) Z (Qa (Ql Xs Z (h2.part 1 [.int .i64 r.stamp.epoch,.int .i64 r.stamp.turn] Z) Z) Z (Yd Xs Z (fun b10 w30 e19 s10 h10=>?_))))))
    have g_b10 : w.heap.size ≤ b10:=by have:=E.size;omega
    have y_b10:=h10.lt
    replace E:=E.trans e19;replace h1:=h1.ext e19;replace h2:=h2.ext e19;replace ho1:=ho1.ext e19;replace h4:=h4.ext e19;replace hw1:=hw1.ext e19;replace h5:=h5.ext e19
    have z29:=e19.size
    refine Qs (cs':=[.int .i64 r.stamp.epoch,.int .i64 r.stamp.turn]) Xs Z Z Z Z h10 (Nat.le_of_ble_eq_true Z) Z (fun w31 m8 h10'=>?_)
    replace h10:=h10'
    replace E:=E.step m8 (fun g hg=>by cases hg;omega);replace h1:=h1.mod m8 (fun g hg=>by cases hg;omega);replace h2:=h2.mod m8 (fun g hg=>by cases hg;omega);replace ho1:=ho1.mod m8 (fun g hg=>by cases hg;omega);replace h4:=h4.mod m8 (fun g hg=>by cases hg;omega);replace hw1:=hw1.mod m8 (fun g hg=>by cases hg;omega);replace h5:=h5.mod m8 (fun g hg=>by cases hg;omega)
    have z30:=m8.size
    refine Qd (Qh (Qh (Qi [true,true,true] Z Z (Qa (Qf Uw Z) Z (Qa (Qk Xi Z (h5.one 0 Z)) Z (Qa (Y9 Z Z) Z (Qd (Qt Z (fun hc9=>?_) (fun hc9=>?_)))))))))
    ·have hstm:=stamp_7 hx hc9
     refine Qh (Qi [true,false,true,true,true,false,false,true] Z Z (Qa (Ql Xs Z h10.at Z) Z (Qw Tryz.call117 Z (s_NextTurn r.stamp _ ) Z (fun _ w32 e20 hv=>?_))))
     subst hv
     replace E:=E.trans e20;replace h1:=h1.ext e20;replace h2:=h2.ext e20;replace ho1:=ho1.ext e20;replace h4:=h4.ext e20;replace hw1:=hw1.ext e20;replace h5:=h5.ext e20;replace h10:=h10.ext e20
     have z31:=e20.size
     refine Qa (Qb Z) Z (Qa (Ym Z Z) Z (Qa (Ym Z Z) Z (Yd Xs Z (fun b11 w33 e21 s11 h11=>?_))))
     have g_b11 : w.heap.size ≤ b11:=by have:=E.size;omega
     have y_b11:=h11.lt
     replace E:=E.trans e21;replace h1:=h1.ext e21;replace h2:=h2.ext e21;replace ho1:=ho1.ext e21;replace h4:=h4.ext e21;replace hw1:=hw1.ext e21;replace h5:=h5.ext e21;replace h10:=h10.ext e21
     have z32:=e21.size
     refine Qs (cs':=[.int .i64 (((Y8 r.stamp).1).epoch),.int .i64 (((Y8 r.stamp).1).turn)]) Xs Z Z Z Z h11 (Nat.le_of_ble_eq_true Z) Z (fun w34 m9 h11'=>?_)
     replace h11:=h11'
     replace E:=E.step m9 (fun g hg=>by cases hg;omega);replace h1:=h1.mod m9 (fun g hg=>by cases hg;omega);replace h2:=h2.mod m9 (fun g hg=>by cases hg;omega);replace ho1:=ho1.mod m9 (fun g hg=>by cases hg;omega);replace h4:=h4.mod m9 (fun g hg=>by cases hg;omega);replace hw1:=hw1.mod m9 (fun g hg=>by cases hg;omega);replace h5:=h5.mod m9 (fun g hg=>by cases hg;omega);replace h10:=h10.mod m9 (fun g hg=>by cases hg;omega)
     have z33:=m9.size
     refine Qa (Qe Z) Z (Qd (Qh (Qh (Qi [true,true] Z Z (Qa (Qb Z) Z (Qa (Xn Z) Z (Qd (Qt Z (fun hc10=>?_) (fun hc10=>?_)))))))))
     ·refine Qh (Qi [true,true,true,true,true] Z Z (Qa (Qb Z) Z (Qa (Qb Z) Z (Qa (Qe Z) Z (Qa (Qe Z) Z (Qa (Qe Z) Z (Qd (Qx (Y1 (l:=[.tmp 6,.tmp 7,.tmp 8]) (vs:=[v1,.slice (some ⟨b4,0,none⟩) 0 0,.bool true]) Z ⟨.tmp Z,.tmp Z,.tmp Z,trivial⟩ Z E ?_)))))))))
      rw [st_3 hc1 hx hc2 (by rw [T7 hc3];rfl),T7 hc3,out_no (by rw [hstm];exact not_t hc10)]
      exact ⟨_,_,Z,Own.fin ho1 (by omega) (by omega) (by first | rfl | (simp only [List.nil_append];done)),Own.fin (Own.ofBlk (lo:=b4) (hi:=b4 + 1) (sz:=5) h4 (Nat.le_refl _) (Nat.lt_succ_self _) (by rfl) (by unfold maxLen;omega)) (by omega) (by omega) (by first | rfl | (simp only [List.nil_append];done)),⟨⟨(Own.sep ho1 (Own.ofBlk (lo:=b4) (hi:=b4 + 1) (sz:=5) h4 (Nat.le_refl _) (Nat.lt_succ_self _) (by rfl) (by unfold maxLen;omega)) (by omega)),trivial⟩,⟨trivial,trivial⟩⟩⟩
     ·refine Qy (Qi [true,false] Z Z (Qa (Ql Xs Z h11.at Z) Z (Qs (cs':=[.int .i64 (((Y8 r.stamp).1).epoch),.int .i64 (((Y8 r.stamp).1).turn)]) Xs Z Z Z Z h10 (Nat.le_of_ble_eq_true Z) Z (fun w35 m10 h10'=>?_))))
      replace h10:=h10'
      replace E:=E.step m10 (fun g hg=>by cases hg;omega);replace h1:=h1.mod m10 (fun g hg=>by cases hg;omega);replace h2:=h2.mod m10 (fun g hg=>by cases hg;omega);replace ho1:=ho1.mod m10 (fun g hg=>by cases hg;omega);replace h4:=h4.mod m10 (fun g hg=>by cases hg;omega);replace hw1:=hw1.mod m10 (fun g hg=>by cases hg;omega);replace h5:=h5.mod m10 (fun g hg=>by cases hg;omega);replace h11:=h11.mod m10 (fun g hg=>by cases hg;omega)
      have z34:=m10.size
      refine Qd (Qh (Qh (Qi [true] Z Z (Qa (Qe Z) Z (Qd (Q2 (Y6 (fun (xq : Nat × Value)=>let ⟨k,vo⟩:=xq;[(6,.slice none 0 0),(7,.slice none 0 0),(8,.bool false),(9,v1),(10,vo),(11,.pointer (some ⟨b5,0,none⟩)),(13,.int .i64 ((Qo ((Qj g r.op).1) r.key r.val).1)),(14,.int .i64 ((Qo ((Qj g r.op).1) r.key r.val).2.1)),(18,.pointer (some ⟨b10,0,none⟩)),(21,.int .i64 ((k : Nat) : Int))]) (fun (xq : Nat × Value) w'=>let ⟨k,vo⟩:=xq;Ext w w' ∧ w35.heap.size ≤ w'.heap.size ∧ Blk w' b1 ([o1,.int .i64 g.workers,.int .i64 g.cap]) ∧ Blk w' b2 (Enc.enc r) ∧ Own w' b3 w4.heap.size 4 v1 ([] ++ List.flatMap (Enc.enc (α:=Cell)) cs) ∧ Own w' w5.heap.size w6.heap.size 1 o2 (List.flatMap (Enc.enc (α:=Int)) (((Qj g r.op).1).outs)) ∧ Blk w' b5 [.int .i64 (((Qj g r.op).1).kind),.int .i64 (((Qj g r.op).1).a),.int .i64 (((Qj g r.op).1).b),o2] ∧ Blk w' b10 [.int .i64 (((Y8 r.stamp).1).epoch),.int .i64 (((Y8 r.stamp).1).turn)] ∧ Blk w' b11 [.int .i64 (((Y8 r.stamp).1).epoch),.int .i64 (((Y8 r.stamp).1).turn)] ∧ k ≤ ((Qj g r.op).1).outs.length ∧ Own w' b4 w'.heap.size 5 vo (List.flatMap (Enc.enc (α:=Record)) (Ge g r k)) ∧ (∀ g,Value.ownBlock vo = some g → g = b4 ∨ w35.heap.size ≤ g)) (fun (xq : Nat × Value)=>let ⟨k,vo⟩:=xq;((Qj g r.op).1).outs.length - k) (0,.slice (some ⟨b4,0,none⟩) 0 0) ⟨Z,Z,Z,Z,Z,Z,Z,Z,Z,Z,trivial⟩ ⟨E,Nat.le_refl _,h1,h2,ho1,hw1,h5,h10,h11,Nat.zero_le _,Own.fin (Own.ofBlk (lo:=b4) (hi:=b4 + 1) (sz:=5) h4 (Nat.le_refl _) (Nat.lt_succ_self _) (by simp) (by simp [maxLen])) (by omega) (by omega) out_zero.symm,(fun g hg=>.inl (by cases hg;rfl))⟩ ?_)))))))
      clear E h1 h2 ho1 h4 hw1 h5 h10 h11
      rintro ⟨k,vo⟩ w36 ⟨E,z35,h1,h2,ho1,hw1,h5,h10,h11,hk,hvo,hvn⟩
      refine Yb [(6,.slice none 0 0),(7,.slice none 0 0),(8,.bool false),(9,v1),(10,vo),(11,.pointer (some ⟨b5,0,none⟩)),(13,.int .i64 ((Qo ((Qj g r.op).1) r.key r.val).1)),(14,.int .i64 ((Qo ((Qj g r.op).1) r.key r.val).2.1)),(18,.pointer (some ⟨b10,0,none⟩)),(21,.int .i64 ((k : Nat) : Int))] ⟨Z,Z,Z,Z,Z,Z,Z,Z,Z,Z,trivial⟩ ?_
      refine Qh (Qh (Qi [true,true,true,true,true] Z Z (Qa (Qb Z) Z (Qa (Qf Ky Z) Z (Qa (Qk Uc Z (h5.one 3 Z)) Z (Qa (Ye Tryz.underlying29 Z (Own.len (by decide) hw1)) Z (Qa (Xe Z Z) Z (Qd (Qt Z (fun hc11=>?_) (fun hc11=>?_))))))))))
      ·have hc11n : k < (((Qj g r.op).1).outs).length:=by first | (have h:=of_decide_eq_true hc11;omega) | (have h:=hc11;simp at h;omega)
       refine Qy (Qh (Q2 (Ay Xd [11] [(0,true),(1,true),(2,true),(3,true),(4,true),(5,true),(6,true),(7,true),(8,true),(9,true),(10,false)] [(11,false),(12,true)] (by decide +kernel) Z Z (fun w37 e22=>?_))))
       replace E:=E.trans e22;replace h1:=h1.ext e22;replace h2:=h2.ext e22;replace ho1:=ho1.ext e22;replace hw1:=hw1.ext e22;replace h5:=h5.ext e22;replace h10:=h10.ext e22;replace h11:=h11.ext e22;replace hvo:=hvo.ext e22
       have z36:=e22.size
       refine Qa (Qb Z) Z (Qa (Qf Ky Z) Z (Qa (Qk Uc Z (h5.one 3 Z)) Z (Qa (Qb Z) Z ?_)))
       have hi3 : k < (((Qj g r.op).1).outs).length:=(by first | assumption | omega | (simp only [List.length_set];first | assumption | omega) | (simp only [List.getElem_set_self,List.length_set];first | assumption | omega) | (simp only [Y3,Yj,List.length_set];first | assumption | omega) | (simp;done))
       refine Qa (Q5 (i:=k) Kd Z Z (Own.rd (by decide) hw1) hi3) Z (Qa (Qk Xi Z (((Own.rd (by decide) hw1).get hi3).one 0 Z)) Z (Qa (Ql Xs Z h10.at Z) Z (Qa (Qb Z) Z (Qa (Qb Z) Z (Qa (Kv (⟨((((Qj g r.op).1).outs)[k]'hi3),((Y8 r.stamp).1),(Qo ((Qj g r.op).1) r.key r.val).1,(Qo ((Qj g r.op).1) r.key r.val).2.1⟩ : Record) Z (fun _=>by kernel_rfl)) Z (Qz (vs:=[.agg (Enc.enc (⟨((((Qj g r.op).1).outs)[k]'hi3),((Y8 r.stamp).1),(Qo ((Qj g r.op).1) r.key r.val).1,(Qo ((Qj g r.op).1) r.key r.val).2.1⟩ : Record)).toArray]) (css:=[[.int .i64 ((⟨((((Qj g r.op).1).outs)[k]'hi3),((Y8 r.stamp).1),(Qo ((Qj g r.op).1) r.key r.val).1,(Qo ((Qj g r.op).1) r.key r.val).2.1⟩ : Record).op),.int .i64 (((⟨((((Qj g r.op).1).outs)[k]'hi3),((Y8 r.stamp).1),(Qo ((Qj g r.op).1) r.key r.val).1,(Qo ((Qj g r.op).1) r.key r.val).2.1⟩ : Record).stamp).epoch),.int .i64 (((⟨((((Qj g r.op).1).outs)[k]'hi3),((Y8 r.stamp).1),(Qo ((Qj g r.op).1) r.key r.val).1,(Qo ((Qj g r.op).1) r.key r.val).2.1⟩ : Record).stamp).turn),.int .i64 ((⟨((((Qj g r.op).1).outs)[k]'hi3),((Y8 r.stamp).1),(Qo ((Qj g r.op).1) r.key r.val).1,(Qo ((Qj g r.op).1) r.key r.val).2.1⟩ : Record).key),.int .i64 ((⟨((((Qj g r.op).1).outs)[k]'hi3),((Y8 r.stamp).1),(Qo ((Qj g r.op).1) r.key r.val).1,(Qo ((Qj g r.op).1) r.key r.val).2.1⟩ : Record).val)]]) Xp Z Z ⟨⟨Z,Z⟩,trivial⟩ Z Z (fun b12 w38 e23 s12 h12=>?_)))))))
       replace h12 : Blk w38 b12 [.int .i64 ((⟨((((Qj g r.op).1).outs)[k]'hi3),((Y8 r.stamp).1),(Qo ((Qj g r.op).1) r.key r.val).1,(Qo ((Qj g r.op).1) r.key r.val).2.1⟩ : Record).op),.int .i64 (((⟨((((Qj g r.op).1).outs)[k]'hi3),((Y8 r.stamp).1),(Qo ((Qj g r.op).1) r.key r.val).1,(Qo ((Qj g r.op).1) r.key r.val).2.1⟩ : Record).stamp).epoch),.int .i64 (((⟨((((Qj g r.op).1).outs)[k]'hi3),((Y8 r.stamp).1),(Qo ((Qj g r.op).1) r.key r.val).1,(Qo ((Qj g r.op).1) r.key r.val).2.1⟩ : Record).stamp).turn),.int .i64 ((⟨((((Qj g r.op).1).outs)[k]'hi3),((Y8 r.stamp).1),(Qo ((Qj g r.op).1) r.key r.val).1,(Qo ((Qj g r.op).1) r.key r.val).2.1⟩ : Record).key),.int .i64 ((⟨((((Qj g r.op).1).outs)[k]'hi3),((Y8 r.stamp).1),(Qo ((Qj g r.op).1) r.key r.val).1,(Qo ((Qj g r.op).1) r.key r.val).2.1⟩ : Record).val)]:=h12
       have g_b12 : w.heap.size ≤ b12:=by have:=E.size;omega
       have y_b12:=h12.lt
       replace E:=E.trans e23;replace h1:=h1.ext e23;replace h2:=h2.ext e23;replace ho1:=ho1.ext e23;replace hw1:=hw1.ext e23;replace h5:=h5.ext e23;replace h10:=h10.ext e23;replace h11:=h11.ext e23;replace hvo:=hvo.ext e23
       have z37:=e23.size
       refine T2 ?_
       refine J2_X Z ?_
       refine Ka Xp Z Z hvo (Src.ofBlk h12 Z) Z (by first | (simp only [Ya,List.length_nil,List.length_cons];simp only [Enc.sz];omega) | (have h:=Hy g r k;rw [Ya];simp only [show Enc.sz Record = 5 from Z,List.length_cons,List.length_nil];omega)) (by decide) (by omega) (by omega) Z Z (fun v5 w39 m11 ho8 hb3=>?_)
       have hn3 : ∀ g,Value.ownBlock v5 = some g → g = b4 ∨ w35.heap.size ≤ g:=fun g hg=>(hb3 g hg).elim (fun h=>hvn g h) (fun h=>by omega)
       replace E:=E.step m11 (fun g hg=>by have:=Own.blk hvo g hg;have:=hvn g hg;omega);replace h1:=h1.mod m11 (fun g hg=>by have:=Own.blk hvo g hg;have:=hvn g hg;omega);replace h2:=h2.mod m11 (fun g hg=>by have:=Own.blk hvo g hg;have:=hvn g hg;omega);replace ho1:=ho1.mod m11 (fun g hg=>by have:=Own.blk hvo g hg;have:=hvn g hg;omega);replace hw1:=hw1.mod m11 (fun g hg=>by have:=Own.blk hvo g hg;have:=hvn g hg;omega);replace h5:=h5.mod m11 (fun g hg=>by have:=Own.blk hvo g hg;have:=hvn g hg;omega);replace h10:=h10.mod m11 (fun g hg=>by have:=Own.blk hvo g hg;have:=hvn g hg;omega);replace h11:=h11.mod m11 (fun g hg=>by have:=Own.blk hvo g hg;have:=hvn g hg;omega)
       have z38:=m11.size
       refine Bp ?_
       refine Qa (Qe Z) Z (Qd (Q4 (Yn (Qi [true,true,true] Z Z (Qa (Qb Z) Z (Qa (Yu Z Z (Yw hc11n (Own.rd (by decide) hw1).1)) Z (Qa (Qe Z) Z (Qd (Q4 (Yg (k + 1,v5) (by dsimp only;omega) ⟨Z,Z,Z,Z,Z,Z,Z,Z,Z,Z,trivial⟩ ⟨E,(by omega),h1,h2,ho1,hw1,h5,h10,h11,(by omega),Own.fin ho8 (Nat.le_refl _) (by omega) (Tq (by rw [hstm]) (by rw [hstm];exact not_f hc10) hx (by omega)),hn3⟩))))))))))
      ·have hc11n : ¬ k < (((Qj g r.op).1).outs).length:=by first | (have h:=of_decide_eq_false hc11;omega) | (have h:=hc11;simp at h;omega)
       refine Y5 (Yc (Q8 ?_))
       refine Qh (Qi [true,true,true,true,true] Z Z (Qa (Qb Z) Z (Qa (Qb Z) Z (Qa (Qe Z) Z (Qa (Qe Z) Z (Qa (Qe Z) Z (Qd (Qx (Y1 (l:=[.tmp 6,.tmp 7,.tmp 8]) (vs:=[v1,vo,.bool true]) Z ⟨.tmp Z,.tmp Z,.tmp Z,trivial⟩ Z E ?_)))))))))
       rw [st_3 hc1 hx hc2 (by rw [T7 hc3];rfl),T7 hc3]
       exact ⟨_,_,Z,Own.fin ho1 (by omega) (by omega) (by first | rfl | (simp only [List.nil_append];done)),Own.fin hvo (by omega) (by omega) (by rw [show ((Qj g r.op).1).outs.length = k from by omega]),⟨⟨(fun g hg he=>by have:=Own.blk ho1 g hg;have:=Own.blk hvo g he;have:=hvn g he;omega),trivial⟩,⟨trivial,trivial⟩⟩⟩
    ·have hstm:=stamp_o hx hc9
     refine Qy (Qh (Qh (Qi [true] Z Z (Qa (Qe Z) Z (Qd (Q2 (Y6 (fun (xq : Nat × Value)=>let ⟨k,vo⟩:=xq;[(6,.slice none 0 0),(7,.slice none 0 0),(8,.bool false),(9,v1),(10,vo),(11,.pointer (some ⟨b5,0,none⟩)),(13,.int .i64 ((Qo ((Qj g r.op).1) r.key r.val).1)),(14,.int .i64 ((Qo ((Qj g r.op).1) r.key r.val).2.1)),(18,.pointer (some ⟨b10,0,none⟩)),(21,.int .i64 ((k : Nat) : Int))]) (fun (xq : Nat × Value) w'=>let ⟨k,vo⟩:=xq;Ext w w' ∧ w31.heap.size ≤ w'.heap.size ∧ Blk w' b1 ([o1,.int .i64 g.workers,.int .i64 g.cap]) ∧ Blk w' b2 (Enc.enc r) ∧ Own w' b3 w4.heap.size 4 v1 ([] ++ List.flatMap (Enc.enc (α:=Cell)) cs) ∧ Own w' w5.heap.size w6.heap.size 1 o2 (List.flatMap (Enc.enc (α:=Int)) (((Qj g r.op).1).outs)) ∧ Blk w' b5 [.int .i64 (((Qj g r.op).1).kind),.int .i64 (((Qj g r.op).1).a),.int .i64 (((Qj g r.op).1).b),o2] ∧ Blk w' b10 [.int .i64 r.stamp.epoch,.int .i64 r.stamp.turn] ∧ k ≤ ((Qj g r.op).1).outs.length ∧ Own w' b4 w'.heap.size 5 vo (List.flatMap (Enc.enc (α:=Record)) (Ge g r k)) ∧ (∀ g,Value.ownBlock vo = some g → g = b4 ∨ w31.heap.size ≤ g)) (fun (xq : Nat × Value)=>let ⟨k,vo⟩:=xq;((Qj g r.op).1).outs.length - k) (0,.slice (some ⟨b4,0,none⟩) 0 0) ⟨Z,Z,Z,Z,Z,Z,Z,Z,Z,Z,trivial⟩ ⟨E,Nat.le_refl _,h1,h2,ho1,hw1,h5,h10,Nat.zero_le _,Own.fin (Own.ofBlk (lo:=b4) (hi:=b4 + 1) (sz:=5) h4 (Nat.le_refl _) (Nat.lt_succ_self _) (by simp) (by simp [maxLen])) (by omega) (by omega) out_zero.symm,(fun g hg=>.inl (by cases hg;rfl))⟩ ?_)))))))
     clear E h1 h2 ho1 h4 hw1 h5 h10
     rintro ⟨k,vo⟩ w40 ⟨E,z39,h1,h2,ho1,hw1,h5,h10,hk,hvo,hvn⟩
     refine Yb [(6,.slice none 0 0),(7,.slice none 0 0),(8,.bool false),(9,v1),(10,vo),(11,.pointer (some ⟨b5,0,none⟩)),(13,.int .i64 ((Qo ((Qj g r.op).1) r.key r.val).1)),(14,.int .i64 ((Qo ((Qj g r.op).1) r.key r.val).2.1)),(18,.pointer (some ⟨b10,0,none⟩)),(21,.int .i64 ((k : Nat) : Int))] ⟨Z,Z,Z,Z,Z,Z,Z,Z,Z,Z,trivial⟩ ?_
     refine Qh (Qh (Qi [true,true,true,true,true] Z Z (Qa (Qb Z) Z (Qa (Qf Ky Z) Z (Qa (Qk Uc Z (h5.one 3 Z)) Z (Qa (Ye Tryz.underlying29 Z (Own.len (by decide) hw1)) Z (Qa (Xe Z Z) Z (Qd (Qt Z (fun hc12=>?_) (fun hc12=>?_))))))))))
     ·have hc12n : k < (((Qj g r.op).1).outs).length:=by first | (have h:=of_decide_eq_true hc12;omega) | (have h:=hc12;simp at h;omega)
      refine Qy (Qh (Q2 (Ay Xd [11] [(0,true),(1,true),(2,true),(3,true),(4,true),(5,true),(6,true),(7,true),(8,true),(9,true),(10,false)] [(11,false),(12,true)] (by decide +kernel) Z Z (fun w41 e24=>?_))))
      replace E:=E.trans e24;replace h1:=h1.ext e24;replace h2:=h2.ext e24;replace ho1:=ho1.ext e24;replace hw1:=hw1.ext e24;replace h5:=h5.ext e24;replace h10:=h10.ext e24;replace hvo:=hvo.ext e24
      have z40:=e24.size
      refine Qa (Qb Z) Z (Qa (Qf Ky Z) Z (Qa (Qk Uc Z (h5.one 3 Z)) Z (Qa (Qb Z) Z ?_)))
      have hi4 : k < (((Qj g r.op).1).outs).length:=(by first | assumption | omega | (simp only [List.length_set];first | assumption | omega) | (simp only [List.getElem_set_self,List.length_set];first | assumption | omega) | (simp only [Y3,Yj,List.length_set];first | assumption | omega) | (simp;done))
      refine Qa (Q5 (i:=k) Kd Z Z (Own.rd (by decide) hw1) hi4) Z (Qa (Qk Xi Z (((Own.rd (by decide) hw1).get hi4).one 0 Z)) Z (Qa (Ql Xs Z h10.at Z) Z (Qa (Qb Z) Z (Qa (Qb Z) Z (Qa (Kv (⟨((((Qj g r.op).1).outs)[k]'hi4),r.stamp,(Qo ((Qj g r.op).1) r.key r.val).1,(Qo ((Qj g r.op).1) r.key r.val).2.1⟩ : Record) Z (fun _=>by kernel_rfl)) Z (Qz (vs:=[.agg (Enc.enc (⟨((((Qj g r.op).1).outs)[k]'hi4),r.stamp,(Qo ((Qj g r.op).1) r.key r.val).1,(Qo ((Qj g r.op).1) r.key r.val).2.1⟩ : Record)).toArray]) (css:=[[.int .i64 ((⟨((((Qj g r.op).1).outs)[k]'hi4),r.stamp,(Qo ((Qj g r.op).1) r.key r.val).1,(Qo ((Qj g r.op).1) r.key r.val).2.1⟩ : Record).op),.int .i64 (((⟨((((Qj g r.op).1).outs)[k]'hi4),r.stamp,(Qo ((Qj g r.op).1) r.key r.val).1,(Qo ((Qj g r.op).1) r.key r.val).2.1⟩ : Record).stamp).epoch),.int .i64 (((⟨((((Qj g r.op).1).outs)[k]'hi4),r.stamp,(Qo ((Qj g r.op).1) r.key r.val).1,(Qo ((Qj g r.op).1) r.key r.val).2.1⟩ : Record).stamp).turn),.int .i64 ((⟨((((Qj g r.op).1).outs)[k]'hi4),r.stamp,(Qo ((Qj g r.op).1) r.key r.val).1,(Qo ((Qj g r.op).1) r.key r.val).2.1⟩ : Record).key),.int .i64 ((⟨((((Qj g r.op).1).outs)[k]'hi4),r.stamp,(Qo ((Qj g r.op).1) r.key r.val).1,(Qo ((Qj g r.op).1) r.key r.val).2.1⟩ : Record).val)]]) Xp Z Z ⟨⟨Z,Z⟩,trivial⟩ Z Z (fun b13 w42 e25 s13 h13=>?_)))))))
      replace h13 : Blk w42 b13 [.int .i64 ((⟨((((Qj g r.op).1).outs)[k]'hi4),r.stamp,(Qo ((Qj g r.op).1) r.key r.val).1,(Qo ((Qj g r.op).1) r.key r.val).2.1⟩ : Record).op),.int .i64 (((⟨((((Qj g r.op).1).outs)[k]'hi4),r.stamp,(Qo ((Qj g r.op).1) r.key r.val).1,(Qo ((Qj g r.op).1) r.key r.val).2.1⟩ : Record).stamp).epoch),.int .i64 (((⟨((((Qj g r.op).1).outs)[k]'hi4),r.stamp,(Qo ((Qj g r.op).1) r.key r.val).1,(Qo ((Qj g r.op).1) r.key r.val).2.1⟩ : Record).stamp).turn),.int .i64 ((⟨((((Qj g r.op).1).outs)[k]'hi4),r.stamp,(Qo ((Qj g r.op).1) r.key r.val).1,(Qo ((Qj g r.op).1) r.key r.val).2.1⟩ : Record).key),.int .i64 ((⟨((((Qj g r.op).1).outs)[k]'hi4),r.stamp,(Qo ((Qj g r.op).1) r.key r.val).1,(Qo ((Qj g r.op).1) r.key r.val).2.1⟩ : Record).val)]:=h13
      have g_b13 : w.heap.size ≤ b13:=by have:=E.size;omega
      have y_b13:=h13.lt
      replace E:=E.trans e25;replace h1:=h1.ext e25;replace h2:=h2.ext e25;replace ho1:=ho1.ext e25;replace hw1:=hw1.ext e25;replace h5:=h5.ext e25;replace h10:=h10.ext e25;replace hvo:=hvo.ext e25
      have z41:=e25.size
      refine T2 ?_
      refine J2_X Z ?_
      refine Ka Xp Z Z hvo (Src.ofBlk h13 Z) Z (by first | (simp only [Ya,List.length_nil,List.length_cons];simp only [Enc.sz];omega) | (have h:=Hy g r k;rw [Ya];simp only [show Enc.sz Record = 5 from Z,List.length_cons,List.length_nil];omega)) (by decide) (by omega) (by omega) Z Z (fun v6 w43 m12 ho9 hb4=>?_)
      have hn4 : ∀ g,Value.ownBlock v6 = some g → g = b4 ∨ w31.heap.size ≤ g:=fun g hg=>(hb4 g hg).elim (fun h=>hvn g h) (fun h=>by omega)
      replace E:=E.step m12 (fun g hg=>by have:=Own.blk hvo g hg;have:=hvn g hg;omega);replace h1:=h1.mod m12 (fun g hg=>by have:=Own.blk hvo g hg;have:=hvn g hg;omega);replace h2:=h2.mod m12 (fun g hg=>by have:=Own.blk hvo g hg;have:=hvn g hg;omega);replace ho1:=ho1.mod m12 (fun g hg=>by have:=Own.blk hvo g hg;have:=hvn g hg;omega);replace hw1:=hw1.mod m12 (fun g hg=>by have:=Own.blk hvo g hg;have:=hvn g hg;omega);replace h5:=h5.mod m12 (fun g hg=>by have:=Own.blk hvo g hg;have:=hvn g hg;omega);replace h10:=h10.mod m12 (fun g hg=>by have:=Own.blk hvo g hg;have:=hvn g hg;omega)
      have z42:=m12.size
      refine Bp ?_
      refine Qa (Qe Z) Z (Qd (Q4 (Yn (Qi [true,true,true] Z Z (Qa (Qb Z) Z (Qa (Yu Z Z (Yw hc12n (Own.rd (by decide) hw1).1)) Z (Qa (Qe Z) Z (Qd (Q4 (Yg (k + 1,v6) (by dsimp only;omega) ⟨Z,Z,Z,Z,Z,Z,Z,Z,Z,Z,trivial⟩ ⟨E,(by omega),h1,h2,ho1,hw1,h5,h10,(by omega),Own.fin ho9 (Nat.le_refl _) (by omega) (Tq (by rw [hstm]) (by rw [hstm]) hx (by omega)),hn4⟩))))))))))
     ·have hc12n : ¬ k < (((Qj g r.op).1).outs).length:=by first | (have h:=of_decide_eq_false hc12;omega) | (have h:=hc12;simp at h;omega)
      refine Y5 (Yc (Q8 ?_))
      refine Qh (Qi [true,true,true,true,true] Z Z (Qa (Qb Z) Z (Qa (Qb Z) Z (Qa (Qe Z) Z (Qa (Qe Z) Z (Qa (Qe Z) Z (Qd (Qx (Y1 (l:=[.tmp 6,.tmp 7,.tmp 8]) (vs:=[v1,vo,.bool true]) Z ⟨.tmp Z,.tmp Z,.tmp Z,trivial⟩ Z E ?_)))))))))
      rw [st_3 hc1 hx hc2 (by rw [T7 hc3];rfl),T7 hc3]
      exact ⟨_,_,Z,Own.fin ho1 (by omega) (by omega) (by first | rfl | (simp only [List.nil_append];done)),Own.fin hvo (by omega) (by omega) (by rw [show ((Qj g r.op).1).outs.length = k from by omega]),⟨⟨(fun g hg he=>by have:=Own.blk ho1 g hg;have:=Own.blk hvo g he;have:=hvn g he;omega),trivial⟩,⟨trivial,trivial⟩⟩⟩

set_option maxHeartbeats 4000000 in
set_option maxRecDepth 20000 in
theorem s_WorkOn (cg : List Value) (g : Graph) (cx : List Value) (x : Worker) (w : World) (hg : Dat.R w 0 w.heap.size cg g) (hx : Dat.R w 0 w.heap.size cx x) (hb : Q6 x ≤ 1048576) (hcg : Uq g ≤ 1048576) : Ct Tryz.prog 89 [.agg cg.toArray,.agg cx.toArray] w (fun v w'=>∃ c0,v = .tuple [.agg c0.toArray,.bool ((Vh g x).2)].toArray ∧ Own1.O w' w.heap.size w'.heap.size c0 ((Vh g x).1)):=by
 have hb2:=hb
 unfold Q6 at hb2
 refine Yp Tryz.func89 Z Tryz.ntmps89 Z ?_
 obtain ⟨o1,rfl,hd1⟩:=Graph.op hg
 obtain ⟨o2,o3,o4,o5,o6,o7,o8,o9,rfl,hd2,hd3,hd4,hd5,hd6,hd7,hd8,hd9⟩:=Worker.op hx
 refine Yb [(0,.agg [o1,.int .i64 g.workers,.int .i64 g.cap].toArray),(1,.agg [o2,o3,o4,o5,o6,o7,o8,o9].toArray)] ⟨Z,Z,trivial⟩ ?_
 have E : Ext w w:=Ext.refl w
 refine Qh (Qi [false,false,false,true] Z Z (Xb Z Z (fun b1 w1 e1 s1 h1=>?_)))
 have g_b1 : w.heap.size ≤ b1:=by have:=E.size;omega
 have y_b1:=h1.lt
 replace E:=E.trans e1
 have z1:=e1.size
 refine Xb Z Z (fun b2 w2 e2 s2 h2=>?_)
 have g_b2 : w.heap.size ≤ b2:=by have:=E.size;omega
 have y_b2:=h2.lt
 replace E:=E.trans e2;replace h1:=h1.ext e2
 have z2:=e2.size
 refine Yd Yh Z (fun b3 w3 e3 s3 h3=>?_)
 have g_b3 : w.heap.size ≤ b3:=by have:=E.size;omega
 have y_b3:=h3.lt
 replace E:=E.trans e3;replace h1:=h1.ext e3;replace h2:=h2.ext e3
 have z3:=e3.size
 refine Qa (Qe Z) Z (Qd (Qh (Qi [true,false,false] Z Z (Qa (Ql Yh Z h2.at Z) Z (Qw Tryz.call41 Z (s_l12Copy [o2,o3,o4,o5,o6,o7,o8,o9] x _ (Worker.mkR x (RdD.any (hd2.ext E)) (RdD.any (hd3.ext E)) (RdD.any (hd4.ext E)) (RdD.any (hd5.ext E)) (RdD.any (hd6.ext E)) (RdD.any (hd7.ext E)) (RdD.any (hd8.ext E)) (RdD.any (hd9.ext E))) (by first | omega | (simp only [Q1];omega) | (rw [Q1];done) | (simp only [Q1];done))) Z (fun _ w4 e4 ho1=>?_))))))
 obtain ⟨_,rfl,ho1⟩:=ho1
 have g_ho1 : w.heap.size ≤ w3.heap.size:=E.size
 replace E:=E.trans e4;replace h1:=h1.ext e4;replace h2:=h2.ext e4;replace h3:=h3.ext e4
 have z4:=e4.size
 obtain ⟨o10,o11,o12,o13,o14,o15,o16,o17,rfl,sp1,hw1,hw2,hw3,hw4,hw5,hw6,hw7,hw8⟩:=Worker.opO ho1
 refine Qs (cs':=[o10,o11,o12,o13,o14,o15,o16,o17]) Yh Z Z Z (Qg hw1.one (Qg hw2.one (Qg hw3.one (Qg hw4.one (Qg hw5.one (Qg hw6.one (Qg hw7.one (Qg hw8.one Z)))))))) h2 (Nat.le_of_ble_eq_true Z) Z (fun w5 m1 h2'=>?_)
 replace h2:=h2'
 replace E:=E.step m1 (fun g hg=>by cases hg;omega);replace h1:=h1.mod m1 (fun g hg=>by cases hg;omega);replace h3:=h3.mod m1 (fun g hg=>by cases hg;omega);replace hw1:=hw1.mod m1 (fun g hg=>by cases hg;omega);replace hw2:=hw2.mod m1 (fun g hg=>by cases hg;omega);replace hw3:=hw3.mod m1 (fun g hg=>by cases hg;omega);replace hw4:=hw4.mod m1 (fun g hg=>by cases hg;omega);replace hw5:=hw5.mod m1 (fun g hg=>by cases hg;omega);replace hw6:=hw6.mod m1 (fun g hg=>by cases hg;omega);replace hw7:=hw7.mod m1 (fun g hg=>by cases hg;omega);replace hw8:=hw8.mod m1 (fun g hg=>by cases hg;omega)
 have z5:=m1.size
 refine Qd (Qh (Qh (Qi [true,false,true,true,true,true,false,true,true,true,true,true,true,true,true,true,true,true,true,true,true] Z Z (Qa (Ql Xz Z h1.at Z) Z (Qw Tryz.call97 Z (s_GraphOk [o1,.int .i64 g.workers,.int .i64 g.cap] g _ (Graph.mkR g (RdD.any (hd1.ext E)))) Z (fun _ w6 e5 hv=>?_))))))
 subst hv
 replace E:=E.trans e5;replace h1:=h1.ext e5;replace h2:=h2.ext e5;replace h3:=h3.ext e5;replace hw1:=hw1.ext e5;replace hw2:=hw2.ext e5;replace hw3:=hw3.ext e5;replace hw4:=hw4.ext e5;replace hw5:=hw5.ext e5;replace hw6:=hw6.ext e5;replace hw7:=hw7.ext e5;replace hw8:=hw8.ext e5
 have z6:=e5.size
 refine Qa (Xn Z) Z (Qa (Qb Z) Z (Xr 17 [(0,.agg [o1,.int .i64 g.workers,.int .i64 g.cap].toArray),(1,.agg [o2,o3,o4,o5,o6,o7,o8,o9].toArray),(2,.pointer (some ⟨b1,0,none⟩)),(3,.pointer (some ⟨b2,0,none⟩)),(4,.pointer (some ⟨b3,0,none⟩)),(5,.bool false),(10,.agg [o2,o3,o4,o5,o6,o7,o8,o9].toArray),(11,.agg [o10,o11,o12,o13,o14,o15,o16,o17].toArray),(32,.bool ((((!(Yr g)) || (!(Yv g x))) || (decide (0 < ((x.staged.length : Nat) : Int)))) || (((x.queue.length : Nat) : Int) == 0)))] (fun w'=>Ext w w' ∧ w6.heap.size ≤ w'.heap.size ∧ Blk w' b1 ([o1,.int .i64 g.workers,.int .i64 g.cap]) ∧ Blk w' b2 [o10,o11,o12,o13,o14,o15,o16,o17] ∧ Blk w' b3 [.slice none 0 0,.slice none 0 0,.slice none 0 0,.slice none 0 0,.slice none 0 0,.slice none 0 0,.slice none 0 0,.slice none 0 0] ∧ Own w' w3.heap.size w4.heap.size 5 o10 (List.flatMap (Enc.enc (α:=Record)) x.queue) ∧ Own w' w3.heap.size w4.heap.size 5 o11 (List.flatMap (Enc.enc (α:=Record)) x.staged) ∧ Own w' w3.heap.size w4.heap.size 5 o12 (List.flatMap (Enc.enc (α:=Record)) x.inputs) ∧ Own w' w3.heap.size w4.heap.size 4 o13 (List.flatMap (Enc.enc (α:=Cell)) x.cells) ∧ Own w' w3.heap.size w4.heap.size 1 o14 (List.flatMap (Enc.enc (α:=Int)) x.sums) ∧ Own w' w3.heap.size w4.heap.size 1 o15 (List.flatMap (Enc.enc (α:=Bool)) x.black) ∧ Own w' w3.heap.size w4.heap.size 1 o16 (List.flatMap (Enc.enc (α:=Bool)) x.caps) ∧ Own w' w3.heap.size w4.heap.size 2 o17 (List.flatMap (Enc.enc (α:=Done)) x.dones)) ?_ ?_))
 ·refine Yz (gd:=15) Z Z (fun hg1=>?_) (fun hg1=>?_)
  ·refine Qc Z Z Z Z (Qc Z Z Z Z ?_)
   refine Q3 Z Z Z Z ?_
   refine Qc Z Z Z Z (Qa (Qr Z Z) Z (Qa (Qb Z) Z (Qc Z Z Z Z (Qc Z Z Z Z (Qc Z Z Z Z (Qc Z Z Z Z (Qa (Qr Z Z) Z (Qa (Qb Z) Z (Qc Z Z Z Z (Qc Z Z Z Z (Qc Z Z Z Z (Qc Z Z Z Z (Qa (Qr Z Z) Z (Qn ⟨Z,Z,Z,Z,Z,Z,Z,Z,congrArg (fun b=>some (Value.bool b)) (show true = ((((!(Yr g)) || (!(Yv g x))) || (decide (0 < ((x.staged.length : Nat) : Int)))) || (((x.queue.length : Nat) : Int) == 0)) by first | (rw [hg1] <;> rfl) | (simp [hg1];done) | (simp only [Qq] <;> simp)),trivial⟩ ⟨E,(by omega),h1,h2,h3,hw1,hw2,hw3,hw4,hw5,hw6,hw7,hw8⟩))))))))))))))
  ·refine Qm Z Z (Ql Xz Z h1.at Z) Z (Qm Z Z (Ql Yh Z h2.at Z) Z ?_)
   refine Xa Z Z ?_
   refine Qw Tryz.call7 Z (s_WorkerOk [o1,.int .i64 g.workers,.int .i64 g.cap] g [o10,o11,o12,o13,o14,o15,o16,o17] x _ (Graph.mkR g (RdD.any (hd1.ext E))) (Worker.mkR x (RdD.any (Own.rdD hw1)) (RdD.any (Own.rdD hw2)) (RdD.any (Own.rdD hw3)) (RdD.any (Own.rdD hw4)) (RdD.any (Own.rdD hw5)) (RdD.any (Own.rdD hw6)) (RdD.any (Own.rdD hw7)) (RdD.any (Own.rdD hw8)))) Z (fun _ w8 e6 hv=>?_)
   subst hv
   replace E:=E.trans e6;replace h1:=h1.ext e6;replace h2:=h2.ext e6;replace h3:=h3.ext e6;replace hw1:=hw1.ext e6;replace hw2:=hw2.ext e6;replace hw3:=hw3.ext e6;replace hw4:=hw4.ext e6;replace hw5:=hw5.ext e6;replace hw6:=hw6.ext e6;replace hw7:=hw7.ext e6;replace hw8:=hw8.ext e6
   have z7:=e6.size
   refine Qm Z Z (Xn Z) Z (Qa (Qp Z Z) Z (Qa (Qb Z) Z ?_))
   refine Yz (gd:=21) Z Z (fun hg2=>?_) (fun hg2=>?_)
   ·refine Qc Z Z Z Z (Qc Z Z Z Z (Qc Z Z Z Z (Qc Z Z Z Z (Qa (Qr Z Z) Z (Qa (Qb Z) Z (Qc Z Z Z Z (Qc Z Z Z Z (Qc Z Z Z Z (Qc Z Z Z Z (Qa (Qr Z Z) Z (Qn ⟨Z,Z,Z,Z,Z,Z,Z,Z,congrArg (fun b=>some (Value.bool b)) (show true = ((((!(Yr g)) || (!(Yv g x))) || (decide (0 < ((x.staged.length : Nat) : Int)))) || (((x.queue.length : Nat) : Int) == 0)) by first | (rw [hg1,hg2] <;> rfl) | (simp [hg1,hg2];done) | (simp only [Qq] <;> simp)),trivial⟩ ⟨E,(by omega),h1,h2,h3,hw1,hw2,hw3,hw4,hw5,hw6,hw7,hw8⟩)))))))))))
   ·refine Qm Z Z (Qf Ui Z) Z (Qm Z Z (Qk Xv Z (h2.one 1 Z)) Z (Qm Z Z (Ye Tryz.underlying27 Z (Own.len (by decide) hw2)) Z (Qm Z Z (U1 Z Z) Z (Qa (Qp Z Z) Z (Qa (Qb Z) Z ?_)))))
    refine Yz (gd:=27) Z Z (fun hg3=>?_) (fun hg3=>?_)
    ·have hg3n : x.staged.length > 0:=by first | (have h:=of_decide_eq_true hg3;omega) | (have h:=hg3;simp at h;omega)
     refine Qc Z Z Z Z (Qc Z Z Z Z (Qc Z Z Z Z (Qc Z Z Z Z (Qa (Qr Z Z) Z (Qn ⟨Z,Z,Z,Z,Z,Z,Z,Z,congrArg (fun b=>some (Value.bool b)) (show true = ((((!(Yr g)) || (!(Yv g x))) || (decide (0 < ((x.staged.length : Nat) : Int)))) || (((x.queue.length : Nat) : Int) == 0)) by first | (rw [hg1,hg2,hg3] <;> rfl) | (simp [hg1,hg2,hg3];done) | (simp only [Qq] <;> simp)),trivial⟩ ⟨E,(by omega),h1,h2,h3,hw1,hw2,hw3,hw4,hw5,hw6,hw7,hw8⟩)))))
    ·have hg3n : ¬ x.staged.length > 0:=by first | (have h:=of_decide_eq_false hg3;omega) | (have h:=hg3;simp at h;omega)
     refine Qm Z Z (Qf Kf Z) Z (Qm Z Z (Qk Xv Z (h2.one 0 Z)) Z (Qm Z Z (Ye Tryz.underlying27 Z (Own.len (by decide) hw1)) Z (Qm Z Z (Y9 Z Z) Z (Qa (Qp Z Z) Z (Qn ⟨Z,Z,Z,Z,Z,Z,Z,Z,congrArg (fun b=>some (Value.bool b)) (show (((x.queue.length : Nat) : Int) == 0) = ((((!(Yr g)) || (!(Yv g x))) || (decide (0 < ((x.staged.length : Nat) : Int)))) || (((x.queue.length : Nat) : Int) == 0)) by first | (rw [hg1,hg2,hg3] <;> rfl) | (simp [hg1,hg2,hg3];done) | (simp only [Qq] <;> simp)),trivial⟩ ⟨E,(by omega),h1,h2,h3,hw1,hw2,hw3,hw4,hw5,hw6,hw7,hw8⟩)))))
 clear E h1 h2 h3 hw1 hw2 hw3 hw4 hw5 hw6 hw7 hw8
 rintro w7 ⟨E,z8,h1,h2,h3,hw1,hw2,hw3,hw4,hw5,hw6,hw7,hw8⟩
 refine Qd (Qt Z (fun hc1=>?_) (fun hc1=>?_))
 ·refine Qh (Qi [true,false,true] Z Z (Qa (Ql Yh Z h2.at Z) Z (Qs (cs':=[o10,o11,o12,o13,o14,o15,o16,o17]) Yh Z Z Z (Qg hw1.one (Qg hw2.one (Qg hw3.one (Qg hw4.one (Qg hw5.one (Qg hw6.one (Qg hw7.one (Qg hw8.one Z)))))))) h3 (Nat.le_of_ble_eq_true Z) Z (fun w9 m2 h3'=>?_))))
  replace h3:=h3'
  replace E:=E.step m2 (fun g hg=>by cases hg;omega);replace h1:=h1.mod m2 (fun g hg=>by cases hg;omega);replace h2:=h2.mod m2 (fun g hg=>by cases hg;omega);replace hw1:=hw1.mod m2 (fun g hg=>by cases hg;omega);replace hw2:=hw2.mod m2 (fun g hg=>by cases hg;omega);replace hw3:=hw3.mod m2 (fun g hg=>by cases hg;omega);replace hw4:=hw4.mod m2 (fun g hg=>by cases hg;omega);replace hw5:=hw5.mod m2 (fun g hg=>by cases hg;omega);replace hw6:=hw6.mod m2 (fun g hg=>by cases hg;omega);replace hw7:=hw7.mod m2 (fun g hg=>by cases hg;omega);replace hw8:=hw8.mod m2 (fun g hg=>by cases hg;omega)
  have z9:=m2.size
  refine Qa (Qe Z) Z (Qd (Qx (Y1 (l:=[.cell 4 33,.tmp 5]) (vs:=[.agg [o10,o11,o12,o13,o14,o15,o16,o17].toArray,.bool false]) Z ⟨.cell Z (Qv Yh h3.at Z),.tmp Z,trivial⟩ Z E ?_)))
  rw [work_no hc1]
  exact ⟨_,Z,(Worker.mkO x sp1 (Own.widen hw1 (by omega) (by omega)) (Own.widen hw2 (by omega) (by omega)) (Own.widen hw3 (by omega) (by omega)) (Own.widen hw4 (by omega) (by omega)) (Own.widen hw5 (by omega) (by omega)) (Own.widen hw6 (by omega) (by omega)) (Own.widen hw7 (by omega) (by omega)) (Own.widen hw8 (by omega) (by omega)))⟩
 ·have hwl:=work_lt hc1
  refine Qy (Qh (Qi [true,true,true,true,false,false] Z Z (Qa (Qf Kf Z) Z (Qa (Qk Xv Z (h2.one 0 Z)) Z ?_))))
  have hi1 : 0 < x.queue.length:=(by first | assumption | omega | (simp only [List.length_set];first | assumption | omega) | (simp only [List.getElem_set_self,List.length_set];first | assumption | omega) | (simp only [Y3,Yj,List.length_set];first | assumption | omega) | (simp;done))
  refine Qa (Q5 (i:=0) Xp Z Z (Own.rd (by decide) hw1) hi1) Z (Qa (Ql Xq Z ((Own.rd (by decide) hw1).get hi1) Z) Z (Yd Xq Z (fun b4 w10 e7 s4 h4=>?_)))
  have g_b4 : w.heap.size ≤ b4:=by have:=E.size;omega
  have y_b4:=h4.lt
  replace E:=E.trans e7;replace h1:=h1.ext e7;replace h2:=h2.ext e7;replace h3:=h3.ext e7;replace hw1:=hw1.ext e7;replace hw2:=hw2.ext e7;replace hw3:=hw3.ext e7;replace hw4:=hw4.ext e7;replace hw5:=hw5.ext e7;replace hw6:=hw6.ext e7;replace hw7:=hw7.ext e7;replace hw8:=hw8.ext e7
  have z10:=e7.size
  refine Qs (cs':=[.int .i64 ((x.queue[0]'hi1).op),.int .i64 (((x.queue[0]'hi1).stamp).epoch),.int .i64 (((x.queue[0]'hi1).stamp).turn),.int .i64 ((x.queue[0]'hi1).key),.int .i64 ((x.queue[0]'hi1).val)]) Xq Z Z Z Z h4 (Nat.le_of_ble_eq_true Z) Z (fun w11 m3 h4'=>?_)
  replace h4:=h4'
  replace E:=E.step m3 (fun g hg=>by cases hg;omega);replace h1:=h1.mod m3 (fun g hg=>by cases hg;omega);replace h2:=h2.mod m3 (fun g hg=>by cases hg;omega);replace h3:=h3.mod m3 (fun g hg=>by cases hg;omega);replace hw1:=hw1.mod m3 (fun g hg=>by cases hg;omega);replace hw2:=hw2.mod m3 (fun g hg=>by cases hg;omega);replace hw3:=hw3.mod m3 (fun g hg=>by cases hg;omega);replace hw4:=hw4.mod m3 (fun g hg=>by cases hg;omega);replace hw5:=hw5.mod m3 (fun g hg=>by cases hg;omega);replace hw6:=hw6.mod m3 (fun g hg=>by cases hg;omega);replace hw7:=hw7.mod m3 (fun g hg=>by cases hg;omega);replace hw8:=hw8.mod m3 (fun g hg=>by cases hg;omega)
  have z11:=m3.size
  refine Qd (Qh (Qi [true,true,true,true,false,true,true,true,true,true,true,true] Z Z (Qa (Ql Xz Z h1.at Z) Z (Qa (Qf V5 Z) Z (Qa (Qk C9 Z (h2.one 3 Z)) Z (Qa (Ql Xq Z h4.at Z) Z (Qw Tryz.call99 Z (s_StepOp [o1,.int .i64 g.workers,.int .i64 g.cap] g o13 x.cells (x.queue[0]'hi1) _ (Graph.mkR g (RdD.any (hd1.ext E))) (Own.rd (by decide) hw4) (by first | omega | (simp only [Q1];omega) | (rw [Q1];done) | (simp only [Q1];done)) (by first | omega | (simp only [Q1];omega) | (rw [Q1];done) | (simp only [Q1];done))) Z (fun _ w12 e8 ho2=>?_))))))))
  obtain ⟨v1,v2,rfl,ho3,ho4,sp2⟩:=ho2
  have g_ho2 : w.heap.size ≤ w11.heap.size:=E.size
  replace E:=E.trans e8;replace h1:=h1.ext e8;replace h2:=h2.ext e8;replace h3:=h3.ext e8;replace hw1:=hw1.ext e8;replace hw2:=hw2.ext e8;replace hw3:=hw3.ext e8;replace hw4:=hw4.ext e8;replace hw5:=hw5.ext e8;replace hw6:=hw6.ext e8;replace hw7:=hw7.ext e8;replace hw8:=hw8.ext e8;replace h4:=h4.ext e8
  have z12:=e8.size
  refine Qa (Qb Z) Z (Qa (Ym Z Z) Z (Qa (Ym Z Z) Z (Qa (Ym Z Z) Z (Qa (Qe Z) Z (Qa (Qe Z) Z (Qa (Qe Z) Z (Qd (Qh (Qi [false,true,true,true,false,true,false] Z Z (Qz (vs:=[]) (css:=[]) Xp Z Z trivial Z Z (fun b5 w13 e9 s5 h5=>?_)))))))))))
  replace h5 : Blk w13 b5 []:=h5
  have g_b5 : w.heap.size ≤ b5:=by have:=E.size;omega
  have y_b5:=h5.lt
  replace E:=E.trans e9;replace h1:=h1.ext e9;replace h2:=h2.ext e9;replace h3:=h3.ext e9;replace hw1:=hw1.ext e9;replace hw2:=hw2.ext e9;replace hw3:=hw3.ext e9;replace hw4:=hw4.ext e9;replace hw5:=hw5.ext e9;replace hw6:=hw6.ext e9;replace hw7:=hw7.ext e9;replace hw8:=hw8.ext e9;replace h4:=h4.ext e9;replace ho3:=ho3.ext e9;replace ho4:=ho4.ext e9
  have z13:=e9.size
  refine Qa (Qf Kf Z) Z (Qa (Qk Xv Z (h2.one 0 Z)) Z ?_)
  have hk1 : 1 ≤ x.queue.length:=by first | assumption | omega
  have hs1:=Own.slFromE (α:=Record) hw1 hk1
  replace hs1 : Own w13 w3.heap.size w4.heap.size 5 (slFrom o10 1 5) (List.flatMap (Enc.enc (α:=Record)) (List.drop 1 x.queue)):=hs1
  have hb1 : Become w13 o10 (slFrom o10 1 5):=fun g hg=>.inl (by rwa [H9] at hg)
  replace sp1:=SepL.set hb1 0 rfl sp1 ⟨(Own.lt hw1),(Own.lt hw2),(Own.lt hw3),(Own.lt hw4),(Own.lt hw5),(Own.lt hw6),(Own.lt hw7),(Own.lt hw8),trivial⟩
  replace sp1 : SepL [slFrom o10 1 5,o11,o12,o13,o14,o15,o16,o17]:=sp1
  refine Qa (Gi Xp Z Z (Own.roomE (α:=Record) hw1) hk1) Z (Xo Xp Z Z (Own.ofBlk (lo:=b5) (hi:=b5 + 1) (sz:=5) h5 (Nat.le_refl _) (Nat.lt_succ_self _) (by simp) (by simp [maxLen])) (Own.src hs1) (Xm _) (by simp only [Ya,List.length_nil,List.length_cons,List.length_drop];simp only [Enc.sz];omega) (by decide) (by omega) (by omega) Z Z (fun v3 w14 m4 ho5=>?_))
  replace E:=E.step m4 (fun g hg=>by have:=Own.blk (Own.ofBlk (lo:=b5) (hi:=b5 + 1) (sz:=5) h5 (Nat.le_refl _) (Nat.lt_succ_self _) (by simp) (by simp [maxLen])) g hg;omega);replace h1:=h1.mod m4 (fun g hg=>by have:=Own.blk (Own.ofBlk (lo:=b5) (hi:=b5 + 1) (sz:=5) h5 (Nat.le_refl _) (Nat.lt_succ_self _) (by simp) (by simp [maxLen])) g hg;omega);replace h2:=h2.mod m4 (fun g hg=>by have:=Own.blk (Own.ofBlk (lo:=b5) (hi:=b5 + 1) (sz:=5) h5 (Nat.le_refl _) (Nat.lt_succ_self _) (by simp) (by simp [maxLen])) g hg;omega);replace h3:=h3.mod m4 (fun g hg=>by have:=Own.blk (Own.ofBlk (lo:=b5) (hi:=b5 + 1) (sz:=5) h5 (Nat.le_refl _) (Nat.lt_succ_self _) (by simp) (by simp [maxLen])) g hg;omega);replace hw2:=hw2.mod m4 (fun g hg=>by have:=Own.blk (Own.ofBlk (lo:=b5) (hi:=b5 + 1) (sz:=5) h5 (Nat.le_refl _) (Nat.lt_succ_self _) (by simp) (by simp [maxLen])) g hg;omega);replace hw3:=hw3.mod m4 (fun g hg=>by have:=Own.blk (Own.ofBlk (lo:=b5) (hi:=b5 + 1) (sz:=5) h5 (Nat.le_refl _) (Nat.lt_succ_self _) (by simp) (by simp [maxLen])) g hg;omega);replace hw4:=hw4.mod m4 (fun g hg=>by have:=Own.blk (Own.ofBlk (lo:=b5) (hi:=b5 + 1) (sz:=5) h5 (Nat.le_refl _) (Nat.lt_succ_self _) (by simp) (by simp [maxLen])) g hg;omega);replace hw5:=hw5.mod m4 (fun g hg=>by have:=Own.blk (Own.ofBlk (lo:=b5) (hi:=b5 + 1) (sz:=5) h5 (Nat.le_refl _) (Nat.lt_succ_self _) (by simp) (by simp [maxLen])) g hg;omega);replace hw6:=hw6.mod m4 (fun g hg=>by have:=Own.blk (Own.ofBlk (lo:=b5) (hi:=b5 + 1) (sz:=5) h5 (Nat.le_refl _) (Nat.lt_succ_self _) (by simp) (by simp [maxLen])) g hg;omega);replace hw7:=hw7.mod m4 (fun g hg=>by have:=Own.blk (Own.ofBlk (lo:=b5) (hi:=b5 + 1) (sz:=5) h5 (Nat.le_refl _) (Nat.lt_succ_self _) (by simp) (by simp [maxLen])) g hg;omega);replace hw8:=hw8.mod m4 (fun g hg=>by have:=Own.blk (Own.ofBlk (lo:=b5) (hi:=b5 + 1) (sz:=5) h5 (Nat.le_refl _) (Nat.lt_succ_self _) (by simp) (by simp [maxLen])) g hg;omega);replace h4:=h4.mod m4 (fun g hg=>by have:=Own.blk (Own.ofBlk (lo:=b5) (hi:=b5 + 1) (sz:=5) h5 (Nat.le_refl _) (Nat.lt_succ_self _) (by simp) (by simp [maxLen])) g hg;omega);replace ho3:=ho3.mod m4 (fun g hg=>by have:=Own.blk (Own.ofBlk (lo:=b5) (hi:=b5 + 1) (sz:=5) h5 (Nat.le_refl _) (Nat.lt_succ_self _) (by simp) (by simp [maxLen])) g hg;omega);replace ho4:=ho4.mod m4 (fun g hg=>by have:=Own.blk (Own.ofBlk (lo:=b5) (hi:=b5 + 1) (sz:=5) h5 (Nat.le_refl _) (Nat.lt_succ_self _) (by simp) (by simp [maxLen])) g hg;omega);replace hs1:=hs1.mod m4 (fun g hg=>by have:=Own.blk (Own.ofBlk (lo:=b5) (hi:=b5 + 1) (sz:=5) h5 (Nat.le_refl _) (Nat.lt_succ_self _) (by simp) (by simp [maxLen])) g hg;omega)
  have z14:=m4.size
  refine Qa (Qf Kf Z) Z (Xf (cs':=[v3,o11,o12,o13,o14,o15,o16,o17]) Xv Z Z ho5.one h2 (Nat.le_of_ble_eq_true Z) Z (fun w15 m5 h2'=>?_))
  replace h2:=h2'
  replace E:=E.step m5 (fun g hg=>by cases hg;omega);replace h1:=h1.mod m5 (fun g hg=>by cases hg;omega);replace h3:=h3.mod m5 (fun g hg=>by cases hg;omega);replace hw2:=hw2.mod m5 (fun g hg=>by cases hg;omega);replace hw3:=hw3.mod m5 (fun g hg=>by cases hg;omega);replace hw4:=hw4.mod m5 (fun g hg=>by cases hg;omega);replace hw5:=hw5.mod m5 (fun g hg=>by cases hg;omega);replace hw6:=hw6.mod m5 (fun g hg=>by cases hg;omega);replace hw7:=hw7.mod m5 (fun g hg=>by cases hg;omega);replace hw8:=hw8.mod m5 (fun g hg=>by cases hg;omega);replace h4:=h4.mod m5 (fun g hg=>by cases hg;omega);replace ho3:=ho3.mod m5 (fun g hg=>by cases hg;omega);replace ho4:=ho4.mod m5 (fun g hg=>by cases hg;omega);replace hs1:=hs1.mod m5 (fun g hg=>by cases hg;omega);replace ho5:=ho5.mod m5 (fun g hg=>by cases hg;omega)
  have z15:=m5.size
  refine Qd (Qh (Qi [true,true,false] Z Z (Qa (Qb Z) Z (Qa (Qf V5 Z) Z (Xf (cs':=[v3,o11,o12,v1,o14,o15,o16,o17]) C9 Z Z ho3.one h2 (Nat.le_of_ble_eq_true Z) Z (fun w16 m6 h2'=>?_))))))
  replace h2:=h2'
  replace E:=E.step m6 (fun g hg=>by cases hg;omega);replace h1:=h1.mod m6 (fun g hg=>by cases hg;omega);replace h3:=h3.mod m6 (fun g hg=>by cases hg;omega);replace hw2:=hw2.mod m6 (fun g hg=>by cases hg;omega);replace hw3:=hw3.mod m6 (fun g hg=>by cases hg;omega);replace hw4:=hw4.mod m6 (fun g hg=>by cases hg;omega);replace hw5:=hw5.mod m6 (fun g hg=>by cases hg;omega);replace hw6:=hw6.mod m6 (fun g hg=>by cases hg;omega);replace hw7:=hw7.mod m6 (fun g hg=>by cases hg;omega);replace hw8:=hw8.mod m6 (fun g hg=>by cases hg;omega);replace h4:=h4.mod m6 (fun g hg=>by cases hg;omega);replace ho3:=ho3.mod m6 (fun g hg=>by cases hg;omega);replace ho4:=ho4.mod m6 (fun g hg=>by cases hg;omega);replace hs1:=hs1.mod m6 (fun g hg=>by cases hg;omega);replace ho5:=ho5.mod m6 (fun g hg=>by cases hg;omega)
  have z16:=m6.size
  refine Qd (Qh (Qi [true,true,false] Z Z (Qa (Qb Z) Z (Qa (Qf Ui Z) Z (Xf (cs':=[v3,v2,o12,v1,o14,o15,o16,o17]) Xv Z Z ho4.one h2 (Nat.le_of_ble_eq_true Z) Z (fun w17 m7 h2'=>?_))))))
  replace h2:=h2'
  replace E:=E.step m7 (fun g hg=>by cases hg;omega);replace h1:=h1.mod m7 (fun g hg=>by cases hg;omega);replace h3:=h3.mod m7 (fun g hg=>by cases hg;omega);replace hw2:=hw2.mod m7 (fun g hg=>by cases hg;omega);replace hw3:=hw3.mod m7 (fun g hg=>by cases hg;omega);replace hw4:=hw4.mod m7 (fun g hg=>by cases hg;omega);replace hw5:=hw5.mod m7 (fun g hg=>by cases hg;omega);replace hw6:=hw6.mod m7 (fun g hg=>by cases hg;omega);replace hw7:=hw7.mod m7 (fun g hg=>by cases hg;omega);replace hw8:=hw8.mod m7 (fun g hg=>by cases hg;omega);replace h4:=h4.mod m7 (fun g hg=>by cases hg;omega);replace ho3:=ho3.mod m7 (fun g hg=>by cases hg;omega);replace ho4:=ho4.mod m7 (fun g hg=>by cases hg;omega);replace hs1:=hs1.mod m7 (fun g hg=>by cases hg;omega);replace ho5:=ho5.mod m7 (fun g hg=>by cases hg;omega)
  have z17:=m7.size
  refine Qd (Qh (Qh (Qi [true,true,false] Z Z (Qa (Ql Xz Z h1.at Z) Z (Qa (Ql Xq Z h4.at Z) Z (Qw Tryz.call100 Z (s_Capped [o1,.int .i64 g.workers,.int .i64 g.cap] g (x.queue[0]'hi1) _ (Graph.mkR g (RdD.any (hd1.ext E))) (by first | omega | (simp only [Q1];omega) | (rw [Q1];done) | (simp only [Q1];done))) Z (fun _ w18 e10 hv=>?_)))))))
  subst hv
  replace E:=E.trans e10;replace h1:=h1.ext e10;replace h2:=h2.ext e10;replace h3:=h3.ext e10;replace hw2:=hw2.ext e10;replace hw3:=hw3.ext e10;replace hw4:=hw4.ext e10;replace hw5:=hw5.ext e10;replace hw6:=hw6.ext e10;replace hw7:=hw7.ext e10;replace hw8:=hw8.ext e10;replace h4:=h4.ext e10;replace ho3:=ho3.ext e10;replace ho4:=ho4.ext e10;replace hs1:=hs1.ext e10;replace ho5:=ho5.ext e10
  have z18:=e10.size
  refine Qd (Qt Z (fun hc2=>?_) (fun hc2=>?_))
  ·have hwc:=work_cap hc1 hwl hc2
   refine Qi [true,true,true,true,true,true,false] Z Z (Qa (Qf Hl Z) Z (Qa (Qk Gz Z (h2.one 6 Z)) Z (Qa (Qf X4 Z) Z (Qa (Q7 Uh Z) Z (Qa (Qk Xi Z (h4.one 1 Z)) Z ?_)))))
   have hi2 : (Int.toNat (((x.queue[0]'hi1).stamp).epoch)) < x.caps.length:=(by first | assumption | omega | (simp only [List.length_set];first | assumption | omega) | (simp only [List.getElem_set_self,List.length_set];first | assumption | omega) | (simp only [Y3,Yj,List.length_set];first | assumption | omega) | (simp;done))
   refine Qa (Gr (i:=(Int.toNat (((x.queue[0]'hi1).stamp).epoch))) H2 Z Z (Own.rd (by decide) hw7) (by omega) hi2) Z (Gb (α:=Bool) (i:=(Int.toNat (((x.queue[0]'hi1).stamp).epoch))) (f:=0) true sc4 Z Z Z Z hw7 hi2 (by decide) Z (fun w19 m8 hw7'=>?_))
   have hq:=Own.blk hw7
   replace hw7:=hw7'
   replace E:=E.step m8 (fun g hg=>by have:=hq g hg;omega);replace h1:=h1.mod m8 (fun g hg=>by have:=hq g hg;omega);replace h2:=h2.mod m8 (fun g hg=>by have:=hq g hg;omega);replace h3:=h3.mod m8 (fun g hg=>by have:=hq g hg;omega);replace hw2:=Own.modS hw2 m8 (sp1.2.1.2.2.2.2.1).symm;replace hw3:=Own.modS hw3 m8 (sp1.2.2.1.2.2.2.1).symm;replace hw4:=Own.modS hw4 m8 (sp1.2.2.2.1.2.2.1).symm;replace hw5:=Own.modS hw5 m8 (sp1.2.2.2.2.1.2.1).symm;replace hw6:=Own.modS hw6 m8 (sp1.2.2.2.2.2.1.1).symm;replace hw8:=Own.modS hw8 m8 sp1.2.2.2.2.2.2.1.1;replace h4:=h4.mod m8 (fun g hg=>by have:=hq g hg;omega);replace ho3:=ho3.mod m8 (fun g hg=>by have:=hq g hg;omega);replace ho4:=ho4.mod m8 (fun g hg=>by have:=hq g hg;omega);replace hs1:=Own.modS hs1 m8 (sp1.1.2.2.2.2.2.1).symm;replace ho5:=ho5.mod m8 (fun g hg=>by have:=hq g hg;omega)
   have z19:=m8.size
   clear hq
   refine Qd (Qh (Qi [true,false,true] Z Z (Qa (Ql Yh Z h2.at Z) Z (Qs (cs':=[v3,v2,o12,v1,o14,o15,o16,o17]) Yh Z Z Z (Qg ho5.one (Qg ho4.one (Qg hw3.one (Qg ho3.one (Qg hw5.one (Qg hw6.one (Qg hw7.one (Qg hw8.one Z)))))))) h3 (Nat.le_of_ble_eq_true Z) Z (fun w20 m9 h3'=>?_)))))
   replace h3:=h3'
   replace E:=E.step m9 (fun g hg=>by cases hg;omega);replace h1:=h1.mod m9 (fun g hg=>by cases hg;omega);replace h2:=h2.mod m9 (fun g hg=>by cases hg;omega);replace hw2:=hw2.mod m9 (fun g hg=>by cases hg;omega);replace hw3:=hw3.mod m9 (fun g hg=>by cases hg;omega);replace hw4:=hw4.mod m9 (fun g hg=>by cases hg;omega);replace hw5:=hw5.mod m9 (fun g hg=>by cases hg;omega);replace hw6:=hw6.mod m9 (fun g hg=>by cases hg;omega);replace hw8:=hw8.mod m9 (fun g hg=>by cases hg;omega);replace h4:=h4.mod m9 (fun g hg=>by cases hg;omega);replace ho3:=ho3.mod m9 (fun g hg=>by cases hg;omega);replace ho4:=ho4.mod m9 (fun g hg=>by cases hg;omega);replace hs1:=hs1.mod m9 (fun g hg=>by cases hg;omega);replace ho5:=ho5.mod m9 (fun g hg=>by cases hg;omega);replace hw7:=hw7.mod m9 (fun g hg=>by cases hg;omega)
   have z20:=m9.size
   refine Qa (Qe Z) Z (Qd (Qx (Y1 (l:=[.cell 4 33,.tmp 5]) (vs:=[.agg [v3,v2,o12,v1,o14,o15,o16,o17].toArray,.bool true]) Z ⟨.cell Z (Qv Yh h3.at Z),.tmp Z,trivial⟩ Z E ?_)))
   rw [work_c hc1 hwl hc2]
   exact ⟨_,Z,(Worker.mkO (⟨[] ++ (List.drop 1 x.queue),(Kc g x.cells (x.queue[0]'hi1)).2.1,x.inputs,(Kc g x.cells (x.queue[0]'hi1)).1,x.sums,x.black,List.set x.caps (Int.toNat (((x.queue[0]'hi1).stamp).epoch)) true,x.dones⟩ : Worker) ⟨⟨(Own.sep ho5 ho4 (by omega)),⟨(Own.sep ho5 hw3 (by omega)),⟨(Own.sep ho5 ho3 (by omega)),⟨(Own.sep ho5 hw5 (by omega)),⟨(Own.sep ho5 hw6 (by omega)),⟨(Own.sep ho5 hw7 (by omega)),⟨(Own.sep ho5 hw8 (by omega)),trivial⟩⟩⟩⟩⟩⟩⟩,⟨⟨(Own.sep ho4 hw3 (by omega)),⟨(sp2.1.1).symm,⟨(Own.sep ho4 hw5 (by omega)),⟨(Own.sep ho4 hw6 (by omega)),⟨(Own.sep ho4 hw7 (by omega)),⟨(Own.sep ho4 hw8 (by omega)),trivial⟩⟩⟩⟩⟩⟩,⟨⟨(Own.sep hw3 ho3 (by omega)),⟨sp1.2.2.1.2.1,⟨sp1.2.2.1.2.2.1,⟨sp1.2.2.1.2.2.2.1,⟨sp1.2.2.1.2.2.2.2.1,trivial⟩⟩⟩⟩⟩,⟨⟨(Own.sep ho3 hw5 (by omega)),⟨(Own.sep ho3 hw6 (by omega)),⟨(Own.sep ho3 hw7 (by omega)),⟨(Own.sep ho3 hw8 (by omega)),trivial⟩⟩⟩⟩,⟨⟨sp1.2.2.2.2.1.1,⟨sp1.2.2.2.2.1.2.1,⟨sp1.2.2.2.2.1.2.2.1,trivial⟩⟩⟩,⟨⟨sp1.2.2.2.2.2.1.1,⟨sp1.2.2.2.2.2.1.2.1,trivial⟩⟩,⟨⟨sp1.2.2.2.2.2.2.1.1,trivial⟩,⟨trivial,trivial⟩⟩⟩⟩⟩⟩⟩⟩ (Own.widen ho5 (by omega) (by omega)) (Own.widen ho4 (by omega) (by omega)) (Own.widen hw3 (by omega) (by omega)) (Own.widen ho3 (by omega) (by omega)) (Own.widen hw5 (by omega) (by omega)) (Own.widen hw6 (by omega) (by omega)) (Own.widen hw7 (by omega) (by omega)) (Own.widen hw8 (by omega) (by omega)))⟩
  ·refine Qy (Qh (Qi [true,false,true] Z Z (Qa (Ql Yh Z h2.at Z) Z (Qs (cs':=[v3,v2,o12,v1,o14,o15,o16,o17]) Yh Z Z Z (Qg ho5.one (Qg ho4.one (Qg hw3.one (Qg ho3.one (Qg hw5.one (Qg hw6.one (Qg hw7.one (Qg hw8.one Z)))))))) h3 (Nat.le_of_ble_eq_true Z) Z (fun w21 m10 h3'=>?_)))))
   replace h3:=h3'
   replace E:=E.step m10 (fun g hg=>by cases hg;omega);replace h1:=h1.mod m10 (fun g hg=>by cases hg;omega);replace h2:=h2.mod m10 (fun g hg=>by cases hg;omega);replace hw2:=hw2.mod m10 (fun g hg=>by cases hg;omega);replace hw3:=hw3.mod m10 (fun g hg=>by cases hg;omega);replace hw4:=hw4.mod m10 (fun g hg=>by cases hg;omega);replace hw5:=hw5.mod m10 (fun g hg=>by cases hg;omega);replace hw6:=hw6.mod m10 (fun g hg=>by cases hg;omega);replace hw7:=hw7.mod m10 (fun g hg=>by cases hg;omega);replace hw8:=hw8.mod m10 (fun g hg=>by cases hg;omega);replace h4:=h4.mod m10 (fun g hg=>by cases hg;omega);replace ho3:=ho3.mod m10 (fun g hg=>by cases hg;omega);replace ho4:=ho4.mod m10 (fun g hg=>by cases hg;omega);replace hs1:=hs1.mod m10 (fun g hg=>by cases hg;omega);replace ho5:=ho5.mod m10 (fun g hg=>by cases hg;omega)
   have z21:=m10.size
   refine Qa (Qe Z) Z (Qd (Qx (Y1 (l:=[.cell 4 33,.tmp 5]) (vs:=[.agg [v3,v2,o12,v1,o14,o15,o16,o17].toArray,.bool true]) Z ⟨.cell Z (Qv Yh h3.at Z),.tmp Z,trivial⟩ Z E ?_)))
   rw [work_n hc1 hwl hc2]
   exact ⟨_,Z,(Worker.mkO (⟨[] ++ (List.drop 1 x.queue),(Kc g x.cells (x.queue[0]'hi1)).2.1,x.inputs,(Kc g x.cells (x.queue[0]'hi1)).1,x.sums,x.black,x.caps,x.dones⟩ : Worker) ⟨⟨(Own.sep ho5 ho4 (by omega)),⟨(Own.sep ho5 hw3 (by omega)),⟨(Own.sep ho5 ho3 (by omega)),⟨(Own.sep ho5 hw5 (by omega)),⟨(Own.sep ho5 hw6 (by omega)),⟨(Own.sep ho5 hw7 (by omega)),⟨(Own.sep ho5 hw8 (by omega)),trivial⟩⟩⟩⟩⟩⟩⟩,⟨⟨(Own.sep ho4 hw3 (by omega)),⟨(sp2.1.1).symm,⟨(Own.sep ho4 hw5 (by omega)),⟨(Own.sep ho4 hw6 (by omega)),⟨(Own.sep ho4 hw7 (by omega)),⟨(Own.sep ho4 hw8 (by omega)),trivial⟩⟩⟩⟩⟩⟩,⟨⟨(Own.sep hw3 ho3 (by omega)),⟨sp1.2.2.1.2.1,⟨sp1.2.2.1.2.2.1,⟨sp1.2.2.1.2.2.2.1,⟨sp1.2.2.1.2.2.2.2.1,trivial⟩⟩⟩⟩⟩,⟨⟨(Own.sep ho3 hw5 (by omega)),⟨(Own.sep ho3 hw6 (by omega)),⟨(Own.sep ho3 hw7 (by omega)),⟨(Own.sep ho3 hw8 (by omega)),trivial⟩⟩⟩⟩,⟨⟨sp1.2.2.2.2.1.1,⟨sp1.2.2.2.2.1.2.1,⟨sp1.2.2.2.2.1.2.2.1,trivial⟩⟩⟩,⟨⟨sp1.2.2.2.2.2.1.1,⟨sp1.2.2.2.2.2.1.2.1,trivial⟩⟩,⟨⟨sp1.2.2.2.2.2.2.1.1,trivial⟩,⟨trivial,trivial⟩⟩⟩⟩⟩⟩⟩⟩ (Own.widen ho5 (by omega) (by omega)) (Own.widen ho4 (by omega) (by omega)) (Own.widen hw3 (by omega) (by omega)) (Own.widen ho3 (by omega) (by omega)) (Own.widen hw5 (by omega) (by omega)) (Own.widen hw6 (by omega) (by omega)) (Own.widen hw7 (by omega) (by omega)) (Own.widen hw8 (by omega) (by omega)))⟩

set_option maxRecDepth 20000 in
theorem s_Brought (n : Int) (a : Int) (b : Int) (w : World)  : Ct Tryz.prog 96 [.int .i64 n,.int .i64 a,.int .i64 b] w (fun v _=>v = .int .i64 (A1 n a b)):=by
 refine Yp Tryz.func96 Z Tryz.ntmps96 Z ?_
 refine Yb [(0,.int .i64 n),(1,.int .i64 a),(2,.int .i64 b)] ⟨Z,Z,Z,trivial⟩ ?_
 have E : Ext w w:=Ext.refl w
 refine Qh (Qi [true] Z Z (Qa (Qe Z) Z (Qd (Qh (Qh (Qi [true,true,true,true,true,true,true,true] Z Z (Qa (Qb Z) Z (Qa (Qb Z) Z (Qa (Xe Z Z) Z (Qa (Qb Z) Z (Xr 4 [(0,.int .i64 n),(1,.int .i64 a),(2,.int .i64 b),(6,.int .i64 0),(14,.bool ((decide (b < a)) || (decide (n < a))))] (fun w'=>w = w') ?_ ?_)))))))))))
 ·refine Yz (gd:=10) Z Z (fun hg1=>?_) (fun hg1=>?_)
  ·refine Qc Z Z Z Z (Qc Z Z Z Z (Qc Z Z Z Z (Qa (Qr Z Z) Z (Qn ⟨Z,Z,Z,Z,congrArg (fun b=>some (Value.bool b)) (show true = ((decide (b < a)) || (decide (n < a))) by first | (rw [hg1] <;> rfl) | (simp [hg1];done) | (simp only [Qq] <;> simp)),trivial⟩ Z))))
  ·refine Qm Z Z (Qb Z) Z (Qm Z Z (Qb Z) Z (Qm Z Z (Xe Z Z) Z (Qa (Qp Z Z) Z (Qn ⟨Z,Z,Z,Z,congrArg (fun b=>some (Value.bool b)) (show (decide (n < a)) = ((decide (b < a)) || (decide (n < a))) by first | (rw [hg1] <;> rfl) | (simp [hg1];done) | (simp only [Qq] <;> simp)),trivial⟩ Z))))
 rintro _ rfl
 refine Qd (Qt Z (fun hc1=>?_) (fun hc1=>?_))
 ·refine Qh (Qi [true,true] Z Z (Qa (Qb Z) Z (Qa (Qe Z) Z (Qd (Qx (Qu Z Z E ?_))))))
  rw [A1,if_pos hc1]
 ·refine Qy (Qh (Qh (Qi [true,true,true] Z Z (Qa (Qb Z) Z (Qa (Qb Z) Z (Qa (U1 Z Z) Z (Qd (Qt Z (fun hc2=>?_) (fun hc2=>?_)))))))))
  ·refine Qh (Qi [true,true] Z Z (Qa (Qb Z) Z (Qa (Qe Z) Z (Qd (Qx (Qu Z Z E ?_))))))
   rw [A1,if_neg (Td hc1),if_pos (of_decide_eq_true hc2)]
  ·refine Qy (Qh (Qi [true,true] Z Z (Qa (Qb Z) Z (Qa (Qe Z) Z (Qd (Qx (Qu Z Z E ?_)))))))
   rw [A1,if_neg (Td hc1),if_neg (of_decide_eq_false hc2)]

set_option maxRecDepth 20000 in
theorem s_l01New (vcode : Value) (code : List Byt) (w : World) (hcode : RdS w vcode code) : Ct Tryz.prog 37 [vcode] w (fun v w'=>∃ b,v = .pointer (some ⟨b,0,none⟩) ∧ w.heap.size ≤ b ∧ CurO w' b vcode code):=by
 have hmx:=hcode.1
 unfold maxLen at hmx
 refine Yp Tryz.func37 Z Tryz.ntmps37 Z ?_
 refine Yb [(0,vcode)] ⟨Z,trivial⟩ ?_
 have E : Ext w w:=Ext.refl w
 refine Qh (Qi [true] Z Z (Qa (Qe Z) Z (Qd (Qh (Qi [true,true,true,true] Z Z (Qa (Qb Z) Z (Qa (Ye Tryz.underlying22 Z (hcode.ext E).len) Z (Qa (Yu Z Z Z) Z (Qa (Qe Z) Z (Qd (Qh (Qh (Qi [true] Z Z (Qa (Qe Z) Z (Qd (Q2 (Y6 (fun (xq : Nat × Int)=>let ⟨k,hh⟩:=xq;[(0,vcode),(2,.pointer none),(3,.int .i64 hh),(4,.int .i64 ((k : Nat) : Int))]) (fun (xq : Nat × Int) w'=>let ⟨k,hh⟩:=xq;Ext w w' ∧ w.heap.size ≤ w'.heap.size ∧ k ≤ code.length) (fun (xq : Nat × Int)=>let ⟨k,hh⟩:=xq;code.length - k) (0,IntKind.i64.wrap (94701 + ((code.length : Nat) : Int))) ⟨Z,Z,Z,Z,trivial⟩ ⟨E,Nat.le_refl _,Nat.zero_le _⟩ ?_)))))))))))))))))
 clear E
 rintro ⟨k,hh⟩ w1 ⟨E,z1,hk⟩
 refine Yb [(0,vcode),(2,.pointer none),(3,.int .i64 hh),(4,.int .i64 ((k : Nat) : Int))] ⟨Z,Z,Z,Z,trivial⟩ ?_
 refine Qh (Qh (Qi [true,true,true,true,true,true,true,true] Z Z (Qa (Qb Z) Z (Qa (Qb Z) Z (Qa (Ye Tryz.underlying22 Z (hcode.ext E).len) Z (Qa (Xe Z Z) Z (Qa (Qb Z) Z (Xr 3 [(0,vcode),(2,.pointer none),(3,.int .i64 hh),(4,.int .i64 ((k : Nat) : Int)),(15,.bool ((decide (((k : Nat) : Int) < ((code.length : Nat) : Int))) && (decide (((k : Nat) : Int) < 4000))))] (fun w'=>w1 = w') ?_ ?_))))))))
 ·refine Yz (gd:=12) Z Z (fun hg1=>?_) (fun hg1=>?_)
  ·have hg1n : k < code.length:=by first | (have h:=of_decide_eq_true hg1;omega) | (have h:=hg1;simp at h;omega)
   refine Qm Z Z (Qb Z) Z (Qm Z Z (Xe Z Z) Z (Qa (Qr Z Z) Z (Qn ⟨Z,Z,Z,Z,congrArg (fun b=>some (Value.bool b)) (show (decide (((k : Nat) : Int) < 4000)) = ((decide (((k : Nat) : Int) < ((code.length : Nat) : Int))) && (decide (((k : Nat) : Int) < 4000))) by first | (rw [hg1] <;> rfl) | (simp [hg1];done) | (simp only [Qq] <;> simp)),trivial⟩ Z)))
  ·have hg1n : ¬ k < code.length:=by first | (have h:=of_decide_eq_false hg1;omega) | (have h:=hg1;simp at h;omega)
   refine Qc Z Z Z Z (Qc Z Z Z Z (Qa (Qp Z Z) Z (Qn ⟨Z,Z,Z,Z,congrArg (fun b=>some (Value.bool b)) (show false = ((decide (((k : Nat) : Int) < ((code.length : Nat) : Int))) && (decide (((k : Nat) : Int) < 4000))) by first | (rw [hg1] <;> rfl) | (simp [hg1];done) | (simp only [Qq] <;> simp)),trivial⟩ Z)))
 rintro _ rfl
 refine Qd (Qt Z (fun hc1=>?_) (fun hc1=>?_))
 ·have hlt : k < code.length:=by have h:=(Bool.and_eq_true _ _ ▸ hc1).1;have h2:=of_decide_eq_true h;omega
  refine Qy (Qh (Q2 (Qi [true,true,true,true,true,true,true,true,true,true,true] Z Z (Qa (Qb Z) Z (Qa (R_mul Z Z Z) Z (Qa (Qb Z) Z (Qa (Qb Z) Z ?_)))))))
  have hi1 : k < code.length:=(by first | assumption | omega | (simp only [List.length_set];first | assumption | omega) | (simp only [List.getElem_set_self,List.length_set];first | assumption | omega) | (simp only [Y3,Yj,List.length_set];first | assumption | omega) | (simp;done))
  refine Qa (Q5 (i:=k) sl22 Z Z (hcode.ext E) hi1) Z (Qa (Qk sc5 Z (((hcode.ext E).get hi1).one 0 Z)) Z (Qa (R_conv Tryz.underlying5 Tryz.underlying3 Z) Z (Qa (Yu Z Z Z) Z (Qa (Yu Z Z Z) Z (Qa (R_and Z Z) Z (Qa (Qe Z) Z (Qd (Q4 (Yn (Qi [true,true,true] Z Z (Qa (Qb Z) Z (Qa (Yu Z Z (Ku (by unfold maxLen;omega))) Z (Qa (Qe Z) Z (Qd (Q4 (Yg (k + 1,andB .i64 (IntKind.i64.wrap ((IntKind.i64.wrap ((IntKind.i64.wrap (hh * 131)) + (IntKind.i64.wrap ((code[k]'hi1).v)))) + 7)) 1073741823) (by simp;omega) ⟨Z,Z,Z,Z,trivial⟩ ⟨E,(by omega),(by omega)⟩))))))))))))))))
 ·refine Y5 (Yc (Q8 ?_))
  refine Qh (Qi [true,true,true,false,true] Z Z (Qa (Qb Z) Z (Qa (Qb Z) Z ?_)))
  have hbl1 : ∀ w,(Instr.build 89 ([(0,vcode),(2,.int .i64 hh)]).toArray).run Tryz.prog w = .ok (.agg [vcode,.int .i64 0,.int .i64 hh].toArray) w:=by clear E;obtain ⟨_,_,_,rfl⟩:=SlLen.shape (RdL.len hcode);intro w;kernel_rfl
  refine Qa (Ko [vcode,.int .i64 0,.int .i64 hh] Z hbl1) Z (Xb Z Z (fun b1 w3 e1 s1 h1=>?_))
  have g_b1 : w.heap.size ≤ b1:=by have:=E.size;omega
  have y_b1:=h1.lt
  replace E:=E.trans e1
  have z2:=e1.size
  refine Qa (Qe Z) Z (Qd (Qx (Qu Z Z E ?_)))
  exact ⟨_,Z,(by omega),0,_,h1,Nat.zero_le _⟩

set_option maxRecDepth 20000 in
theorem s_l01Byte (lo : Nat) (vb : Value) (bs : List Byt) (w : World) (hcu : CurO w lo vb bs) (hbs : RdD w 0 lo vb bs) : CtR Tryz.prog 82 [.pointer (some ⟨lo,0,none⟩)] w lo (lo + 1) (fun v w'=>∃ (dr0 : Int),0 ≤ dr0 ∧ dr0 ≤ 255 ∧ CurO w' lo vb bs ∧ v = .int .i64 dr0):=by
 have y_lo:=CurO.lt hcu
 refine Vb Tryz.func82 Z Tryz.ntmps82 Z ?_
 obtain ⟨icu,hcn,hblk,hicu⟩:=hcu
 refine Yb [(0,.pointer (some ⟨lo,0,none⟩))] ⟨Z,trivial⟩ ?_
 have E : ModR w w lo (lo + 1):=ModR.refl w lo (lo + 1)
 refine Qh (Qi [true] Z Z (Qa (Qe Z) Z (Qd (Qh (Qi [true,true,true,true,true,true,true,true,true,false] Z Z (Qa (Qb Z) Z (Qa (Qb Z) Z (Qa (K2 Z) Z (Qa (Qf fl89_2 Z) Z (Qa (Qk Xi Z (hblk.one 2 Z)) Z (Qa (R_mul Z Z Z) Z (Qa (Yu Z Z Z) Z (Qa (K2 Z) Z (Qa (Qf fl89_2 Z) Z (Xf (cs':=[vb,.int .i64 ((icu : Nat) : Int),.int .i64 (IntKind.i64.wrap ((IntKind.i64.wrap (hcn * 6364136223846793005)) + 1442695040888963407))]) Xi Z Z Z hblk (Nat.le_of_ble_eq_true Z) Z (fun w1 m1 hblk'=>?_))))))))))))))))
 replace hblk:=hblk'
 replace E:=E.mod m1 (fun g hg=>by cases hg;omega);replace hbs:=hbs.mod m1 (fun g hg=>by cases hg;omega)
 have z1:=m1.size
 refine Qd (Qh (Xk Xd [(0,true),(1,true),(2,true),(3,true),(4,true),(5,true),(6,true),(7,true),(8,true),(9,true),(10,true),(11,true),(12,true)] (by decide +kernel) Z (fun w2 e1=>?_)))
 replace E:=E.ext e1;replace hblk:=hblk.ext e1;replace hbs:=hbs.ext e1
 have z2:=e1.size
 refine Qa (Qb Z) Z (Qa (K2 Z) Z (Qa (Qf fl89_2 Z) Z (Qa (Qk Xi Z (hblk.one 2 Z)) Z (Qa (R_shr Z Z (by decide)) Z (Qa (Qb Z) Z (Qa (K2 Z) Z (Qa (Qf fl89_2 Z) Z (Qa (Qk Xi Z (hblk.one 2 Z)) Z (Qa (R_shr Z Z (by decide)) Z (Qa (R_xor Z Z) Z (Qa (R_and Z Z) Z (Qa (Qe Z) Z (Qd (Qh (Qh (Xk Xd [(0,true),(1,true),(2,true),(3,true),(4,true),(5,true),(6,true),(7,true),(8,true),(9,true)] (by decide +kernel) Z (fun w3 e2=>?_)))))))))))))))))
 replace E:=E.ext e2;replace hblk:=hblk.ext e2;replace hbs:=hbs.ext e2
 have z3:=e2.size
 refine Qa (Qb Z) Z (Qa (K2 Z) Z (Qa (Qf fl89_1 Z) Z (Qa (Qk Xi Z (hblk.one 1 Z)) Z (Qa (Qb Z) Z (Qa (K2 Z) Z (Qa (Qf fl89_0 Z) Z (Qa (Qk sc22 Z (hblk.one 0 Z)) Z (Qa (Ye Tryz.underlying22 Z hbs.len) Z (Qa (Xe Z Z) Z (Qd (Qt Z (fun hc1=>?_) (fun hc1=>?_))))))))))))
 ·have hc1n : icu < bs.length:=by first | (have h:=of_decide_eq_true hc1;omega) | (have h:=hc1;simp at h;omega)
  refine Qh (Xk Xd [(0,true),(1,true),(2,true),(3,true),(4,true),(5,true),(6,true),(7,true),(8,true),(9,true),(10,true),(11,true),(12,true),(13,true),(14,true)] (by decide +kernel) Z (fun w4 e3=>?_))
  replace E:=E.ext e3;replace hblk:=hblk.ext e3;replace hbs:=hbs.ext e3
  have z4:=e3.size
  refine Qa (Qb Z) Z (Qa (Qb Z) Z (Qa (K2 Z) Z (Qa (Qf fl89_0 Z) Z (Qa (Qk sc22 Z (hblk.one 0 Z)) Z (Qa (Qb Z) Z (Qa (K2 Z) Z (Qa (Qf fl89_1 Z) Z (Qa (Qk Xi Z (hblk.one 1 Z)) Z ?_))))))))
  have hi1 : icu < bs.length:=(by first | assumption | omega | (simp only [List.length_set];first | assumption | omega) | (simp only [List.getElem_set_self,List.length_set];first | assumption | omega) | (simp only [Y3,Yj,List.length_set];first | assumption | omega) | (simp;done))
  refine Qa (Q5 (i:=icu) sl22 Z Z (RdD.rd hbs) hi1) Z (Qa (Qk sc5 Z (((RdD.rd hbs).get hi1).one 0 Z)) Z (Qa (R_conv Tryz.underlying5 Tryz.underlying3 Z) Z (Qa (Yu Z Z Z) Z (Qa (R_and Z Z) Z (Qa (Qe Z) Z (Qd (Qi [true,true,true,true,true,true,true,true,false] Z Z (Qa (Qb Z) Z (Qa (Qb Z) Z (Qa (K2 Z) Z (Qa (Qf fl89_1 Z) Z (Qa (Qk Xi Z (hblk.one 1 Z)) Z (Qa (Yu Z Z (Yw hc1n hbs.1.1)) Z (Qa (K2 Z) Z (Qa (Qf fl89_1 Z) Z (Xf (cs':=[vb,.int .i64 ((icu + 1 : Nat) : Int),.int .i64 (IntKind.i64.wrap ((IntKind.i64.wrap (hcn * 6364136223846793005)) + 1442695040888963407))]) Xi Z Z Z hblk (Nat.le_of_ble_eq_true Z) Z (fun w5 m2 hblk'=>?_)))))))))))))))))
  replace hblk:=hblk'
  replace E:=E.mod m2 (fun g hg=>by cases hg;omega);replace hbs:=hbs.mod m2 (fun g hg=>by cases hg;omega)
  have z5:=m2.size
  refine Qd (Qh (Qi [true,true] Z Z (Qa (Qb Z) Z (Qa (Qe Z) Z (Qd (Qx (Qu Z Z E ?_)))))))
  exact ⟨(andB .i64 (IntKind.i64.wrap ((andB .i64 (xorB .i64 (shrB .i64 (IntKind.i64.wrap ((IntKind.i64.wrap (hcn * 6364136223846793005)) + 1442695040888963407)) 33) (shrB .i64 (IntKind.i64.wrap ((IntKind.i64.wrap (hcn * 6364136223846793005)) + 1442695040888963407)) 45)) 255) + (IntKind.i64.wrap ((bs[icu]'hi1).v)))) 255),(T0 _).1,(T0 _).2,⟨icu + 1,_,hblk,(by omega)⟩,Z⟩
 ·have hc1n : ¬ icu < bs.length:=by first | (have h:=of_decide_eq_false hc1;omega) | (have h:=hc1;simp at h;omega)
  refine Qy (Qh (Qi [true,true] Z Z (Qa (Qb Z) Z (Qa (Qe Z) Z (Qd (Qx (Qu Z Z E ?_)))))))
  exact ⟨(andB .i64 (xorB .i64 (shrB .i64 (IntKind.i64.wrap ((IntKind.i64.wrap (hcn * 6364136223846793005)) + 1442695040888963407)) 33) (shrB .i64 (IntKind.i64.wrap ((IntKind.i64.wrap (hcn * 6364136223846793005)) + 1442695040888963407)) 45)) 255),(T0 _).1,(T0 _).2,⟨icu,_,hblk,(by omega)⟩,Z⟩

set_option maxRecDepth 20000 in
theorem s_l01Below (lo : Nat) (vb : Value) (bs : List Byt) (n : Int) (w : World) (hcu : CurO w lo vb bs) (hbs : RdD w 0 lo vb bs) : CtR Tryz.prog 66 [.pointer (some ⟨lo,0,none⟩),.int .i64 n] w lo (lo + 1) (fun v w'=>∃ (dr0 : Nat),(0 < n → ((dr0 : Nat) : Int) < n) ∧ (n ≤ 0 → dr0 = 0) ∧ CurO w' lo vb bs ∧ v = .int .i64 ((dr0 : Nat) : Int)):=by
 have y_lo:=CurO.lt hcu
 refine Vb Tryz.func66 Z Tryz.ntmps66 Z ?_
 refine Yb [(0,.pointer (some ⟨lo,0,none⟩)),(1,.int .i64 n)] ⟨Z,Z,trivial⟩ ?_
 have E : ModR w w lo (lo + 1):=ModR.refl w lo (lo + 1)
 refine Qh (Qi [true] Z Z (Qa (Qe Z) Z (Qd (Qh (Qh (Qi [true,true] Z Z (Qa (Qb Z) Z (Qa (H8 Z Z) Z (Qd (Qt Z (fun hc1=>?_) (fun hc1=>?_)))))))))))
 ·have hnp : n ≤ 0:=by exact of_decide_eq_true hc1
  refine Qh (Qi [true] Z Z (Qa (Qe Z) Z (Qd (Qx (Qu Z Z E ?_)))))
  exact ⟨0,(fun h=>by omega),(fun _=>rfl),hcu,Z⟩
 ·have hnp : ¬ n ≤ 0:=by exact of_decide_eq_false hc1
  refine Qy (Qh (Qh (Qi [true,true] Z Z (Qa (Qb Z) Z (Qa (H8 Z Z) Z (Qd (Qt Z (fun hc2=>?_) (fun hc2=>?_))))))))
  ·refine Qh (Qi [true,false,true,true,true] Z Z (Qa (Qb Z) Z (Yf Tryz.call82 Z Z (s_l01Byte lo vb bs _ hcu (RdD.modR hbs E (.inl (Nat.le_refl _)))) Z (fun _ w1 e1 hv=>?_))))
   obtain ⟨dx1,q1,q2,hcu',hv⟩:=hv
   replace hcu:=hcu'
   subst hv
   replace E:=E.trans e1 (by omega) (by omega)
   have z1:=e1.size
   refine Qa (Qb Z) Z (Qa (R_rem Z Z (by omega) Z) Z (Qa (Qe Z) Z (Qd (Qx (Qu Z Z E ?_)))))
   have htm:=tmod_nat (n:=n) q1 hnp
   exact ⟨_,(fun _=>by rw [htm.1];exact htm.2),(fun h=>absurd h hnp),hcu,congrArg (Value.int .i64) htm.1.symm⟩
  ·refine Qy (Qh (Qi [true,false,true] Z Z (Qa (Qb Z) Z (Yf Tryz.call82 Z Z (s_l01Byte lo vb bs _ hcu (RdD.modR hbs E (.inl (Nat.le_refl _)))) Z (fun _ w2 e2 hv=>?_)))))
   obtain ⟨dx2,q3,q4,hcu',hv⟩:=hv
   replace hcu:=hcu'
   subst hv
   replace E:=E.trans e2 (by omega) (by omega)
   have z2:=e2.size
   refine Qa (Qe Z) Z (Qd (Qh (Qi [true,false,true] Z Z (Qa (Qb Z) Z (Yf Tryz.call82 Z Z (s_l01Byte lo vb bs _ hcu (RdD.modR hbs E (.inl (Nat.le_refl _)))) Z (fun _ w3 e3 hv=>?_))))))
   obtain ⟨dx3,q5,q6,hcu',hv⟩:=hv
   replace hcu:=hcu'
   subst hv
   replace E:=E.trans e3 (by omega) (by omega)
   have z3:=e3.size
   refine Qa (Qe Z) Z (Qd (Qh (Qi [true,false,true] Z Z (Qa (Qb Z) Z (Yf Tryz.call82 Z Z (s_l01Byte lo vb bs _ hcu (RdD.modR hbs E (.inl (Nat.le_refl _)))) Z (fun _ w4 e4 hv=>?_))))))
   obtain ⟨dx4,q7,q8,hcu',hv⟩:=hv
   replace hcu:=hcu'
   subst hv
   replace E:=E.trans e4 (by omega) (by omega)
   have z4:=e4.size
   refine Qa (Qe Z) Z (Qd (Qh (Qi [true,false,true] Z Z (Qa (Qb Z) Z (Yf Tryz.call82 Z Z (s_l01Byte lo vb bs _ hcu (RdD.modR hbs E (.inl (Nat.le_refl _)))) Z (fun _ w5 e5 hv=>?_))))))
   obtain ⟨dx5,q9,q10,hcu',hv⟩:=hv
   replace hcu:=hcu'
   subst hv
   replace E:=E.trans e5 (by omega) (by omega)
   have z5:=e5.size
   refine Qa (Qe Z) Z (Qd (Qh (Qi [true,true,true,true,true,true,true,true,true,true,true,true,true] Z Z (Qa (Qb Z) Z (Qa (R_mul Z Z Z) Z (Qa (Qb Z) Z (Qa (R_mul Z Z Z) Z (Qa (Yu Z Z Z) Z (Qa (Qb Z) Z (Qa (R_mul Z Z Z) Z (Qa (Yu Z Z Z) Z (Qa (Qb Z) Z (Qa (Yu Z Z Z) Z (Qa (Qb Z) Z (Qa (R_rem Z Z (by omega) Z) Z (Qa (Qe Z) Z (Qd (Qx (Qu Z Z E ?_)))))))))))))))))))
   have htm:=tmod_nat (n:=n) (four_nn q3 q4 q5 q6 q7 q8 q9 q10) hnp
   exact ⟨_,(fun _=>by rw [htm.1];exact htm.2),(fun h=>absurd h hnp),hcu,congrArg (Value.int .i64) htm.1.symm⟩

set_option maxRecDepth 20000 in
theorem s_l01Once (lo : Nat) (vb : Value) (bs : List Byt) (n : Int) (w : World) (hcu : CurO w lo vb bs) (hbs : RdD w 0 lo vb bs) : CtR Tryz.prog 40 [.pointer (some ⟨lo,0,none⟩),.int .i64 n] w lo (lo + 1) (fun v w'=>∃ (dr0 : Bool),CurO w' lo vb bs ∧ v = .bool dr0):=by
 have y_lo:=CurO.lt hcu
 refine Vb Tryz.func40 Z Tryz.ntmps40 Z ?_
 refine Yb [(0,.pointer (some ⟨lo,0,none⟩)),(1,.int .i64 n)] ⟨Z,Z,trivial⟩ ?_
 have E : ModR w w lo (lo + 1):=ModR.refl w lo (lo + 1)
 refine Qh (Qi [true] Z Z (Qa (Qe Z) Z (Qd (Qh (Qi [true,true,false,true,true] Z Z (Qa (Qb Z) Z (Qa (Qb Z) Z (Yf Tryz.call66 Z Z (s_l01Below lo vb bs n _ hcu (RdD.modR hbs E (.inl (Nat.le_refl _)))) Z (fun _ w1 e1 hv=>?_)))))))))
 obtain ⟨dx1,q1,q2,hcu',hv⟩:=hv
 replace hcu:=hcu'
 subst hv
 replace E:=E.trans e1 (by omega) (by omega)
 have z1:=e1.size
 refine Qa (Y9 Z Z) Z (Qa (Qe Z) Z (Qd (Qx (Qu Z Z E ?_))))
 exact ⟨(((dx1 : Nat) : Int) == 0),hcu,Z⟩

set_option maxRecDepth 20000 in
theorem s_l01PickInt (lo : Nat) (vb : Value) (bs : List Byt) (vxs : Value) (xs : List Int) (w : World) (hcu : CurO w lo vb bs) (hbs : RdD w 0 lo vb bs) (hxs : Stab w lo (fun w'=>RdS w' vxs xs)) (hne : 0 < xs.length) : CtR Tryz.prog 70 [.pointer (some ⟨lo,0,none⟩),vxs] w lo (lo + 1) (fun v w'=>∃ (dr0 : Int),dr0 ∈ xs ∧ CurO w' lo vb bs ∧ v = .int .i64 dr0):=by
 have y_lo:=CurO.lt hcu
 refine Vb Tryz.func70 Z Tryz.ntmps70 Z ?_
 refine Yb [(0,.pointer (some ⟨lo,0,none⟩)),(1,vxs)] ⟨Z,Z,trivial⟩ ?_
 have E : ModR w w lo (lo + 1):=ModR.refl w lo (lo + 1)
 refine Qh (Qi [true] Z Z (Qa (Qe Z) Z (Qd (Qh (Qi [true,true,true,true,false,true,true,true] Z Z (Qa (Qb Z) Z (Qa (Qb Z) Z (Qa (Qb Z) Z (Qa (Ye Tryz.underlying29 Z (hxs _ E).len) Z (Yf Tryz.call66 Z Z (s_l01Below lo vb bs ((xs.length : Nat) : Int) _ hcu (RdD.modR hbs E (.inl (Nat.le_refl _)))) Z (fun _ w1 e1 hv=>?_)))))))))))
 obtain ⟨dx1,q1,q2,hcu',hv⟩:=hv
 replace hcu:=hcu'
 subst hv
 replace E:=E.trans e1 (by omega) (by omega)
 have z1:=e1.size
 have hi1 : dx1 < xs.length:=(by first | assumption | omega | (simp only [List.length_set];first | assumption | omega) | (simp only [List.getElem_set_self,List.length_set];first | assumption | omega) | (simp only [Y3,Yj,List.length_set];first | assumption | omega) | (simp;done))
 refine Qa (Q5 (i:=dx1) Kd Z Z (hxs _ E) hi1) Z (Qa (Qk Xi Z (((hxs _ E).get hi1).one 0 Z)) Z (Qa (Qe Z) Z (Qd (Qx (Qu Z Z E ?_)))))
 exact ⟨(xs[dx1]'hi1),(List.getElem_mem _),hcu,Z⟩

set_option maxRecDepth 20000 in
theorem l_sameCells (vxs : Value) (xs : List Cell) (vys : Value) (ys : List Cell) (w : World) (hxs : RdS w vxs xs) (hys : RdS w vys ys) : Ct Tryz.prog 52 [vxs,vys] w (fun v _=>v = .bool (decide (xs = ys))):=by
 refine Yp Tryz.func52 Z Tryz.ntmps52 Z ?_
 refine Yb [(0,vxs),(1,vys)] ⟨Z,Z,trivial⟩ ?_
 have E : Ext w w:=Ext.refl w
 refine Qh (Qi [true] Z Z (Qa (Qe Z) Z (Qd (Qh (Qh (Qi [true,true,true,true,true] Z Z (Qa (Qb Z) Z (Qa (Ye Tryz.underlying28 Z (hxs.ext E).len) Z (Qa (Qb Z) Z (Qa (Ye Tryz.underlying28 Z (hys.ext E).len) Z (Qa (X1 Z Z) Z (Qd (Qt Z (fun hc1=>?_) (fun hc1=>?_))))))))))))))
 ·have hc1n : ¬ xs.length = ys.length:=by first | (have h:=of_decide_eq_true hc1;omega) | (have h:=hc1;simp at h;omega)
  refine Qh (Qi [true] Z Z (Qa (Qe Z) Z (Qd (Qx (Qu Z Z E ?_)))))
  simp [V6 hc1n]
 ·have hc1n : xs.length = ys.length:=by first | (have h:=of_decide_eq_false hc1;omega) | (have h:=hc1;simp at h;omega)
  refine Qy (Qh (Qh (Qi [true] Z Z (Qa (Qe Z) Z (Qd (Q2 (Y6 (fun (k : Nat)=>[(0,vxs),(1,vys),(4,.bool false),(5,.int .i64 ((k : Nat) : Int))]) (fun (k : Nat) w'=>Ext w w' ∧ w.heap.size ≤ w'.heap.size ∧ k ≤ xs.length ∧ xs.take k = ys.take k) (fun (k : Nat)=>xs.length - k) 0 ⟨Z,Z,Z,Z,trivial⟩ ⟨E,Nat.le_refl _,Nat.zero_le _,Z⟩ ?_)))))))
  clear E
  rintro k w1 ⟨E,z1,hk,hp⟩
  refine Qh (Qh (Qi [true,true,true,true] Z Z (Qa (Qb Z) Z (Qa (Qb Z) Z (Qa (Ye Tryz.underlying28 Z (hxs.ext E).len) Z (Qa (Xe Z Z) Z (Qd (Qt Z (fun hc2=>?_) (fun hc2=>?_)))))))))
  ·have hc2n : k < xs.length:=by first | (have h:=of_decide_eq_true hc2;omega) | (have h:=hc2;simp at h;omega)
   refine Qy (Qh (Q2 (Qh (Xk Xd [(0,true),(1,true),(2,true),(3,true),(4,true),(5,true),(6,true),(7,true),(8,true)] (by decide +kernel) Z (fun w2 e1=>?_)))))
   replace E:=E.trans e1
   have z2:=e1.size
   refine Qa (Qb Z) Z (Qa (Qb Z) Z ?_)
   have hi1 : k < xs.length:=(by first | assumption | omega | (simp only [List.length_set];first | assumption | omega) | (simp only [List.getElem_set_self,List.length_set];first | assumption | omega) | (simp only [Y3,Yj,List.length_set];first | assumption | omega) | (simp;done))
   refine Qa (Q5 (i:=k) K3 Z Z (hxs.ext E) hi1) Z (Qa (Ql Vx Z ((hxs.ext E).get hi1) Z) Z (Qa (Qb Z) Z (Qa (Qb Z) Z ?_)))
   have hi2 : k < ys.length:=(by first | assumption | omega | (simp only [List.length_set];first | assumption | omega) | (simp only [List.getElem_set_self,List.length_set];first | assumption | omega) | (simp only [Y3,Yj,List.length_set];first | assumption | omega) | (simp;done))
   refine Qa (Q5 (i:=k) K3 Z Z (hys.ext E) hi2) Z (Qa (Ql Vx Z ((hys.ext E).get hi2) Z) Z (Qa (G5 (ne76 (xs[k]'hi1) (ys[k]'hi2)) eqg76 Z Z) Z (Qd (Qt Z (fun hc3=>?_) (fun hc3=>?_)))))
   ·refine Qh (Qi [true] Z Z (Qa (Qe Z) Z (Qd (Qx (Q0 (Yy (Q0 (Qu Z Z E ?_))))))))
    exact V7 (by omega) (by omega) (by simpa using hc3)
   ·refine Qy (Q4 (Yn (Qi [true,true,true] Z Z (Qa (Qb Z) Z (Qa (Yu Z Z (Yw hc2n hxs.1)) Z (Qa (Qe Z) Z (Qd (Q4 (Yg (k + 1) (by omega) ⟨Z,Z,Z,Z,trivial⟩ ⟨E,(by omega),(by omega),Uo hp (by assumption) (by omega) (by simpa using hc3)⟩)))))))))
  ·have hc2n : ¬ k < xs.length:=by first | (have h:=of_decide_eq_false hc2;omega) | (have h:=hc2;simp at h;omega)
   refine Y5 (Yc (Q8 ?_))
   refine Qh (Qi [true] Z Z (Qa (Qe Z) Z (Qd (Qx (Qu Z Z E ?_)))))
   exact U9 hp hc1n (by omega)

set_option maxRecDepth 20000 in
theorem l_big (vcode : Value) (code : List Byt) (w : World) (hcode : RdS w vcode code) : Ct Tryz.prog 4 [vcode] w (fun v _=>v = .bool (decide (((code.length : Nat) : Int) > 1048576))):=by
 refine Yp Tryz.func4 Z Tryz.ntmps4 Z ?_
 refine Yb [(0,vcode)] ⟨Z,trivial⟩ ?_
 have E : Ext w w:=Ext.refl w
 refine Qh (Qi [true] Z Z (Qa (Qe Z) Z (Qd (Qh (Qi [true,true,true,true] Z Z (Qa (Qb Z) Z (Qa (Ye Tryz.underlying22 Z (hcode.ext E).len) Z (Qa (U1 Z Z) Z (Qa (Qe Z) Z (Qd (Qx (Qu Z Z E ?_))))))))))))
 rfl

set_option maxHeartbeats 4000000 in
set_option maxRecDepth 20000 in
theorem s_l08Graph (lo : Nat) (vb : Value) (bs : List Byt) (w : World) (hcu : CurO w lo vb bs) (hbs : RdD w 0 lo vb bs) : CtR Tryz.prog 38 [.pointer (some ⟨lo,0,none⟩)] w lo (lo + 1) (fun v w'=>∃ (dr0 : Graph),smG dr0 ∧ 6 ≤ dr0.nodes.length ∧ (∀ y ∈ dr0.nodes,y.outs.length ≤ 2) ∧ CurO w' lo vb bs ∧ ∃ o,v = .agg [o,.int .i64 dr0.workers,.int .i64 dr0.cap].toArray ∧ OwS w' w.heap.size w'.heap.size o dr0.nodes):=by
 have y_lo:=CurO.lt hcu
 refine Vb Tryz.func38 Z Tryz.ntmps38 Z ?_
 refine Yb [(0,.pointer (some ⟨lo,0,none⟩))] ⟨Z,trivial⟩ ?_
 have E : ModR w w lo (lo + 1):=ModR.refl w lo (lo + 1)
 refine Qh (Qi [false] Z Z (Yd Xz Z (fun b1 w1 e1 s1 h1=>?_)))
 have g_b1 : w.heap.size ≤ b1:=by have:=E.size;omega
 have y_b1:=h1.lt
 replace E:=E.ext e1;replace hcu:=hcu.ext e1
 have z1:=e1.size
 refine Qd (Qh (Qi [true,false,true,true,false,true,true,false,false] Z Z (Qa (Qb Z) Z (Yf Tryz.call66 Z Z (s_l01Below lo vb bs 3 _ hcu (RdD.modR hbs E (.inl (Nat.le_refl _)))) Z (fun _ w2 e2 hv=>?_)))))
 obtain ⟨dx1,q1,q2,hcu',hv⟩:=hv
 replace hcu:=hcu'
 subst hv
 replace E:=E.trans e2 (by omega) (by omega);replace h1:=h1.modR e2 (by omega)
 have z2:=e2.size
 refine Qa (Yu Z Z Z) Z (Qa (Qb Z) Z (Yf Tryz.call66 Z Z (s_l01Below lo vb bs 3 _ hcu (RdD.modR hbs E (.inl (Nat.le_refl _)))) Z (fun _ w3 e3 hv=>?_)))
 obtain ⟨dx2,q3,q4,hcu',hv⟩:=hv
 replace hcu:=hcu'
 subst hv
 replace E:=E.trans e3 (by omega) (by omega);replace h1:=h1.modR e3 (by omega)
 have z3:=e3.size
 refine Qa (Yu Z Z Z) Z ?_
 have hbl1 : ∀ w,(Instr.build 26 ([(1,.int .i64 (IntKind.i64.wrap (1 + ((dx1 : Nat) : Int)))),(2,.int .i64 (IntKind.i64.wrap (1 + ((dx2 : Nat) : Int))))]).toArray).run Tryz.prog w = .ok (.agg [.slice none 0 0,.int .i64 (IntKind.i64.wrap (1 + ((dx1 : Nat) : Int))),.int .i64 (IntKind.i64.wrap (1 + ((dx2 : Nat) : Int)))].toArray) w:=by clear E;intro w;kernel_rfl
 refine Qa (Ko [.slice none 0 0,.int .i64 (IntKind.i64.wrap (1 + ((dx1 : Nat) : Int))),.int .i64 (IntKind.i64.wrap (1 + ((dx2 : Nat) : Int)))] Z hbl1) Z (Yd Xz Z (fun b2 w4 e4 s2 h2=>?_))
 have g_b2 : w.heap.size ≤ b2:=by have:=E.size;omega
 have y_b2:=h2.lt
 replace E:=E.ext e4;replace hcu:=hcu.ext e4;replace h1:=h1.ext e4
 have z4:=e4.size
 refine Qs (cs':=[.slice none 0 0,.int .i64 (IntKind.i64.wrap (1 + ((dx1 : Nat) : Int))),.int .i64 (IntKind.i64.wrap (1 + ((dx2 : Nat) : Int)))]) Xz Z Z Z Z h2 (Nat.le_of_ble_eq_true Z) Z (fun w5 m1 h2'=>?_)
 replace h2:=h2'
 replace E:=E.mod m1 (fun g hg=>by cases hg;omega);replace hcu:=hcu.mod m1 (fun g hg=>by cases hg;omega);replace h1:=h1.mod m1 (fun g hg=>by cases hg;omega)
 have z5:=m1.size
 refine Qd (Qh (Qi [false,true,false,false] Z Z (Qz (vs:=[.int .i64 2,.int .i64 5]) (css:=[[.int .i64 2],[.int .i64 5]]) Kd Z Z ⟨⟨Z,Z⟩,⟨Z,Z⟩,trivial⟩ Z Z (fun b3 w6 e5 s3 h3=>?_))))
 replace h3 : Blk w6 b3 [.int .i64 2,.int .i64 5]:=h3
 have g_b3 : w.heap.size ≤ b3:=by have:=E.size;omega
 have y_b3:=h3.lt
 replace E:=E.ext e5;replace hcu:=hcu.ext e5;replace h1:=h1.ext e5;replace h2:=h2.ext e5
 have z6:=e5.size
 have hbl2 : ∀ w,(Instr.build 91 ([(0,.int .i64 5),(3,.slice (some ⟨b3,0,none⟩) 2 2)]).toArray).run Tryz.prog w = .ok (.agg [.int .i64 5,.int .i64 0,.int .i64 0,.slice (some ⟨b3,0,none⟩) 2 2].toArray) w:=by clear E;intro w;kernel_rfl
 refine Qa (Ko [.int .i64 5,.int .i64 0,.int .i64 0,.slice (some ⟨b3,0,none⟩) 2 2] Z hbl2) Z (Yd K9 Z (fun b4 w7 e6 s4 h4=>?_))
 have g_b4 : w.heap.size ≤ b4:=by have:=E.size;omega
 have y_b4:=h4.lt
 replace E:=E.ext e6;replace hcu:=hcu.ext e6;replace h1:=h1.ext e6;replace h2:=h2.ext e6;replace h3:=h3.ext e6
 have z7:=e6.size
 refine Qs (cs':=[.int .i64 5,.int .i64 0,.int .i64 0,.slice (some ⟨b3,0,none⟩) 2 2]) K9 Z Z Z (Qg Z (Qg Z (Qg Z (Qg Z Z)))) h4 (Nat.le_of_ble_eq_true Z) Z (fun w8 m2 h4'=>?_)
 replace h4:=h4'
 replace E:=E.mod m2 (fun g hg=>by cases hg;omega);replace hcu:=hcu.mod m2 (fun g hg=>by cases hg;omega);replace h1:=h1.mod m2 (fun g hg=>by cases hg;omega);replace h2:=h2.mod m2 (fun g hg=>by cases hg;omega);replace h3:=h3.mod m2 (fun g hg=>by cases hg;omega)
 have z8:=m2.size
 refine Qd (Qh (Qh (Qi [true,false] Z Z (Qa (Qb Z) Z (Yf Tryz.call40 Z Z (s_l01Once lo vb bs 3 _ hcu (RdD.modR hbs E (.inl (Nat.le_refl _)))) Z (fun _ w9 e7 hv=>?_))))))
 obtain ⟨dx3,hcu',hv⟩:=hv
 replace hcu:=hcu'
 subst hv
 replace E:=E.trans e7 (by omega) (by omega);replace h1:=h1.modR e7 (by omega);replace h2:=h2.modR e7 (by omega);replace h3:=h3.modR e7 (by omega);replace h4:=h4.modR e7 (by omega)
 have z9:=e7.size
 refine Qd (S_cutG (fun (gk : Int)=>[(0,.pointer (some ⟨lo,0,none⟩)),(2,.pointer (some ⟨b1,0,none⟩)),(3,.pointer (some ⟨b2,0,none⟩)),(4,.pointer (some ⟨b4,0,none⟩))]) (fun (gk : Int) w'=>ModR w w' lo (lo + 1) ∧ w9.heap.size ≤ w'.heap.size ∧ CurO w' lo vb bs ∧ Blk w' b1 [.slice none 0 0,.int .i64 0,.int .i64 0] ∧ Blk w' b2 [.slice none 0 0,.int .i64 (IntKind.i64.wrap (1 + ((dx1 : Nat) : Int))),.int .i64 (IntKind.i64.wrap (1 + ((dx2 : Nat) : Int)))] ∧ Blk w' b3 [.int .i64 2,.int .i64 5] ∧ Blk w' b4 [.int .i64 gk,.int .i64 0,.int .i64 0,.slice (some ⟨b3,0,none⟩) 2 2]) ?_ ?_)
 ·refine Qt Z (fun hc1=>?_) (fun hc1=>?_)
  ·refine Qi [true,false] Z Z (Qa (Qf Uw Z) Z (Xf (cs':=[.int .i64 6,.int .i64 0,.int .i64 0,.slice (some ⟨b3,0,none⟩) 2 2]) Xi Z Z Z h4 (Nat.le_of_ble_eq_true Z) Z (fun w10 m3 h4'=>?_)))
   replace h4:=h4'
   replace E:=E.mod m3 (fun g hg=>by cases hg;omega);replace hcu:=hcu.mod m3 (fun g hg=>by cases hg;omega);replace h1:=h1.mod m3 (fun g hg=>by cases hg;omega);replace h2:=h2.mod m3 (fun g hg=>by cases hg;omega);replace h3:=h3.mod m3 (fun g hg=>by cases hg;omega)
   have z11:=m3.size
   refine Qd (Q4 (Cl 6 ⟨Z,Z,Z,Z,trivial⟩ ⟨E,(by omega),hcu,h1,h2,h3,h4⟩))
  ·refine Qy (Q4 (Cl 5 ⟨Z,Z,Z,Z,trivial⟩ ⟨E,(by omega),hcu,h1,h2,h3,h4⟩))
 ·clear E hcu h1 h2 h3 h4
  rintro gk w11 ⟨E,z10,hcu,h1,h2,h3,h4⟩
  refine Qh (Qi [true,false,true,false,true,false,false] Z Z (Qa (Qb Z) Z (Yf Tryz.call66 Z Z (s_l01Below lo vb bs 3 _ hcu (RdD.modR hbs E (.inl (Nat.le_refl _)))) Z (fun _ w12 e8 hv=>?_))))
  obtain ⟨dx4,q5,q6,hcu',hv⟩:=hv
  replace hcu:=hcu'
  subst hv
  replace E:=E.trans e8 (by omega) (by omega);replace h1:=h1.modR e8 (by omega);replace h2:=h2.modR e8 (by omega);replace h3:=h3.modR e8 (by omega);replace h4:=h4.modR e8 (by omega)
  have z12:=e8.size
  refine Qa (Yu Z Z Z) Z (Qz (vs:=[.int .i64 3]) (css:=[[.int .i64 3]]) Kd Z Z ⟨⟨Z,Z⟩,trivial⟩ Z Z (fun b5 w13 e9 s5 h5=>?_))
  replace h5 : Blk w13 b5 [.int .i64 3]:=h5
  have g_b5 : w.heap.size ≤ b5:=by have:=E.size;omega
  have y_b5:=h5.lt
  replace E:=E.ext e9;replace hcu:=hcu.ext e9;replace h1:=h1.ext e9;replace h2:=h2.ext e9;replace h3:=h3.ext e9;replace h4:=h4.ext e9
  have z13:=e9.size
  have hbl3 : ∀ w,(Instr.build 91 ([(0,.int .i64 4),(1,.int .i64 (IntKind.i64.wrap (1 + ((dx4 : Nat) : Int)))),(3,.slice (some ⟨b5,0,none⟩) 1 1)]).toArray).run Tryz.prog w = .ok (.agg [.int .i64 4,.int .i64 (IntKind.i64.wrap (1 + ((dx4 : Nat) : Int))),.int .i64 0,.slice (some ⟨b5,0,none⟩) 1 1].toArray) w:=by clear E;intro w;kernel_rfl
  refine Qa (Ko [.int .i64 4,.int .i64 (IntKind.i64.wrap (1 + ((dx4 : Nat) : Int))),.int .i64 0,.slice (some ⟨b5,0,none⟩) 1 1] Z hbl3) Z (Yd K9 Z (fun b6 w14 e10 s6 h6=>?_))
  have g_b6 : w.heap.size ≤ b6:=by have:=E.size;omega
  have y_b6:=h6.lt
  replace E:=E.ext e10;replace hcu:=hcu.ext e10;replace h1:=h1.ext e10;replace h2:=h2.ext e10;replace h3:=h3.ext e10;replace h4:=h4.ext e10;replace h5:=h5.ext e10
  have z14:=e10.size
  refine Qs (cs':=[.int .i64 4,.int .i64 (IntKind.i64.wrap (1 + ((dx4 : Nat) : Int))),.int .i64 0,.slice (some ⟨b5,0,none⟩) 1 1]) K9 Z Z Z (Qg Z (Qg Z (Qg Z (Qg Z Z)))) h6 (Nat.le_of_ble_eq_true Z) Z (fun w15 m4 h6'=>?_)
  replace h6:=h6'
  replace E:=E.mod m4 (fun g hg=>by cases hg;omega);replace hcu:=hcu.mod m4 (fun g hg=>by cases hg;omega);replace h1:=h1.mod m4 (fun g hg=>by cases hg;omega);replace h2:=h2.mod m4 (fun g hg=>by cases hg;omega);replace h3:=h3.mod m4 (fun g hg=>by cases hg;omega);replace h4:=h4.mod m4 (fun g hg=>by cases hg;omega);replace h5:=h5.mod m4 (fun g hg=>by cases hg;omega)
  have z15:=m4.size
  refine Qd (Qh (Qi [true,false,false,true,false,false] Z Z (Qa (Qb Z) Z (Yf Tryz.call66 Z Z (s_l01Below lo vb bs 4 _ hcu (RdD.modR hbs E (.inl (Nat.le_refl _)))) Z (fun _ w16 e11 hv=>?_)))))
  obtain ⟨dx5,q7,q8,hcu',hv⟩:=hv
  replace hcu:=hcu'
  subst hv
  replace E:=E.trans e11 (by omega) (by omega);replace h1:=h1.modR e11 (by omega);replace h2:=h2.modR e11 (by omega);replace h3:=h3.modR e11 (by omega);replace h4:=h4.modR e11 (by omega);replace h5:=h5.modR e11 (by omega);replace h6:=h6.modR e11 (by omega)
  have z16:=e11.size
  refine Qz (vs:=[.int .i64 4]) (css:=[[.int .i64 4]]) Kd Z Z ⟨⟨Z,Z⟩,trivial⟩ Z Z (fun b7 w17 e12 s7 h7=>?_)
  replace h7 : Blk w17 b7 [.int .i64 4]:=h7
  have g_b7 : w.heap.size ≤ b7:=by have:=E.size;omega
  have y_b7:=h7.lt
  replace E:=E.ext e12;replace hcu:=hcu.ext e12;replace h1:=h1.ext e12;replace h2:=h2.ext e12;replace h3:=h3.ext e12;replace h4:=h4.ext e12;replace h5:=h5.ext e12;replace h6:=h6.ext e12
  have z17:=e12.size
  have hbl4 : ∀ w,(Instr.build 91 ([(0,.int .i64 2),(1,.int .i64 ((dx5 : Nat) : Int)),(3,.slice (some ⟨b7,0,none⟩) 1 1)]).toArray).run Tryz.prog w = .ok (.agg [.int .i64 2,.int .i64 ((dx5 : Nat) : Int),.int .i64 0,.slice (some ⟨b7,0,none⟩) 1 1].toArray) w:=by clear E;intro w;kernel_rfl
  refine Qa (Ko [.int .i64 2,.int .i64 ((dx5 : Nat) : Int),.int .i64 0,.slice (some ⟨b7,0,none⟩) 1 1] Z hbl4) Z (Yd K9 Z (fun b8 w18 e13 s8 h8=>?_))
  have g_b8 : w.heap.size ≤ b8:=by have:=E.size;omega
  have y_b8:=h8.lt
  replace E:=E.ext e13;replace hcu:=hcu.ext e13;replace h1:=h1.ext e13;replace h2:=h2.ext e13;replace h3:=h3.ext e13;replace h4:=h4.ext e13;replace h5:=h5.ext e13;replace h6:=h6.ext e13;replace h7:=h7.ext e13
  have z18:=e13.size
  refine Qs (cs':=[.int .i64 2,.int .i64 ((dx5 : Nat) : Int),.int .i64 0,.slice (some ⟨b7,0,none⟩) 1 1]) K9 Z Z Z (Qg Z (Qg Z (Qg Z (Qg Z Z)))) h8 (Nat.le_of_ble_eq_true Z) Z (fun w19 m5 h8'=>?_)
  replace h8:=h8'
  replace E:=E.mod m5 (fun g hg=>by cases hg;omega);replace hcu:=hcu.mod m5 (fun g hg=>by cases hg;omega);replace h1:=h1.mod m5 (fun g hg=>by cases hg;omega);replace h2:=h2.mod m5 (fun g hg=>by cases hg;omega);replace h3:=h3.mod m5 (fun g hg=>by cases hg;omega);replace h4:=h4.mod m5 (fun g hg=>by cases hg;omega);replace h5:=h5.mod m5 (fun g hg=>by cases hg;omega);replace h6:=h6.mod m5 (fun g hg=>by cases hg;omega);replace h7:=h7.mod m5 (fun g hg=>by cases hg;omega)
  have z19:=m5.size
  refine Qd (Qh (Qi [true,false,true,false,true,false,false] Z Z (Qa (Qb Z) Z (Yf Tryz.call66 Z Z (s_l01Below lo vb bs 3 _ hcu (RdD.modR hbs E (.inl (Nat.le_refl _)))) Z (fun _ w20 e14 hv=>?_)))))
  obtain ⟨dx6,q9,q10,hcu',hv⟩:=hv
  replace hcu:=hcu'
  subst hv
  replace E:=E.trans e14 (by omega) (by omega);replace h1:=h1.modR e14 (by omega);replace h2:=h2.modR e14 (by omega);replace h3:=h3.modR e14 (by omega);replace h4:=h4.modR e14 (by omega);replace h5:=h5.modR e14 (by omega);replace h6:=h6.modR e14 (by omega);replace h7:=h7.modR e14 (by omega);replace h8:=h8.modR e14 (by omega)
  have z20:=e14.size
  refine Qa (Yu Z Z Z) Z (Qz (vs:=[.int .i64 4]) (css:=[[.int .i64 4]]) Kd Z Z ⟨⟨Z,Z⟩,trivial⟩ Z Z (fun b9 w21 e15 s9 h9=>?_))
  replace h9 : Blk w21 b9 [.int .i64 4]:=h9
  have g_b9 : w.heap.size ≤ b9:=by have:=E.size;omega
  have y_b9:=h9.lt
  replace E:=E.ext e15;replace hcu:=hcu.ext e15;replace h1:=h1.ext e15;replace h2:=h2.ext e15;replace h3:=h3.ext e15;replace h4:=h4.ext e15;replace h5:=h5.ext e15;replace h6:=h6.ext e15;replace h7:=h7.ext e15;replace h8:=h8.ext e15
  have z21:=e15.size
  have hbl5 : ∀ w,(Instr.build 91 ([(0,.int .i64 3),(1,.int .i64 (IntKind.i64.wrap (1 + ((dx6 : Nat) : Int)))),(3,.slice (some ⟨b9,0,none⟩) 1 1)]).toArray).run Tryz.prog w = .ok (.agg [.int .i64 3,.int .i64 (IntKind.i64.wrap (1 + ((dx6 : Nat) : Int))),.int .i64 0,.slice (some ⟨b9,0,none⟩) 1 1].toArray) w:=by clear E;intro w;kernel_rfl
  refine Qa (Ko [.int .i64 3,.int .i64 (IntKind.i64.wrap (1 + ((dx6 : Nat) : Int))),.int .i64 0,.slice (some ⟨b9,0,none⟩) 1 1] Z hbl5) Z (Yd K9 Z (fun b10 w22 e16 s10 h10=>?_))
  have g_b10 : w.heap.size ≤ b10:=by have:=E.size;omega
  have y_b10:=h10.lt
  replace E:=E.ext e16;replace hcu:=hcu.ext e16;replace h1:=h1.ext e16;replace h2:=h2.ext e16;replace h3:=h3.ext e16;replace h4:=h4.ext e16;replace h5:=h5.ext e16;replace h6:=h6.ext e16;replace h7:=h7.ext e16;replace h8:=h8.ext e16;replace h9:=h9.ext e16
  have z22:=e16.size
  refine Qs (cs':=[.int .i64 3,.int .i64 (IntKind.i64.wrap (1 + ((dx6 : Nat) : Int))),.int .i64 0,.slice (some ⟨b9,0,none⟩) 1 1]) K9 Z Z Z (Qg Z (Qg Z (Qg Z (Qg Z Z)))) h10 (Nat.le_of_ble_eq_true Z) Z (fun w23 m6 h10'=>?_)
  replace h10:=h10'
  replace E:=E.mod m6 (fun g hg=>by cases hg;omega);replace hcu:=hcu.mod m6 (fun g hg=>by cases hg;omega);replace h1:=h1.mod m6 (fun g hg=>by cases hg;omega);replace h2:=h2.mod m6 (fun g hg=>by cases hg;omega);replace h3:=h3.mod m6 (fun g hg=>by cases hg;omega);replace h4:=h4.mod m6 (fun g hg=>by cases hg;omega);replace h5:=h5.mod m6 (fun g hg=>by cases hg;omega);replace h6:=h6.mod m6 (fun g hg=>by cases hg;omega);replace h7:=h7.mod m6 (fun g hg=>by cases hg;omega);replace h8:=h8.mod m6 (fun g hg=>by cases hg;omega);replace h9:=h9.mod m6 (fun g hg=>by cases hg;omega)
  have z23:=m6.size
  refine Qd (Qh (Qi [false,true,false,false] Z Z (Qz (vs:=[.int .i64 1]) (css:=[[.int .i64 1]]) Kd Z Z ⟨⟨Z,Z⟩,trivial⟩ Z Z (fun b11 w24 e17 s11 h11=>?_))))
  replace h11 : Blk w24 b11 [.int .i64 1]:=h11
  have g_b11 : w.heap.size ≤ b11:=by have:=E.size;omega
  have y_b11:=h11.lt
  replace E:=E.ext e17;replace hcu:=hcu.ext e17;replace h1:=h1.ext e17;replace h2:=h2.ext e17;replace h3:=h3.ext e17;replace h4:=h4.ext e17;replace h5:=h5.ext e17;replace h6:=h6.ext e17;replace h7:=h7.ext e17;replace h8:=h8.ext e17;replace h9:=h9.ext e17;replace h10:=h10.ext e17
  have z24:=e17.size
  have hbl6 : ∀ w,(Instr.build 91 ([(0,.int .i64 7),(3,.slice (some ⟨b11,0,none⟩) 1 1)]).toArray).run Tryz.prog w = .ok (.agg [.int .i64 7,.int .i64 0,.int .i64 0,.slice (some ⟨b11,0,none⟩) 1 1].toArray) w:=by clear E;intro w;kernel_rfl
  refine Qa (Ko [.int .i64 7,.int .i64 0,.int .i64 0,.slice (some ⟨b11,0,none⟩) 1 1] Z hbl6) Z (Yd K9 Z (fun b12 w25 e18 s12 h12=>?_))
  have g_b12 : w.heap.size ≤ b12:=by have:=E.size;omega
  have y_b12:=h12.lt
  replace E:=E.ext e18;replace hcu:=hcu.ext e18;replace h1:=h1.ext e18;replace h2:=h2.ext e18;replace h3:=h3.ext e18;replace h4:=h4.ext e18;replace h5:=h5.ext e18;replace h6:=h6.ext e18;replace h7:=h7.ext e18;replace h8:=h8.ext e18;replace h9:=h9.ext e18;replace h10:=h10.ext e18;replace h11:=h11.ext e18
  have z25:=e18.size
  refine Qs (cs':=[.int .i64 7,.int .i64 0,.int .i64 0,.slice (some ⟨b11,0,none⟩) 1 1]) K9 Z Z Z (Qg Z (Qg Z (Qg Z (Qg Z Z)))) h12 (Nat.le_of_ble_eq_true Z) Z (fun w26 m7 h12'=>?_)
  replace h12:=h12'
  replace E:=E.mod m7 (fun g hg=>by cases hg;omega);replace hcu:=hcu.mod m7 (fun g hg=>by cases hg;omega);replace h1:=h1.mod m7 (fun g hg=>by cases hg;omega);replace h2:=h2.mod m7 (fun g hg=>by cases hg;omega);replace h3:=h3.mod m7 (fun g hg=>by cases hg;omega);replace h4:=h4.mod m7 (fun g hg=>by cases hg;omega);replace h5:=h5.mod m7 (fun g hg=>by cases hg;omega);replace h6:=h6.mod m7 (fun g hg=>by cases hg;omega);replace h7:=h7.mod m7 (fun g hg=>by cases hg;omega);replace h8:=h8.mod m7 (fun g hg=>by cases hg;omega);replace h9:=h9.mod m7 (fun g hg=>by cases hg;omega);replace h10:=h10.mod m7 (fun g hg=>by cases hg;omega);replace h11:=h11.mod m7 (fun g hg=>by cases hg;omega)
  have z26:=m7.size
  refine Qd (Qh (Qi [true,false,false] Z Z ?_))
  have hbl7 : ∀ w,(Instr.build 91 ([(0,.int .i64 8)]).toArray).run Tryz.prog w = .ok (.agg [.int .i64 8,.int .i64 0,.int .i64 0,.slice none 0 0].toArray) w:=by clear E;intro w;kernel_rfl
  refine Qa (Ko [.int .i64 8,.int .i64 0,.int .i64 0,.slice none 0 0] Z hbl7) Z (Yd K9 Z (fun b13 w27 e19 s13 h13=>?_))
  have g_b13 : w.heap.size ≤ b13:=by have:=E.size;omega
  have y_b13:=h13.lt
  replace E:=E.ext e19;replace hcu:=hcu.ext e19;replace h1:=h1.ext e19;replace h2:=h2.ext e19;replace h3:=h3.ext e19;replace h4:=h4.ext e19;replace h5:=h5.ext e19;replace h6:=h6.ext e19;replace h7:=h7.ext e19;replace h8:=h8.ext e19;replace h9:=h9.ext e19;replace h10:=h10.ext e19;replace h11:=h11.ext e19;replace h12:=h12.ext e19
  have z27:=e19.size
  refine Qs (cs':=[.int .i64 8,.int .i64 0,.int .i64 0,.slice none 0 0]) K9 Z Z Z Z h13 (Nat.le_of_ble_eq_true Z) Z (fun w28 m8 h13'=>?_)
  replace h13:=h13'
  replace E:=E.mod m8 (fun g hg=>by cases hg;omega);replace hcu:=hcu.mod m8 (fun g hg=>by cases hg;omega);replace h1:=h1.mod m8 (fun g hg=>by cases hg;omega);replace h2:=h2.mod m8 (fun g hg=>by cases hg;omega);replace h3:=h3.mod m8 (fun g hg=>by cases hg;omega);replace h4:=h4.mod m8 (fun g hg=>by cases hg;omega);replace h5:=h5.mod m8 (fun g hg=>by cases hg;omega);replace h6:=h6.mod m8 (fun g hg=>by cases hg;omega);replace h7:=h7.mod m8 (fun g hg=>by cases hg;omega);replace h8:=h8.mod m8 (fun g hg=>by cases hg;omega);replace h9:=h9.mod m8 (fun g hg=>by cases hg;omega);replace h10:=h10.mod m8 (fun g hg=>by cases hg;omega);replace h11:=h11.mod m8 (fun g hg=>by cases hg;omega);replace h12:=h12.mod m8 (fun g hg=>by cases hg;omega)
  have z28:=m8.size
  refine Qd (Qh (Qi [false,true,true,true,true,true,true,false,true,false] Z Z (Qz (vs:=[.int .i64 1]) (css:=[[.int .i64 1]]) Kd Z Z ⟨⟨Z,Z⟩,trivial⟩ Z Z (fun b14 w29 e20 s14 h14=>?_))))
  replace h14 : Blk w29 b14 [.int .i64 1]:=h14
  have g_b14 : w.heap.size ≤ b14:=by have:=E.size;omega
  have y_b14:=h14.lt
  replace E:=E.ext e20;replace hcu:=hcu.ext e20;replace h1:=h1.ext e20;replace h2:=h2.ext e20;replace h3:=h3.ext e20;replace h4:=h4.ext e20;replace h5:=h5.ext e20;replace h6:=h6.ext e20;replace h7:=h7.ext e20;replace h8:=h8.ext e20;replace h9:=h9.ext e20;replace h10:=h10.ext e20;replace h11:=h11.ext e20;replace h12:=h12.ext e20;replace h13:=h13.ext e20
  have z29:=e20.size
  have hbl8 : ∀ w,(Instr.build 91 ([(0,.int .i64 1),(3,.slice (some ⟨b14,0,none⟩) 1 1)]).toArray).run Tryz.prog w = .ok (.agg [.int .i64 1,.int .i64 0,.int .i64 0,.slice (some ⟨b14,0,none⟩) 1 1].toArray) w:=by clear E;intro w;kernel_rfl
  refine Qa (Ko [.int .i64 1,.int .i64 0,.int .i64 0,.slice (some ⟨b14,0,none⟩) 1 1] Z hbl8) Z (Qa (Ql K9 Z h4.at Z) Z (Qa (Ql K9 Z h6.at Z) Z (Qa (Ql K9 Z h8.at Z) Z (Qa (Ql K9 Z h12.at Z) Z (Qa (Ql K9 Z h13.at Z) Z (Qz (vs:=[.agg [.int .i64 1,.int .i64 0,.int .i64 0,.slice (some ⟨b14,0,none⟩) 1 1].toArray,.agg [.int .i64 gk,.int .i64 0,.int .i64 0,.slice (some ⟨b3,0,none⟩) 2 2].toArray,.agg [.int .i64 4,.int .i64 (IntKind.i64.wrap (1 + ((dx4 : Nat) : Int))),.int .i64 0,.slice (some ⟨b5,0,none⟩) 1 1].toArray,.agg [.int .i64 2,.int .i64 ((dx5 : Nat) : Int),.int .i64 0,.slice (some ⟨b7,0,none⟩) 1 1].toArray,.agg [.int .i64 7,.int .i64 0,.int .i64 0,.slice (some ⟨b11,0,none⟩) 1 1].toArray,.agg [.int .i64 8,.int .i64 0,.int .i64 0,.slice none 0 0].toArray]) (css:=[[.int .i64 1,.int .i64 0,.int .i64 0,.slice (some ⟨b14,0,none⟩) 1 1],[.int .i64 gk,.int .i64 0,.int .i64 0,.slice (some ⟨b3,0,none⟩) 2 2],[.int .i64 4,.int .i64 (IntKind.i64.wrap (1 + ((dx4 : Nat) : Int))),.int .i64 0,.slice (some ⟨b5,0,none⟩) 1 1],[.int .i64 2,.int .i64 ((dx5 : Nat) : Int),.int .i64 0,.slice (some ⟨b7,0,none⟩) 1 1],[.int .i64 7,.int .i64 0,.int .i64 0,.slice (some ⟨b11,0,none⟩) 1 1],[.int .i64 8,.int .i64 0,.int .i64 0,.slice none 0 0]]) A3 Z Z ⟨⟨Z,Z⟩,⟨Z,Z⟩,⟨Z,Z⟩,⟨Z,Z⟩,⟨Z,Z⟩,⟨Z,Z⟩,trivial⟩ Z Z (fun b15 w30 e21 s15 h15=>?_)))))))
  replace h15 : Blk w30 b15 [.int .i64 1,.int .i64 0,.int .i64 0,.slice (some ⟨b14,0,none⟩) 1 1,.int .i64 gk,.int .i64 0,.int .i64 0,.slice (some ⟨b3,0,none⟩) 2 2,.int .i64 4,.int .i64 (IntKind.i64.wrap (1 + ((dx4 : Nat) : Int))),.int .i64 0,.slice (some ⟨b5,0,none⟩) 1 1,.int .i64 2,.int .i64 ((dx5 : Nat) : Int),.int .i64 0,.slice (some ⟨b7,0,none⟩) 1 1,.int .i64 7,.int .i64 0,.int .i64 0,.slice (some ⟨b11,0,none⟩) 1 1,.int .i64 8,.int .i64 0,.int .i64 0,.slice none 0 0]:=h15
  have g_b15 : w.heap.size ≤ b15:=by have:=E.size;omega
  have y_b15:=h15.lt
  replace E:=E.ext e21;replace hcu:=hcu.ext e21;replace h1:=h1.ext e21;replace h2:=h2.ext e21;replace h3:=h3.ext e21;replace h4:=h4.ext e21;replace h5:=h5.ext e21;replace h6:=h6.ext e21;replace h7:=h7.ext e21;replace h8:=h8.ext e21;replace h9:=h9.ext e21;replace h10:=h10.ext e21;replace h11:=h11.ext e21;replace h12:=h12.ext e21;replace h13:=h13.ext e21;replace h14:=h14.ext e21
  have z30:=e21.size
  refine Qa (Qf Uj Z) Z (Xf (cs':=[.slice (some ⟨b15,0,none⟩) 6 6,.int .i64 (IntKind.i64.wrap (1 + ((dx1 : Nat) : Int))),.int .i64 (IntKind.i64.wrap (1 + ((dx2 : Nat) : Int)))]) G8 Z Z Z h2 (Nat.le_of_ble_eq_true Z) Z (fun w31 m9 h2'=>?_))
  replace h2:=h2'
  replace E:=E.mod m9 (fun g hg=>by cases hg;omega);replace hcu:=hcu.mod m9 (fun g hg=>by cases hg;omega);replace h1:=h1.mod m9 (fun g hg=>by cases hg;omega);replace h3:=h3.mod m9 (fun g hg=>by cases hg;omega);replace h4:=h4.mod m9 (fun g hg=>by cases hg;omega);replace h5:=h5.mod m9 (fun g hg=>by cases hg;omega);replace h6:=h6.mod m9 (fun g hg=>by cases hg;omega);replace h7:=h7.mod m9 (fun g hg=>by cases hg;omega);replace h8:=h8.mod m9 (fun g hg=>by cases hg;omega);replace h9:=h9.mod m9 (fun g hg=>by cases hg;omega);replace h10:=h10.mod m9 (fun g hg=>by cases hg;omega);replace h11:=h11.mod m9 (fun g hg=>by cases hg;omega);replace h12:=h12.mod m9 (fun g hg=>by cases hg;omega);replace h13:=h13.mod m9 (fun g hg=>by cases hg;omega);replace h14:=h14.mod m9 (fun g hg=>by cases hg;omega);replace h15:=h15.mod m9 (fun g hg=>by cases hg;omega)
  have z31:=m9.size
  refine Qd (Qh (Qh (Qi [true,false] Z Z (Qa (Qb Z) Z (Yf Tryz.call66 Z Z (s_l01Below lo vb bs 6 _ hcu (RdD.modR hbs E (.inl (Nat.le_refl _)))) Z (fun _ w32 e22 hv=>?_))))))
  obtain ⟨dx7,q11,q12,hcu',hv⟩:=hv
  replace hcu:=hcu'
  subst hv
  replace E:=E.trans e22 (by omega) (by omega);replace h1:=h1.modR e22 (by omega);replace h2:=h2.modR e22 (by omega);replace h3:=h3.modR e22 (by omega);replace h4:=h4.modR e22 (by omega);replace h5:=h5.modR e22 (by omega);replace h6:=h6.modR e22 (by omega);replace h7:=h7.modR e22 (by omega);replace h8:=h8.modR e22 (by omega);replace h9:=h9.modR e22 (by omega);replace h10:=h10.modR e22 (by omega);replace h11:=h11.modR e22 (by omega);replace h12:=h12.modR e22 (by omega);replace h13:=h13.modR e22 (by omega);replace h14:=h14.modR e22 (by omega);replace h15:=h15.modR e22 (by omega)
  have z32:=e22.size
  refine Qd (Q2 (Qh (Qi [true,true] Z Z (Qa (Y9 Z Z) Z (Qa (Qe Z) Z (Qd (Qt Z (fun hc2=>?_) (fun hc2=>?_))))))))
  ·have hc2n : dx7 = 0:=by first | (have h:=of_decide_eq_true hc2;omega) | (have h:=hc2;simp at h;omega)
   refine Qi [true,true,true,true,false] Z Z (Qa (Qf Uj Z) Z (Qa (Qk G8 Z (h2.one 0 Z)) Z (Qa (Ql K9 Z h10.at Z) Z (Qa (A0 A3 Z Z (by first | assumption | omega | (simp only [List.length_set];first | assumption | omega) | (simp only [List.getElem_set_self,List.length_set];first | assumption | omega) | (simp only [Y3,Yj,List.length_set];first | assumption | omega) | (simp;done))) Z (Qs (cs':=[.int .i64 1,.int .i64 0,.int .i64 0,.slice (some ⟨b14,0,none⟩) 1 1,.int .i64 gk,.int .i64 0,.int .i64 0,.slice (some ⟨b3,0,none⟩) 2 2,.int .i64 4,.int .i64 (IntKind.i64.wrap (1 + ((dx4 : Nat) : Int))),.int .i64 0,.slice (some ⟨b5,0,none⟩) 1 1,.int .i64 3,.int .i64 (IntKind.i64.wrap (1 + ((dx6 : Nat) : Int))),.int .i64 0,.slice (some ⟨b9,0,none⟩) 1 1,.int .i64 7,.int .i64 0,.int .i64 0,.slice (some ⟨b11,0,none⟩) 1 1,.int .i64 8,.int .i64 0,.int .i64 0,.slice none 0 0]) K9 Z Z Z (Qg Z (Qg Z (Qg Z (Qg Z Z)))) h15 (Nat.le_of_ble_eq_true Z) Z (fun w33 m10 h15'=>?_))))))
   replace h15:=h15'
   replace E:=E.mod m10 (fun g hg=>by cases hg;omega);replace hcu:=hcu.mod m10 (fun g hg=>by cases hg;omega);replace h1:=h1.mod m10 (fun g hg=>by cases hg;omega);replace h2:=h2.mod m10 (fun g hg=>by cases hg;omega);replace h3:=h3.mod m10 (fun g hg=>by cases hg;omega);replace h4:=h4.mod m10 (fun g hg=>by cases hg;omega);replace h5:=h5.mod m10 (fun g hg=>by cases hg;omega);replace h6:=h6.mod m10 (fun g hg=>by cases hg;omega);replace h7:=h7.mod m10 (fun g hg=>by cases hg;omega);replace h8:=h8.mod m10 (fun g hg=>by cases hg;omega);replace h9:=h9.mod m10 (fun g hg=>by cases hg;omega);replace h10:=h10.mod m10 (fun g hg=>by cases hg;omega);replace h11:=h11.mod m10 (fun g hg=>by cases hg;omega);replace h12:=h12.mod m10 (fun g hg=>by cases hg;omega);replace h13:=h13.mod m10 (fun g hg=>by cases hg;omega);replace h14:=h14.mod m10 (fun g hg=>by cases hg;omega)
   have z33:=m10.size
   refine Qd (Q4 (Yn (Qh (Qi [true,false] Z Z (Qa (Ql Xz Z h2.at Z) Z (Qs (cs':=[.slice (some ⟨b15,0,none⟩) 6 6,.int .i64 (IntKind.i64.wrap (1 + ((dx1 : Nat) : Int))),.int .i64 (IntKind.i64.wrap (1 + ((dx2 : Nat) : Int)))]) Xz Z Z Z (Qg Z (Qg Z (Qg Z Z))) h1 (Nat.le_of_ble_eq_true Z) Z (fun w34 m11 h1'=>?_)))))))
   replace h1:=h1'
   replace E:=E.mod m11 (fun g hg=>by cases hg;omega);replace hcu:=hcu.mod m11 (fun g hg=>by cases hg;omega);replace h2:=h2.mod m11 (fun g hg=>by cases hg;omega);replace h3:=h3.mod m11 (fun g hg=>by cases hg;omega);replace h4:=h4.mod m11 (fun g hg=>by cases hg;omega);replace h5:=h5.mod m11 (fun g hg=>by cases hg;omega);replace h6:=h6.mod m11 (fun g hg=>by cases hg;omega);replace h7:=h7.mod m11 (fun g hg=>by cases hg;omega);replace h8:=h8.mod m11 (fun g hg=>by cases hg;omega);replace h9:=h9.mod m11 (fun g hg=>by cases hg;omega);replace h10:=h10.mod m11 (fun g hg=>by cases hg;omega);replace h11:=h11.mod m11 (fun g hg=>by cases hg;omega);replace h12:=h12.mod m11 (fun g hg=>by cases hg;omega);replace h13:=h13.mod m11 (fun g hg=>by cases hg;omega);replace h14:=h14.mod m11 (fun g hg=>by cases hg;omega);replace h15:=h15.mod m11 (fun g hg=>by cases hg;omega)
   have z34:=m11.size
   refine Qd (Qx (Xh Z Z (Qv Xz h1.at Z) E ?_))
   have hF1 : OwF w34 b3 w34.heap.size (.slice (some ⟨b15,0,none⟩) 6 6) [(⟨1,0,0,[1]⟩ : Node),(⟨gk,0,0,[2,5]⟩ : Node),(⟨4,IntKind.i64.wrap (1 + ((dx4 : Nat) : Int)),0,[3]⟩ : Node),(⟨3,IntKind.i64.wrap (1 + ((dx6 : Nat) : Int)),0,[4]⟩ : Node),(⟨7,0,0,[1]⟩ : Node),(⟨8,0,0,[]⟩ : Node)] [b15,b14,b3,b5,b9,b11]:=OwF.lit (css:=[[.int .i64 1,.int .i64 0,.int .i64 0,.slice (some ⟨b14,0,none⟩) 1 1],[.int .i64 gk,.int .i64 0,.int .i64 0,.slice (some ⟨b3,0,none⟩) 2 2],[.int .i64 4,.int .i64 (IntKind.i64.wrap (1 + ((dx4 : Nat) : Int))),.int .i64 0,.slice (some ⟨b5,0,none⟩) 1 1],[.int .i64 3,.int .i64 (IntKind.i64.wrap (1 + ((dx6 : Nat) : Int))),.int .i64 0,.slice (some ⟨b9,0,none⟩) 1 1],[.int .i64 7,.int .i64 0,.int .i64 0,.slice (some ⟨b11,0,none⟩) 1 1],[.int .i64 8,.int .i64 0,.int .i64 0,.slice none 0 0]]) h15 ⟨(Node.mkO (⟨1,0,0,[1]⟩ : Node) ⟨trivial,trivial⟩ (Own.widen (Own.ofBlk (lo:=b14) (hi:=b14 + 1) (sz:=1) h14 (Nat.le_refl _) (Nat.lt_succ_self _) (by rfl) (by unfold maxLen;omega)) (by omega) (by omega))),(Node.mkO (⟨gk,0,0,[2,5]⟩ : Node) ⟨trivial,trivial⟩ (Own.widen (Own.ofBlk (lo:=b3) (hi:=b3 + 1) (sz:=1) h3 (Nat.le_refl _) (Nat.lt_succ_self _) (by rfl) (by unfold maxLen;omega)) (by omega) (by omega))),(Node.mkO (⟨4,IntKind.i64.wrap (1 + ((dx4 : Nat) : Int)),0,[3]⟩ : Node) ⟨trivial,trivial⟩ (Own.widen (Own.ofBlk (lo:=b5) (hi:=b5 + 1) (sz:=1) h5 (Nat.le_refl _) (Nat.lt_succ_self _) (by rfl) (by unfold maxLen;omega)) (by omega) (by omega))),(Node.mkO (⟨3,IntKind.i64.wrap (1 + ((dx6 : Nat) : Int)),0,[4]⟩ : Node) ⟨trivial,trivial⟩ (Own.widen (Own.ofBlk (lo:=b9) (hi:=b9 + 1) (sz:=1) h9 (Nat.le_refl _) (Nat.lt_succ_self _) (by rfl) (by unfold maxLen;omega)) (by omega) (by omega))),(Node.mkO (⟨7,0,0,[1]⟩ : Node) ⟨trivial,trivial⟩ (Own.widen (Own.ofBlk (lo:=b11) (hi:=b11 + 1) (sz:=1) h11 (Nat.le_refl _) (Nat.lt_succ_self _) (by rfl) (by unfold maxLen;omega)) (by omega) (by omega))),(Node.mkO (⟨8,0,0,[]⟩ : Node) ⟨trivial,trivial⟩ (Own.nil _ _ _ _)),trivial⟩ (by omega) (by omega) (show List.Nodup [b15,b14,b3,b5,b9,b11] from by first | (simp;done) | (simp;omega)) rfl (by simp [maxLen])
   exact ⟨(⟨[(⟨1,0,0,[1]⟩ : Node),(⟨gk,0,0,[2,5]⟩ : Node),(⟨4,IntKind.i64.wrap (1 + ((dx4 : Nat) : Int)),0,[3]⟩ : Node),(⟨3,IntKind.i64.wrap (1 + ((dx6 : Nat) : Int)),0,[4]⟩ : Node),(⟨7,0,0,[1]⟩ : Node),(⟨8,0,0,[]⟩ : Node)],IntKind.i64.wrap (1 + ((dx1 : Nat) : Int)),IntKind.i64.wrap (1 + ((dx2 : Nat) : Int))⟩ : Graph),(by first | assumption | (constructor <;> simp <;> done) | (constructor <;> simp [*] <;> omega)),(by simp),(by simp),hcu,⟨_,Z,OwS.widen (OwF.ows hF1) (by have:=E.size;omega) (by omega)⟩⟩
  ·have hc2n : ¬ dx7 = 0:=by first | (have h:=of_decide_eq_false hc2;omega) | (have h:=hc2;simp at h;omega)
   refine Qh (Qi [true,true] Z Z (Qa (Y9 Z Z) Z (Qa (Qe Z) Z (Qd (Qt Z (fun hc3=>?_) (fun hc3=>?_))))))
   ·have hc3n : dx7 = 1:=by first | (have h:=of_decide_eq_true hc3;omega) | (have h:=hc3;simp at h;omega)
    refine Qi [true,true,true,true,false] Z Z (Qa (Qf Uj Z) Z (Qa (Qk G8 Z (h2.one 0 Z)) Z ?_))
    have hbl9 : ∀ w,(Instr.build 91 ([(0,.int .i64 8)]).toArray).run Tryz.prog w = .ok (.agg [.int .i64 8,.int .i64 0,.int .i64 0,.slice none 0 0].toArray) w:=by clear E;intro w;kernel_rfl
    refine Qa (Ko [.int .i64 8,.int .i64 0,.int .i64 0,.slice none 0 0] Z hbl9) Z (Qa (A0 A3 Z Z (by first | assumption | omega | (simp only [List.length_set];first | assumption | omega) | (simp only [List.getElem_set_self,List.length_set];first | assumption | omega) | (simp only [Y3,Yj,List.length_set];first | assumption | omega) | (simp;done))) Z (Qs (cs':=[.int .i64 1,.int .i64 0,.int .i64 0,.slice (some ⟨b14,0,none⟩) 1 1,.int .i64 gk,.int .i64 0,.int .i64 0,.slice (some ⟨b3,0,none⟩) 2 2,.int .i64 4,.int .i64 (IntKind.i64.wrap (1 + ((dx4 : Nat) : Int))),.int .i64 0,.slice (some ⟨b5,0,none⟩) 1 1,.int .i64 2,.int .i64 ((dx5 : Nat) : Int),.int .i64 0,.slice (some ⟨b7,0,none⟩) 1 1,.int .i64 8,.int .i64 0,.int .i64 0,.slice none 0 0,.int .i64 8,.int .i64 0,.int .i64 0,.slice none 0 0]) K9 Z Z Z Z h15 (Nat.le_of_ble_eq_true Z) Z (fun w35 m12 h15'=>?_)))
    replace h15:=h15'
    replace E:=E.mod m12 (fun g hg=>by cases hg;omega);replace hcu:=hcu.mod m12 (fun g hg=>by cases hg;omega);replace h1:=h1.mod m12 (fun g hg=>by cases hg;omega);replace h2:=h2.mod m12 (fun g hg=>by cases hg;omega);replace h3:=h3.mod m12 (fun g hg=>by cases hg;omega);replace h4:=h4.mod m12 (fun g hg=>by cases hg;omega);replace h5:=h5.mod m12 (fun g hg=>by cases hg;omega);replace h6:=h6.mod m12 (fun g hg=>by cases hg;omega);replace h7:=h7.mod m12 (fun g hg=>by cases hg;omega);replace h8:=h8.mod m12 (fun g hg=>by cases hg;omega);replace h9:=h9.mod m12 (fun g hg=>by cases hg;omega);replace h10:=h10.mod m12 (fun g hg=>by cases hg;omega);replace h11:=h11.mod m12 (fun g hg=>by cases hg;omega);replace h12:=h12.mod m12 (fun g hg=>by cases hg;omega);replace h13:=h13.mod m12 (fun g hg=>by cases hg;omega);replace h14:=h14.mod m12 (fun g hg=>by cases hg;omega)
    have z35:=m12.size
    refine Qd (Q4 (Yn (Qh (Qi [true,false] Z Z (Qa (Ql Xz Z h2.at Z) Z (Qs (cs':=[.slice (some ⟨b15,0,none⟩) 6 6,.int .i64 (IntKind.i64.wrap (1 + ((dx1 : Nat) : Int))),.int .i64 (IntKind.i64.wrap (1 + ((dx2 : Nat) : Int)))]) Xz Z Z Z (Qg Z (Qg Z (Qg Z Z))) h1 (Nat.le_of_ble_eq_true Z) Z (fun w36 m13 h1'=>?_)))))))
    replace h1:=h1'
    replace E:=E.mod m13 (fun g hg=>by cases hg;omega);replace hcu:=hcu.mod m13 (fun g hg=>by cases hg;omega);replace h2:=h2.mod m13 (fun g hg=>by cases hg;omega);replace h3:=h3.mod m13 (fun g hg=>by cases hg;omega);replace h4:=h4.mod m13 (fun g hg=>by cases hg;omega);replace h5:=h5.mod m13 (fun g hg=>by cases hg;omega);replace h6:=h6.mod m13 (fun g hg=>by cases hg;omega);replace h7:=h7.mod m13 (fun g hg=>by cases hg;omega);replace h8:=h8.mod m13 (fun g hg=>by cases hg;omega);replace h9:=h9.mod m13 (fun g hg=>by cases hg;omega);replace h10:=h10.mod m13 (fun g hg=>by cases hg;omega);replace h11:=h11.mod m13 (fun g hg=>by cases hg;omega);replace h12:=h12.mod m13 (fun g hg=>by cases hg;omega);replace h13:=h13.mod m13 (fun g hg=>by cases hg;omega);replace h14:=h14.mod m13 (fun g hg=>by cases hg;omega);replace h15:=h15.mod m13 (fun g hg=>by cases hg;omega)
    have z36:=m13.size
    refine Qd (Qx (Xh Z Z (Qv Xz h1.at Z) E ?_))
    have hF2 : OwF w36 b3 w36.heap.size (.slice (some ⟨b15,0,none⟩) 6 6) [(⟨1,0,0,[1]⟩ : Node),(⟨gk,0,0,[2,5]⟩ : Node),(⟨4,IntKind.i64.wrap (1 + ((dx4 : Nat) : Int)),0,[3]⟩ : Node),(⟨2,((dx5 : Nat) : Int),0,[4]⟩ : Node),(⟨8,0,0,[]⟩ : Node),(⟨8,0,0,[]⟩ : Node)] [b15,b14,b3,b5,b7]:=OwF.lit (css:=[[.int .i64 1,.int .i64 0,.int .i64 0,.slice (some ⟨b14,0,none⟩) 1 1],[.int .i64 gk,.int .i64 0,.int .i64 0,.slice (some ⟨b3,0,none⟩) 2 2],[.int .i64 4,.int .i64 (IntKind.i64.wrap (1 + ((dx4 : Nat) : Int))),.int .i64 0,.slice (some ⟨b5,0,none⟩) 1 1],[.int .i64 2,.int .i64 ((dx5 : Nat) : Int),.int .i64 0,.slice (some ⟨b7,0,none⟩) 1 1],[.int .i64 8,.int .i64 0,.int .i64 0,.slice none 0 0],[.int .i64 8,.int .i64 0,.int .i64 0,.slice none 0 0]]) h15 ⟨(Node.mkO (⟨1,0,0,[1]⟩ : Node) ⟨trivial,trivial⟩ (Own.widen (Own.ofBlk (lo:=b14) (hi:=b14 + 1) (sz:=1) h14 (Nat.le_refl _) (Nat.lt_succ_self _) (by rfl) (by unfold maxLen;omega)) (by omega) (by omega))),(Node.mkO (⟨gk,0,0,[2,5]⟩ : Node) ⟨trivial,trivial⟩ (Own.widen (Own.ofBlk (lo:=b3) (hi:=b3 + 1) (sz:=1) h3 (Nat.le_refl _) (Nat.lt_succ_self _) (by rfl) (by unfold maxLen;omega)) (by omega) (by omega))),(Node.mkO (⟨4,IntKind.i64.wrap (1 + ((dx4 : Nat) : Int)),0,[3]⟩ : Node) ⟨trivial,trivial⟩ (Own.widen (Own.ofBlk (lo:=b5) (hi:=b5 + 1) (sz:=1) h5 (Nat.le_refl _) (Nat.lt_succ_self _) (by rfl) (by unfold maxLen;omega)) (by omega) (by omega))),(Node.mkO (⟨2,((dx5 : Nat) : Int),0,[4]⟩ : Node) ⟨trivial,trivial⟩ (Own.widen (Own.ofBlk (lo:=b7) (hi:=b7 + 1) (sz:=1) h7 (Nat.le_refl _) (Nat.lt_succ_self _) (by rfl) (by unfold maxLen;omega)) (by omega) (by omega))),(Node.mkO (⟨8,0,0,[]⟩ : Node) ⟨trivial,trivial⟩ (Own.nil _ _ _ _)),(Node.mkO (⟨8,0,0,[]⟩ : Node) ⟨trivial,trivial⟩ (Own.nil _ _ _ _)),trivial⟩ (by omega) (by omega) (show List.Nodup [b15,b14,b3,b5,b7] from by first | (simp;done) | (simp;omega)) rfl (by simp [maxLen])
    exact ⟨(⟨[(⟨1,0,0,[1]⟩ : Node),(⟨gk,0,0,[2,5]⟩ : Node),(⟨4,IntKind.i64.wrap (1 + ((dx4 : Nat) : Int)),0,[3]⟩ : Node),(⟨2,((dx5 : Nat) : Int),0,[4]⟩ : Node),(⟨8,0,0,[]⟩ : Node),(⟨8,0,0,[]⟩ : Node)],IntKind.i64.wrap (1 + ((dx1 : Nat) : Int)),IntKind.i64.wrap (1 + ((dx2 : Nat) : Int))⟩ : Graph),(by first | assumption | (constructor <;> simp <;> done) | (constructor <;> simp [*] <;> omega)),(by simp),(by simp),hcu,⟨_,Z,OwS.widen (OwF.ows hF2) (by have:=E.size;omega) (by omega)⟩⟩
   ·have hc3n : ¬ dx7 = 1:=by first | (have h:=of_decide_eq_false hc3;omega) | (have h:=hc3;simp at h;omega)
    refine Qh (Qi [true,true] Z Z (Qa (Y9 Z Z) Z (Qa (Qe Z) Z (Qd (Qt Z (fun hc4=>?_) (fun hc4=>?_))))))
    ·have hc4n : dx7 = 2:=by first | (have h:=of_decide_eq_true hc4;omega) | (have h:=hc4;simp at h;omega)
     refine Qi [true,true,false,true,true,false] Z Z (Qa (Qf Uj Z) Z (Qa (Qk G8 Z (h2.one 0 Z)) Z (Qz (vs:=[.int .i64 3,.int .i64 4]) (css:=[[.int .i64 3],[.int .i64 4]]) Kd Z Z ⟨⟨Z,Z⟩,⟨Z,Z⟩,trivial⟩ Z Z (fun b16 w37 e23 s16 h16=>?_))))
     replace h16 : Blk w37 b16 [.int .i64 3,.int .i64 4]:=h16
     have g_b16 : w.heap.size ≤ b16:=by have:=E.size;omega
     have y_b16:=h16.lt
     replace E:=E.ext e23;replace hcu:=hcu.ext e23;replace h1:=h1.ext e23;replace h2:=h2.ext e23;replace h3:=h3.ext e23;replace h4:=h4.ext e23;replace h5:=h5.ext e23;replace h6:=h6.ext e23;replace h7:=h7.ext e23;replace h8:=h8.ext e23;replace h9:=h9.ext e23;replace h10:=h10.ext e23;replace h11:=h11.ext e23;replace h12:=h12.ext e23;replace h13:=h13.ext e23;replace h14:=h14.ext e23;replace h15:=h15.ext e23
     have z37:=e23.size
     refine Qa (A0 A3 Z Z (by first | assumption | omega | (simp only [List.length_set];first | assumption | omega) | (simp only [List.getElem_set_self,List.length_set];first | assumption | omega) | (simp only [Y3,Yj,List.length_set];first | assumption | omega) | (simp;done))) Z (Qa (Q7 Ky Z) Z (Xf (cs':=[.int .i64 1,.int .i64 0,.int .i64 0,.slice (some ⟨b14,0,none⟩) 1 1,.int .i64 gk,.int .i64 0,.int .i64 0,.slice (some ⟨b3,0,none⟩) 2 2,.int .i64 4,.int .i64 (IntKind.i64.wrap (1 + ((dx4 : Nat) : Int))),.int .i64 0,.slice (some ⟨b16,0,none⟩) 2 2,.int .i64 2,.int .i64 ((dx5 : Nat) : Int),.int .i64 0,.slice (some ⟨b7,0,none⟩) 1 1,.int .i64 7,.int .i64 0,.int .i64 0,.slice (some ⟨b11,0,none⟩) 1 1,.int .i64 8,.int .i64 0,.int .i64 0,.slice none 0 0]) Uc Z Z Z h15 (Nat.le_of_ble_eq_true Z) Z (fun w38 m14 h15'=>?_)))
     replace h15:=h15'
     replace E:=E.mod m14 (fun g hg=>by cases hg;omega);replace hcu:=hcu.mod m14 (fun g hg=>by cases hg;omega);replace h1:=h1.mod m14 (fun g hg=>by cases hg;omega);replace h2:=h2.mod m14 (fun g hg=>by cases hg;omega);replace h3:=h3.mod m14 (fun g hg=>by cases hg;omega);replace h4:=h4.mod m14 (fun g hg=>by cases hg;omega);replace h5:=h5.mod m14 (fun g hg=>by cases hg;omega);replace h6:=h6.mod m14 (fun g hg=>by cases hg;omega);replace h7:=h7.mod m14 (fun g hg=>by cases hg;omega);replace h8:=h8.mod m14 (fun g hg=>by cases hg;omega);replace h9:=h9.mod m14 (fun g hg=>by cases hg;omega);replace h10:=h10.mod m14 (fun g hg=>by cases hg;omega);replace h11:=h11.mod m14 (fun g hg=>by cases hg;omega);replace h12:=h12.mod m14 (fun g hg=>by cases hg;omega);replace h13:=h13.mod m14 (fun g hg=>by cases hg;omega);replace h14:=h14.mod m14 (fun g hg=>by cases hg;omega);replace h16:=h16.mod m14 (fun g hg=>by cases hg;omega)
     have z38:=m14.size
     refine Qd (Q4 (Yn (Qh (Qi [true,false] Z Z (Qa (Ql Xz Z h2.at Z) Z (Qs (cs':=[.slice (some ⟨b15,0,none⟩) 6 6,.int .i64 (IntKind.i64.wrap (1 + ((dx1 : Nat) : Int))),.int .i64 (IntKind.i64.wrap (1 + ((dx2 : Nat) : Int)))]) Xz Z Z Z (Qg Z (Qg Z (Qg Z Z))) h1 (Nat.le_of_ble_eq_true Z) Z (fun w39 m15 h1'=>?_)))))))
     replace h1:=h1'
     replace E:=E.mod m15 (fun g hg=>by cases hg;omega);replace hcu:=hcu.mod m15 (fun g hg=>by cases hg;omega);replace h2:=h2.mod m15 (fun g hg=>by cases hg;omega);replace h3:=h3.mod m15 (fun g hg=>by cases hg;omega);replace h4:=h4.mod m15 (fun g hg=>by cases hg;omega);replace h5:=h5.mod m15 (fun g hg=>by cases hg;omega);replace h6:=h6.mod m15 (fun g hg=>by cases hg;omega);replace h7:=h7.mod m15 (fun g hg=>by cases hg;omega);replace h8:=h8.mod m15 (fun g hg=>by cases hg;omega);replace h9:=h9.mod m15 (fun g hg=>by cases hg;omega);replace h10:=h10.mod m15 (fun g hg=>by cases hg;omega);replace h11:=h11.mod m15 (fun g hg=>by cases hg;omega);replace h12:=h12.mod m15 (fun g hg=>by cases hg;omega);replace h13:=h13.mod m15 (fun g hg=>by cases hg;omega);replace h14:=h14.mod m15 (fun g hg=>by cases hg;omega);replace h15:=h15.mod m15 (fun g hg=>by cases hg;omega);replace h16:=h16.mod m15 (fun g hg=>by cases hg;omega)
     have z39:=m15.size
     refine Qd (Qx (Xh Z Z (Qv Xz h1.at Z) E ?_))
     have hF3 : OwF w39 b3 w39.heap.size (.slice (some ⟨b15,0,none⟩) 6 6) [(⟨1,0,0,[1]⟩ : Node),(⟨gk,0,0,[2,5]⟩ : Node),(⟨4,IntKind.i64.wrap (1 + ((dx4 : Nat) : Int)),0,[3,4]⟩ : Node),(⟨2,((dx5 : Nat) : Int),0,[4]⟩ : Node),(⟨7,0,0,[1]⟩ : Node),(⟨8,0,0,[]⟩ : Node)] [b15,b14,b3,b16,b7,b11]:=OwF.lit (css:=[[.int .i64 1,.int .i64 0,.int .i64 0,.slice (some ⟨b14,0,none⟩) 1 1],[.int .i64 gk,.int .i64 0,.int .i64 0,.slice (some ⟨b3,0,none⟩) 2 2],[.int .i64 4,.int .i64 (IntKind.i64.wrap (1 + ((dx4 : Nat) : Int))),.int .i64 0,.slice (some ⟨b16,0,none⟩) 2 2],[.int .i64 2,.int .i64 ((dx5 : Nat) : Int),.int .i64 0,.slice (some ⟨b7,0,none⟩) 1 1],[.int .i64 7,.int .i64 0,.int .i64 0,.slice (some ⟨b11,0,none⟩) 1 1],[.int .i64 8,.int .i64 0,.int .i64 0,.slice none 0 0]]) h15 ⟨(Node.mkO (⟨1,0,0,[1]⟩ : Node) ⟨trivial,trivial⟩ (Own.widen (Own.ofBlk (lo:=b14) (hi:=b14 + 1) (sz:=1) h14 (Nat.le_refl _) (Nat.lt_succ_self _) (by rfl) (by unfold maxLen;omega)) (by omega) (by omega))),(Node.mkO (⟨gk,0,0,[2,5]⟩ : Node) ⟨trivial,trivial⟩ (Own.widen (Own.ofBlk (lo:=b3) (hi:=b3 + 1) (sz:=1) h3 (Nat.le_refl _) (Nat.lt_succ_self _) (by rfl) (by unfold maxLen;omega)) (by omega) (by omega))),(Node.mkO (⟨4,IntKind.i64.wrap (1 + ((dx4 : Nat) : Int)),0,[3,4]⟩ : Node) ⟨trivial,trivial⟩ (Own.widen (Own.ofBlk (lo:=b16) (hi:=b16 + 1) (sz:=1) h16 (Nat.le_refl _) (Nat.lt_succ_self _) (by rfl) (by unfold maxLen;omega)) (by omega) (by omega))),(Node.mkO (⟨2,((dx5 : Nat) : Int),0,[4]⟩ : Node) ⟨trivial,trivial⟩ (Own.widen (Own.ofBlk (lo:=b7) (hi:=b7 + 1) (sz:=1) h7 (Nat.le_refl _) (Nat.lt_succ_self _) (by rfl) (by unfold maxLen;omega)) (by omega) (by omega))),(Node.mkO (⟨7,0,0,[1]⟩ : Node) ⟨trivial,trivial⟩ (Own.widen (Own.ofBlk (lo:=b11) (hi:=b11 + 1) (sz:=1) h11 (Nat.le_refl _) (Nat.lt_succ_self _) (by rfl) (by unfold maxLen;omega)) (by omega) (by omega))),(Node.mkO (⟨8,0,0,[]⟩ : Node) ⟨trivial,trivial⟩ (Own.nil _ _ _ _)),trivial⟩ (by omega) (by omega) (show List.Nodup [b15,b14,b3,b16,b7,b11] from by first | (simp;done) | (simp;omega)) rfl (by simp [maxLen])
     exact ⟨(⟨[(⟨1,0,0,[1]⟩ : Node),(⟨gk,0,0,[2,5]⟩ : Node),(⟨4,IntKind.i64.wrap (1 + ((dx4 : Nat) : Int)),0,[3,4]⟩ : Node),(⟨2,((dx5 : Nat) : Int),0,[4]⟩ : Node),(⟨7,0,0,[1]⟩ : Node),(⟨8,0,0,[]⟩ : Node)],IntKind.i64.wrap (1 + ((dx1 : Nat) : Int)),IntKind.i64.wrap (1 + ((dx2 : Nat) : Int))⟩ : Graph),(by first | assumption | (constructor <;> simp <;> done) | (constructor <;> simp [*] <;> omega)),(by simp),(by simp),hcu,⟨_,Z,OwS.widen (OwF.ows hF3) (by have:=E.size;omega) (by omega)⟩⟩
    ·have hc4n : ¬ dx7 = 2:=by first | (have h:=of_decide_eq_false hc4;omega) | (have h:=hc4;simp at h;omega)
     refine Qh (Qi [true,true] Z Z (Qa (Y9 Z Z) Z (Qa (Qe Z) Z (Qd (Qt Z (fun hc5=>?_) (fun hc5=>?_))))))
     ·have hc5n : dx7 = 3:=by first | (have h:=of_decide_eq_true hc5;omega) | (have h:=hc5;simp at h;omega)
      refine Qh ?_
      have hF4 : OwF w32 b3 w32.heap.size (.slice (some ⟨b15,0,none⟩) 6 6) [(⟨1,0,0,[1]⟩ : Node),(⟨gk,0,0,[2,5]⟩ : Node),(⟨4,IntKind.i64.wrap (1 + ((dx4 : Nat) : Int)),0,[3]⟩ : Node),(⟨2,((dx5 : Nat) : Int),0,[4]⟩ : Node),(⟨7,0,0,[1]⟩ : Node),(⟨8,0,0,[]⟩ : Node)] [b15,b14,b3,b5,b7,b11]:=OwF.lit (css:=[[.int .i64 1,.int .i64 0,.int .i64 0,.slice (some ⟨b14,0,none⟩) 1 1],[.int .i64 gk,.int .i64 0,.int .i64 0,.slice (some ⟨b3,0,none⟩) 2 2],[.int .i64 4,.int .i64 (IntKind.i64.wrap (1 + ((dx4 : Nat) : Int))),.int .i64 0,.slice (some ⟨b5,0,none⟩) 1 1],[.int .i64 2,.int .i64 ((dx5 : Nat) : Int),.int .i64 0,.slice (some ⟨b7,0,none⟩) 1 1],[.int .i64 7,.int .i64 0,.int .i64 0,.slice (some ⟨b11,0,none⟩) 1 1],[.int .i64 8,.int .i64 0,.int .i64 0,.slice none 0 0]]) h15 ⟨(Node.mkO (⟨1,0,0,[1]⟩ : Node) ⟨trivial,trivial⟩ (Own.widen (Own.ofBlk (lo:=b14) (hi:=b14 + 1) (sz:=1) h14 (Nat.le_refl _) (Nat.lt_succ_self _) (by rfl) (by unfold maxLen;omega)) (by omega) (by omega))),(Node.mkO (⟨gk,0,0,[2,5]⟩ : Node) ⟨trivial,trivial⟩ (Own.widen (Own.ofBlk (lo:=b3) (hi:=b3 + 1) (sz:=1) h3 (Nat.le_refl _) (Nat.lt_succ_self _) (by rfl) (by unfold maxLen;omega)) (by omega) (by omega))),(Node.mkO (⟨4,IntKind.i64.wrap (1 + ((dx4 : Nat) : Int)),0,[3]⟩ : Node) ⟨trivial,trivial⟩ (Own.widen (Own.ofBlk (lo:=b5) (hi:=b5 + 1) (sz:=1) h5 (Nat.le_refl _) (Nat.lt_succ_self _) (by rfl) (by unfold maxLen;omega)) (by omega) (by omega))),(Node.mkO (⟨2,((dx5 : Nat) : Int),0,[4]⟩ : Node) ⟨trivial,trivial⟩ (Own.widen (Own.ofBlk (lo:=b7) (hi:=b7 + 1) (sz:=1) h7 (Nat.le_refl _) (Nat.lt_succ_self _) (by rfl) (by unfold maxLen;omega)) (by omega) (by omega))),(Node.mkO (⟨7,0,0,[1]⟩ : Node) ⟨trivial,trivial⟩ (Own.widen (Own.ofBlk (lo:=b11) (hi:=b11 + 1) (sz:=1) h11 (Nat.le_refl _) (Nat.lt_succ_self _) (by rfl) (by unfold maxLen;omega)) (by omega) (by omega))),(Node.mkO (⟨8,0,0,[]⟩ : Node) ⟨trivial,trivial⟩ (Own.nil _ _ _ _)),trivial⟩ (by omega) (by omega) (show List.Nodup [b15,b14,b3,b5,b7,b11] from by first | (simp;done) | (simp;omega)) rfl (by simp [maxLen])
      have nh1 : b1 ∉ ([b15,b14,b3,b5,b7,b11] : List Nat):=by simp;omega
      have sp1 : DjL [[b15,b14,b3,b5,b7,b11],[b2]]:=⟨⟨(show Dj [b15,b14,b3,b5,b7,b11] [b2] from fun x hx hc=>by simp at hx hc;omega),trivial⟩,trivial,trivial⟩
      refine Qi [true,true,true,false,false,true,false] Z Z (Qa (Qf Uj Z) Z (Qa (Qk G8 Z (h2.one 0 Z)) Z ?_))
      have hbl10 : ∀ w,(Instr.build 91 ([(0,.int .i64 8)]).toArray).run Tryz.prog w = .ok (.agg [.int .i64 8,.int .i64 0,.int .i64 0,.slice none 0 0].toArray) w:=by clear E;intro w;kernel_rfl
      refine Qa (Ko [.int .i64 8,.int .i64 0,.int .i64 0,.slice none 0 0] Z hbl10) Z (Qz (vs:=[.agg [.int .i64 8,.int .i64 0,.int .i64 0,.slice none 0 0].toArray]) (css:=[[.int .i64 8,.int .i64 0,.int .i64 0,.slice none 0 0]]) A3 Z Z ⟨⟨Z,Z⟩,trivial⟩ Z Z (fun b17 w40 e24 s17 h17=>?_))
      replace h17 : Blk w40 b17 [.int .i64 8,.int .i64 0,.int .i64 0,.slice none 0 0]:=h17
      have g_b17 : w.heap.size ≤ b17:=by have:=E.size;omega
      have y_b17:=h17.lt
      replace E:=E.ext e24;replace hcu:=hcu.ext e24;replace h1:=h1.ext e24;replace h2:=h2.ext e24;replace hF4:=hF4.ext e24
      have z40:=e24.size
      have hy1 : Own1.O (α:=Node) w40 w40.heap.size w40.heap.size [.int .i64 8,.int .i64 0,.int .i64 0,.slice none 0 0] (⟨8,0,0,[]⟩ : Node):=Node.mkO (⟨8,0,0,[]⟩ : Node) ⟨trivial,trivial⟩ (Own.nil _ _ _ _)
      refine J_appendF (lo:=b3) (hi:=w32.heap.size) (lo2:=w40.heap.size) (hi2:=w40.heap.size) A3 Z Z hF4 (Src.ofBlk h17 Z) hy1 (fun b hb hc=>by have:=OwF.in2 hF4 b hb;have:=Own1.inn hy1 b hc;omega) (by simp only [List.length_append,List.length_cons,List.length_nil,List.length_set,show Dat.sz Node = 4 from Z];omega) (by decide) (by omega) (by omega) (by omega) (by omega) (by omega) Z Z (fun v1 w41 f1 m16 ho1 hin1=>?_)
      have hqb:=OwS.inn (OwF.ows hF4)
      have kq1:=Mod.kq (l:=[b15,b14,b3,b5,b7,b11]) m16 (OwF.v_mem hF4)
      replace E:=E.mod m16 (fun g hg=>by have:=hqb g hg;omega);replace hcu:=hcu.mod m16 (fun g hg=>by have:=hqb g hg;omega);replace h1:=Blk.kp h1 (Kq.kp kq1 (fun x hx hc=>by simp at hx;subst hx;exact nh1 hc));replace h2:=Blk.kp h2 (Kq.kp kq1 (sp1.1.1).symm)
      have z41:=m16.size
      replace sp1:=DjL.set (N:=w40.heap.size) hin1 0 rfl sp1 ⟨(fun b hb=>by have:=OwF.in2 hF4 b hb;omega),(fun b hb=>by simp at hb;omega),trivial⟩
      have nh2 : b1 ∉ f1:=fun hx=>(hin1 b1 hx).elim nh1 (fun h=>by omega)
      replace sp1 : DjL [f1,[b2]]:=sp1
      clear hqb hy1 kq1 hF4
      refine Qa (Qf Uj Z) Z (Xf (cs':=[v1,.int .i64 (IntKind.i64.wrap (1 + ((dx1 : Nat) : Int))),.int .i64 (IntKind.i64.wrap (1 + ((dx2 : Nat) : Int)))]) G8 Z Z (RdD.one (OwF.rd ho1)) h2 (Nat.le_of_ble_eq_true Z) Z (fun w42 m17 h2'=>?_))
      replace h2:=h2'
      have kq2:=Mod.kq (l:=[b2]) m17 (fun g hg=>by cases hg;simp)
      replace E:=E.mod m17 (fun g hg=>by cases hg;omega);replace hcu:=hcu.mod m17 (fun g hg=>by cases hg;omega);replace h1:=h1.mod m17 (fun g hg=>by cases hg;omega);replace ho1:=OwF.kp ho1 (Kq.kp kq2 sp1.1.1)
      have z42:=m17.size
      refine Qd ?_
      have hi1 : 0 < ([(⟨1,0,0,[1]⟩ : Node),(⟨gk,0,0,[2,5]⟩ : Node),(⟨4,IntKind.i64.wrap (1 + ((dx4 : Nat) : Int)),0,[3]⟩ : Node),(⟨2,((dx5 : Nat) : Int),0,[4]⟩ : Node),(⟨7,0,0,[1]⟩ : Node),(⟨8,0,0,[]⟩ : Node)] ++ [(⟨8,0,0,[]⟩ : Node)]).length:=(by first | assumption | omega | (simp only [List.length_set];first | assumption | omega) | (simp only [List.getElem_set_self,List.length_set];first | assumption | omega) | (simp only [Y3,Yj,List.length_set];first | assumption | omega) | (simp;done))
      have hK1 : OwK w42 f1 w42 b3 w41.heap.size v1 (([(⟨1,0,0,[1]⟩ : Node),(⟨gk,0,0,[2,5]⟩ : Node),(⟨4,IntKind.i64.wrap (1 + ((dx4 : Nat) : Int)),0,[3]⟩ : Node),(⟨2,((dx5 : Nat) : Int),0,[4]⟩ : Node),(⟨7,0,0,[1]⟩ : Node),(⟨8,0,0,[]⟩ : Node)] ++ [(⟨8,0,0,[]⟩ : Node)]).take 0 ++ ([(⟨1,0,0,[1]⟩ : Node),(⟨gk,0,0,[2,5]⟩ : Node),(⟨4,IntKind.i64.wrap (1 + ((dx4 : Nat) : Int)),0,[3]⟩ : Node),(⟨2,((dx5 : Nat) : Int),0,[4]⟩ : Node),(⟨7,0,0,[1]⟩ : Node),(⟨8,0,0,[]⟩ : Node)] ++ [(⟨8,0,0,[]⟩ : Node)])[0] :: ([(⟨1,0,0,[1]⟩ : Node),(⟨gk,0,0,[2,5]⟩ : Node),(⟨4,IntKind.i64.wrap (1 + ((dx4 : Nat) : Int)),0,[3]⟩ : Node),(⟨2,((dx5 : Nat) : Int),0,[4]⟩ : Node),(⟨7,0,0,[1]⟩ : Node),(⟨8,0,0,[]⟩ : Node)] ++ [(⟨8,0,0,[]⟩ : Node)]).drop (0 + 1)):=⟨by rw [← Ta hi1];exact ho1,Kq.refl _ _⟩
      have hfl1:=OwF.in2 ho1
      obtain ⟨_,ho2,hrow1⟩:=OwK.focus hK1
      obtain ⟨o1,rfl,sp2,hw1⟩:=Node.opO ho2
      clear hK1 ho1
      have hl1 : (([(⟨1,0,0,[1]⟩ : Node),(⟨gk,0,0,[2,5]⟩ : Node),(⟨4,IntKind.i64.wrap (1 + ((dx4 : Nat) : Int)),0,[3]⟩ : Node),(⟨2,((dx5 : Nat) : Int),0,[4]⟩ : Node),(⟨7,0,0,[1]⟩ : Node),(⟨8,0,0,[]⟩ : Node)] ++ [(⟨8,0,0,[]⟩ : Node)]).take 0).length = 0:=by first | (simp;done) | (simp;omega)
      have hn1 : 0 + 1 + (([(⟨1,0,0,[1]⟩ : Node),(⟨gk,0,0,[2,5]⟩ : Node),(⟨4,IntKind.i64.wrap (1 + ((dx4 : Nat) : Int)),0,[3]⟩ : Node),(⟨2,((dx5 : Nat) : Int),0,[4]⟩ : Node),(⟨7,0,0,[1]⟩ : Node),(⟨8,0,0,[]⟩ : Node)] ++ [(⟨8,0,0,[]⟩ : Node)]).drop (0 + 1)).length = ([(⟨1,0,0,[1]⟩ : Node),(⟨gk,0,0,[2,5]⟩ : Node),(⟨4,IntKind.i64.wrap (1 + ((dx4 : Nat) : Int)),0,[3]⟩ : Node),(⟨2,((dx5 : Nat) : Int),0,[4]⟩ : Node),(⟨7,0,0,[1]⟩ : Node),(⟨8,0,0,[]⟩ : Node)] ++ [(⟨8,0,0,[]⟩ : Node)]).length:=by first | (simp;done) | (simp;omega)
      replace hrow1 : RowR f1 w42 b3 w41.heap.size v1 (([(⟨1,0,0,[1]⟩ : Node),(⟨gk,0,0,[2,5]⟩ : Node),(⟨4,IntKind.i64.wrap (1 + ((dx4 : Nat) : Int)),0,[3]⟩ : Node),(⟨2,((dx5 : Nat) : Int),0,[4]⟩ : Node),(⟨7,0,0,[1]⟩ : Node),(⟨8,0,0,[]⟩ : Node)] ++ [(⟨8,0,0,[]⟩ : Node)]).take 0) [.int .i64 ((([(⟨1,0,0,[1]⟩ : Node),(⟨gk,0,0,[2,5]⟩ : Node),(⟨4,IntKind.i64.wrap (1 + ((dx4 : Nat) : Int)),0,[3]⟩ : Node),(⟨2,((dx5 : Nat) : Int),0,[4]⟩ : Node),(⟨7,0,0,[1]⟩ : Node),(⟨8,0,0,[]⟩ : Node)] ++ [(⟨8,0,0,[]⟩ : Node)])[0]'hi1).kind),.int .i64 ((([(⟨1,0,0,[1]⟩ : Node),(⟨gk,0,0,[2,5]⟩ : Node),(⟨4,IntKind.i64.wrap (1 + ((dx4 : Nat) : Int)),0,[3]⟩ : Node),(⟨2,((dx5 : Nat) : Int),0,[4]⟩ : Node),(⟨7,0,0,[1]⟩ : Node),(⟨8,0,0,[]⟩ : Node)] ++ [(⟨8,0,0,[]⟩ : Node)])[0]'hi1).a),.int .i64 ((([(⟨1,0,0,[1]⟩ : Node),(⟨gk,0,0,[2,5]⟩ : Node),(⟨4,IntKind.i64.wrap (1 + ((dx4 : Nat) : Int)),0,[3]⟩ : Node),(⟨2,((dx5 : Nat) : Int),0,[4]⟩ : Node),(⟨7,0,0,[1]⟩ : Node),(⟨8,0,0,[]⟩ : Node)] ++ [(⟨8,0,0,[]⟩ : Node)])[0]'hi1).b),o1] (([(⟨1,0,0,[1]⟩ : Node),(⟨gk,0,0,[2,5]⟩ : Node),(⟨4,IntKind.i64.wrap (1 + ((dx4 : Nat) : Int)),0,[3]⟩ : Node),(⟨2,((dx5 : Nat) : Int),0,[4]⟩ : Node),(⟨7,0,0,[1]⟩ : Node),(⟨8,0,0,[]⟩ : Node)] ++ [(⟨8,0,0,[]⟩ : Node)]).drop (0 + 1)):=hrow1
      refine Qi [true,true,false,true,true,false] Z Z (Qa (Qf Uj Z) Z (Qa (Qk G8 Z (h2.one 0 Z)) Z (Qz (vs:=[.int .i64 1,.int .i64 6]) (css:=[[.int .i64 1],[.int .i64 6]]) Kd Z Z ⟨⟨Z,Z⟩,⟨Z,Z⟩,trivial⟩ Z Z (fun b18 w43 e25 s18 h18=>?_))))
      replace h18 : Blk w43 b18 [.int .i64 1,.int .i64 6]:=h18
      have g_b18 : w.heap.size ≤ b18:=by have:=E.size;omega
      have y_b18:=h18.lt
      replace E:=E.ext e25;replace hcu:=hcu.ext e25;replace h1:=h1.ext e25;replace h2:=h2.ext e25;replace hw1:=hw1.ext e25;replace hrow1:=hrow1.ext e25
      have z43:=e25.size
      refine Qa (Q5 (i:=0) A3 Z Z (RowK.same1 hrow1 hl1 hn1) (by first | (simp;done) | (simp;omega))) Z (Qa (Q7 Ky Z) Z (J_storeEx Z Z (RowK.setFN (N:=w42.heap.size) (lo2:=b3) (hi2:=w43.heap.size) (cs':=[.int .i64 ((([(⟨1,0,0,[1]⟩ : Node),(⟨gk,0,0,[2,5]⟩ : Node),(⟨4,IntKind.i64.wrap (1 + ((dx4 : Nat) : Int)),0,[3]⟩ : Node),(⟨2,((dx5 : Nat) : Int),0,[4]⟩ : Node),(⟨7,0,0,[1]⟩ : Node),(⟨8,0,0,[]⟩ : Node)] ++ [(⟨8,0,0,[]⟩ : Node)])[0]'hi1).kind),.int .i64 ((([(⟨1,0,0,[1]⟩ : Node),(⟨gk,0,0,[2,5]⟩ : Node),(⟨4,IntKind.i64.wrap (1 + ((dx4 : Nat) : Int)),0,[3]⟩ : Node),(⟨2,((dx5 : Nat) : Int),0,[4]⟩ : Node),(⟨7,0,0,[1]⟩ : Node),(⟨8,0,0,[]⟩ : Node)] ++ [(⟨8,0,0,[]⟩ : Node)])[0]'hi1).a),.int .i64 ((([(⟨1,0,0,[1]⟩ : Node),(⟨gk,0,0,[2,5]⟩ : Node),(⟨4,IntKind.i64.wrap (1 + ((dx4 : Nat) : Int)),0,[3]⟩ : Node),(⟨2,((dx5 : Nat) : Int),0,[4]⟩ : Node),(⟨7,0,0,[1]⟩ : Node),(⟨8,0,0,[]⟩ : Node)] ++ [(⟨8,0,0,[]⟩ : Node)])[0]'hi1).b),.slice (some ⟨b18,0,none⟩) 2 2]) (k:=3) Uc hrow1 hl1 (by decide) Z Z (Node.mkO (⟨(([(⟨1,0,0,[1]⟩ : Node),(⟨gk,0,0,[2,5]⟩ : Node),(⟨4,IntKind.i64.wrap (1 + ((dx4 : Nat) : Int)),0,[3]⟩ : Node),(⟨2,((dx5 : Nat) : Int),0,[4]⟩ : Node),(⟨7,0,0,[1]⟩ : Node),(⟨8,0,0,[]⟩ : Node)] ++ [(⟨8,0,0,[]⟩ : Node)])[0]'hi1).kind,(([(⟨1,0,0,[1]⟩ : Node),(⟨gk,0,0,[2,5]⟩ : Node),(⟨4,IntKind.i64.wrap (1 + ((dx4 : Nat) : Int)),0,[3]⟩ : Node),(⟨2,((dx5 : Nat) : Int),0,[4]⟩ : Node),(⟨7,0,0,[1]⟩ : Node),(⟨8,0,0,[]⟩ : Node)] ++ [(⟨8,0,0,[]⟩ : Node)])[0]'hi1).a,(([(⟨1,0,0,[1]⟩ : Node),(⟨gk,0,0,[2,5]⟩ : Node),(⟨4,IntKind.i64.wrap (1 + ((dx4 : Nat) : Int)),0,[3]⟩ : Node),(⟨2,((dx5 : Nat) : Int),0,[4]⟩ : Node),(⟨7,0,0,[1]⟩ : Node),(⟨8,0,0,[]⟩ : Node)] ++ [(⟨8,0,0,[]⟩ : Node)])[0]'hi1).b,[1,6]⟩ : Node) ⟨trivial,trivial⟩ (Own.widen (Own.ofBlk (lo:=b18) (hi:=b18 + 1) (sz:=1) h18 (Nat.le_refl _) (Nat.lt_succ_self _) (by rfl) (by unfold maxLen;omega)) (by omega) (by omega))) ⟨(fun _ h=>absurd h List.not_mem_nil),(fun _ h=>absurd h List.not_mem_nil),(fun _ h=>absurd h List.not_mem_nil),(fun b hb=>.inr (by have:=Own.in2 (Own.ofBlk (lo:=b18) (hi:=b18 + 1) (sz:=1) h18 (Nat.le_refl _) (Nat.lt_succ_self _) (by rfl) (by unfold maxLen;omega)) b hb;omega)),trivial⟩ (fun b hb=>by have:=hfl1 b hb;omega) (by omega) (by omega)) (fun w44 m18 hR=>?_)))
      obtain ⟨f2,ho1,hin2⟩:=hR
      have kq3:=Mod.kq (l:=f1) m18 (RowK.v_mem hrow1)
      have hqb:=RowK.blk hrow1
      replace E:=E.mod m18 (fun g hg=>by have:=hqb g hg;omega);replace hcu:=hcu.mod m18 (fun g hg=>by have:=hqb g hg;omega);replace h1:=Blk.kp h1 (Kq.kp kq3 (fun x hx hc=>by simp at hx;subst hx;exact nh2 hc));replace h2:=Blk.kp h2 (Kq.kp kq3 (sp1.1.1).symm);replace h18:=h18.mod m18 (fun g hg=>by have:=hqb g hg;omega)
      have z44:=m18.size
      clear hqb hrow1
      have nh3 : b1 ∉ f2:=fun hx=>(hin2 b1 hx).elim nh2 (fun h=>by omega)
      clear h18
      replace sp1:=DjL.set (N:=w42.heap.size) hin2 0 rfl sp1 ⟨(fun b hb=>by have:=hfl1 b hb;omega),(fun b hb=>by simp at hb;omega),trivial⟩
      replace sp1 : DjL [f2,[b2]]:=sp1
      rw [← T6 hi1] at ho1
      clear hfl1
      refine Qd (Q4 (Yn (Qh (Qi [true,false] Z Z (Qa (Ql Xz Z h2.at Z) Z (Qs (cs':=[v1,.int .i64 (IntKind.i64.wrap (1 + ((dx1 : Nat) : Int))),.int .i64 (IntKind.i64.wrap (1 + ((dx2 : Nat) : Int)))]) Xz Z Z Z (Qg (RdD.one (OwF.rd ho1)) (Qg Z (Qg Z Z))) h1 (Nat.le_of_ble_eq_true Z) Z (fun w45 m19 h1'=>?_)))))))
      replace h1:=h1'
      replace E:=E.mod m19 (fun g hg=>by cases hg;omega);replace hcu:=hcu.mod m19 (fun g hg=>by cases hg;omega);replace h2:=h2.mod m19 (fun g hg=>by cases hg;omega);replace ho1:=ho1.mod m19 (fun g hg=>by cases hg;omega)
      have z45:=m19.size
      refine Qd (Qx (Xh Z Z (Qv Xz h1.at Z) E ?_))
      exact ⟨(⟨List.set ([(⟨1,0,0,[1]⟩ : Node),(⟨gk,0,0,[2,5]⟩ : Node),(⟨4,IntKind.i64.wrap (1 + ((dx4 : Nat) : Int)),0,[3]⟩ : Node),(⟨2,((dx5 : Nat) : Int),0,[4]⟩ : Node),(⟨7,0,0,[1]⟩ : Node),(⟨8,0,0,[]⟩ : Node)] ++ [(⟨8,0,0,[]⟩ : Node)]) 0 (⟨(([(⟨1,0,0,[1]⟩ : Node),(⟨gk,0,0,[2,5]⟩ : Node),(⟨4,IntKind.i64.wrap (1 + ((dx4 : Nat) : Int)),0,[3]⟩ : Node),(⟨2,((dx5 : Nat) : Int),0,[4]⟩ : Node),(⟨7,0,0,[1]⟩ : Node),(⟨8,0,0,[]⟩ : Node)] ++ [(⟨8,0,0,[]⟩ : Node)])[0]'hi1).kind,(([(⟨1,0,0,[1]⟩ : Node),(⟨gk,0,0,[2,5]⟩ : Node),(⟨4,IntKind.i64.wrap (1 + ((dx4 : Nat) : Int)),0,[3]⟩ : Node),(⟨2,((dx5 : Nat) : Int),0,[4]⟩ : Node),(⟨7,0,0,[1]⟩ : Node),(⟨8,0,0,[]⟩ : Node)] ++ [(⟨8,0,0,[]⟩ : Node)])[0]'hi1).a,(([(⟨1,0,0,[1]⟩ : Node),(⟨gk,0,0,[2,5]⟩ : Node),(⟨4,IntKind.i64.wrap (1 + ((dx4 : Nat) : Int)),0,[3]⟩ : Node),(⟨2,((dx5 : Nat) : Int),0,[4]⟩ : Node),(⟨7,0,0,[1]⟩ : Node),(⟨8,0,0,[]⟩ : Node)] ++ [(⟨8,0,0,[]⟩ : Node)])[0]'hi1).b,[1,6]⟩ : Node),IntKind.i64.wrap (1 + ((dx1 : Nat) : Int)),IntKind.i64.wrap (1 + ((dx2 : Nat) : Int))⟩ : Graph),(by first | assumption | (constructor <;> simp <;> done) | (constructor <;> simp [*] <;> omega)),(by simp),(by simp),hcu,⟨_,Z,OwS.widen (OwF.ows ho1) (by have:=E.size;omega) (by omega)⟩⟩
     ·have hc5n : ¬ dx7 = 3:=by first | (have h:=of_decide_eq_false hc5;omega) | (have h:=hc5;simp at h;omega)
      refine Qy (Q4 (Yn (Qh (Qi [true,false] Z Z (Qa (Ql Xz Z h2.at Z) Z (Qs (cs':=[.slice (some ⟨b15,0,none⟩) 6 6,.int .i64 (IntKind.i64.wrap (1 + ((dx1 : Nat) : Int))),.int .i64 (IntKind.i64.wrap (1 + ((dx2 : Nat) : Int)))]) Xz Z Z Z (Qg Z (Qg Z (Qg Z Z))) h1 (Nat.le_of_ble_eq_true Z) Z (fun w46 m20 h1'=>?_)))))))
      replace h1:=h1'
      replace E:=E.mod m20 (fun g hg=>by cases hg;omega);replace hcu:=hcu.mod m20 (fun g hg=>by cases hg;omega);replace h2:=h2.mod m20 (fun g hg=>by cases hg;omega);replace h3:=h3.mod m20 (fun g hg=>by cases hg;omega);replace h4:=h4.mod m20 (fun g hg=>by cases hg;omega);replace h5:=h5.mod m20 (fun g hg=>by cases hg;omega);replace h6:=h6.mod m20 (fun g hg=>by cases hg;omega);replace h7:=h7.mod m20 (fun g hg=>by cases hg;omega);replace h8:=h8.mod m20 (fun g hg=>by cases hg;omega);replace h9:=h9.mod m20 (fun g hg=>by cases hg;omega);replace h10:=h10.mod m20 (fun g hg=>by cases hg;omega);replace h11:=h11.mod m20 (fun g hg=>by cases hg;omega);replace h12:=h12.mod m20 (fun g hg=>by cases hg;omega);replace h13:=h13.mod m20 (fun g hg=>by cases hg;omega);replace h14:=h14.mod m20 (fun g hg=>by cases hg;omega);replace h15:=h15.mod m20 (fun g hg=>by cases hg;omega)
      have z46:=m20.size
      refine Qd (Qx (Xh Z Z (Qv Xz h1.at Z) E ?_))
      have hF5 : OwF w46 b3 w46.heap.size (.slice (some ⟨b15,0,none⟩) 6 6) [(⟨1,0,0,[1]⟩ : Node),(⟨gk,0,0,[2,5]⟩ : Node),(⟨4,IntKind.i64.wrap (1 + ((dx4 : Nat) : Int)),0,[3]⟩ : Node),(⟨2,((dx5 : Nat) : Int),0,[4]⟩ : Node),(⟨7,0,0,[1]⟩ : Node),(⟨8,0,0,[]⟩ : Node)] [b15,b14,b3,b5,b7,b11]:=OwF.lit (css:=[[.int .i64 1,.int .i64 0,.int .i64 0,.slice (some ⟨b14,0,none⟩) 1 1],[.int .i64 gk,.int .i64 0,.int .i64 0,.slice (some ⟨b3,0,none⟩) 2 2],[.int .i64 4,.int .i64 (IntKind.i64.wrap (1 + ((dx4 : Nat) : Int))),.int .i64 0,.slice (some ⟨b5,0,none⟩) 1 1],[.int .i64 2,.int .i64 ((dx5 : Nat) : Int),.int .i64 0,.slice (some ⟨b7,0,none⟩) 1 1],[.int .i64 7,.int .i64 0,.int .i64 0,.slice (some ⟨b11,0,none⟩) 1 1],[.int .i64 8,.int .i64 0,.int .i64 0,.slice none 0 0]]) h15 ⟨(Node.mkO (⟨1,0,0,[1]⟩ : Node) ⟨trivial,trivial⟩ (Own.widen (Own.ofBlk (lo:=b14) (hi:=b14 + 1) (sz:=1) h14 (Nat.le_refl _) (Nat.lt_succ_self _) (by rfl) (by unfold maxLen;omega)) (by omega) (by omega))),(Node.mkO (⟨gk,0,0,[2,5]⟩ : Node) ⟨trivial,trivial⟩ (Own.widen (Own.ofBlk (lo:=b3) (hi:=b3 + 1) (sz:=1) h3 (Nat.le_refl _) (Nat.lt_succ_self _) (by rfl) (by unfold maxLen;omega)) (by omega) (by omega))),(Node.mkO (⟨4,IntKind.i64.wrap (1 + ((dx4 : Nat) : Int)),0,[3]⟩ : Node) ⟨trivial,trivial⟩ (Own.widen (Own.ofBlk (lo:=b5) (hi:=b5 + 1) (sz:=1) h5 (Nat.le_refl _) (Nat.lt_succ_self _) (by rfl) (by unfold maxLen;omega)) (by omega) (by omega))),(Node.mkO (⟨2,((dx5 : Nat) : Int),0,[4]⟩ : Node) ⟨trivial,trivial⟩ (Own.widen (Own.ofBlk (lo:=b7) (hi:=b7 + 1) (sz:=1) h7 (Nat.le_refl _) (Nat.lt_succ_self _) (by rfl) (by unfold maxLen;omega)) (by omega) (by omega))),(Node.mkO (⟨7,0,0,[1]⟩ : Node) ⟨trivial,trivial⟩ (Own.widen (Own.ofBlk (lo:=b11) (hi:=b11 + 1) (sz:=1) h11 (Nat.le_refl _) (Nat.lt_succ_self _) (by rfl) (by unfold maxLen;omega)) (by omega) (by omega))),(Node.mkO (⟨8,0,0,[]⟩ : Node) ⟨trivial,trivial⟩ (Own.nil _ _ _ _)),trivial⟩ (by omega) (by omega) (show List.Nodup [b15,b14,b3,b5,b7,b11] from by first | (simp;done) | (simp;omega)) rfl (by simp [maxLen])
      exact ⟨(⟨[(⟨1,0,0,[1]⟩ : Node),(⟨gk,0,0,[2,5]⟩ : Node),(⟨4,IntKind.i64.wrap (1 + ((dx4 : Nat) : Int)),0,[3]⟩ : Node),(⟨2,((dx5 : Nat) : Int),0,[4]⟩ : Node),(⟨7,0,0,[1]⟩ : Node),(⟨8,0,0,[]⟩ : Node)],IntKind.i64.wrap (1 + ((dx1 : Nat) : Int)),IntKind.i64.wrap (1 + ((dx2 : Nat) : Int))⟩ : Graph),(by first | assumption | (constructor <;> simp <;> done) | (constructor <;> simp [*] <;> omega)),(by simp),(by simp),hcu,⟨_,Z,OwS.widen (OwF.ows hF5) (by have:=E.size;omega) (by omega)⟩⟩

end Go.Proofs.YtcpjlfikdobckaaGreat
