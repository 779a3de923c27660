/- What the functions that the laws call come to: a contract each; no condition. -/
import Derived.Test.YtaangeddnfnhdaaGreatFns
namespace Go.Proofs.YtaangeddnfnhdaaGreat
open Go Go.Proofs.YtaangeddnfnhdaaGreat.X Go.Proofs
set_option maxHeartbeats 4000000 in
set_option maxRecDepth 20000 in
theorem s_GraphOk (cg : List Value) (g : Graph) (w : World) (hg : Dat.R w 0 w.heap.size cg g) : Ct Tryz.prog 89 [.agg cg.toArray] w (fun v _=>v = .bool (Ys g)):=by
 refine Yh Tryz.func89 Z Tryz.ntmps89 Z ?_
 obtain ⟨o1,rfl,hd1⟩:=Graph.op hg
 refine Q7 [(0,.agg [o1,.int .i64 g.workers,.int .i64 g.cap].toArray)] ⟨Z,trivial⟩ ?_
 have E : Ext w w:=Ext.refl w
 refine Qf (Qh [false,true] Z Z (Y1 Z Z (fun b1 w1 e1 s1 h1=>?_)))
 have g_b1 : w.heap.size ≤ b1:=by have:=E.size;omega
 have y_b1:=h1.lt
 replace E:=E.trans e1
 have z1:=e1.size
 refine Qa (Qe Z) Z (Qd (Qf (Qf (Qh [true,true,true,false,true,true,true,true,false,true,true,true,true,true,false,true,true] Z Z (Qa (Qb Kd Z) Z (Qa (Qj Gc Z (h1.one 0 Z)) Z (Qa (Ya Tryz.underlying32 Z (hd1.ext E).len) Z (Qv Tryz.call93 Z (s_l01In ((g.nodes.length : Nat) : Int) 1 8 _ ) Z (fun _ w2 e2 hv=>?_)))))))))
 subst hv
 replace E:=E.trans e2;replace h1:=h1.ext e2
 have z2:=e2.size
 refine Qa (Yq Z) Z (Qa (Qc Z) Z (Y7 11 [(0,.agg [o1,.int .i64 g.workers,.int .i64 g.cap].toArray),(1,.pointer (some ⟨b1,0,none⟩)),(2,.bool false),(24,.bool (((!(Yw ((g.nodes.length : Nat) : Int) 1 8)) || (!(Yw g.workers 1 4))) || (!(Yw g.cap 1 4))))] (fun w'=>Ext w w' ∧ w2.heap.size ≤ w'.heap.size ∧ Blk w' b1 ([o1,.int .i64 g.workers,.int .i64 g.cap])) ?_ ?_))
 ·refine Y3 (gd:=13) Z Z (fun hg1=>?_) (fun hg1=>?_)
  ·refine Qg Z Z Z Z (Qg Z Z Z Z ?_)
   refine Yp Z Z Z Z ?_
   refine Qg Z Z Z Z (Qa (Qx Z Z) Z (Qa (Qc Z) Z (Qg Z Z Z Z (Qg Z Z Z Z ?_))))
   refine Yp Z Z Z Z ?_
   refine Qg Z Z Z Z (Qa (Qx Z Z) Z (Qp ⟨Z,Z,Z,congrArg (fun b=>some (Value.bool b)) (show true = (((!(Yw ((g.nodes.length : Nat) : Int) 1 8)) || (!(Yw g.workers 1 4))) || (!(Yw g.cap 1 4))) by first | (rw [hg1] <;> rfl) | (simp [hg1];done) | (simp only [Qo] <;> simp)),trivial⟩ ⟨E,(by omega),h1⟩))
  ·refine Qm Z Z (Qb Cg Z) Z (Qm Z Z (Qj Yo Z (h1.one 1 Z)) Z ?_)
   refine Xp Z Z ?_
   refine Qv Tryz.call93 Z (s_l01In g.workers 1 4 _ ) Z (fun _ w4 e3 hv=>?_)
   subst hv
   replace E:=E.trans e3;replace h1:=h1.ext e3
   have z3:=e3.size
   refine Qm Z Z (Yq Z) Z (Qa (Qy Z Z) Z (Qa (Qc Z) Z ?_))
   refine Y3 (gd:=19) Z Z (fun hg2=>?_) (fun hg2=>?_)
   ·refine Qg Z Z Z Z (Qg Z Z Z Z ?_)
    refine Yp Z Z Z Z ?_
    refine Qg Z Z Z Z (Qa (Qx Z Z) Z (Qp ⟨Z,Z,Z,congrArg (fun b=>some (Value.bool b)) (show true = (((!(Yw ((g.nodes.length : Nat) : Int) 1 8)) || (!(Yw g.workers 1 4))) || (!(Yw g.cap 1 4))) by first | (rw [hg1,hg2] <;> rfl) | (simp [hg1,hg2];done) | (simp only [Qo] <;> simp)),trivial⟩ ⟨E,(by omega),h1⟩))
   ·refine Qm Z Z (Qb Cf Z) Z (Qm Z Z (Qj Yo Z (h1.one 2 Z)) Z ?_)
    refine Xp Z Z ?_
    refine Qv Tryz.call93 Z (s_l01In g.cap 1 4 _ ) Z (fun _ w5 e4 hv=>?_)
    subst hv
    replace E:=E.trans e4;replace h1:=h1.ext e4
    have z4:=e4.size
    refine Qm Z Z (Yq Z) Z (Qa (Qy Z Z) Z (Qp ⟨Z,Z,Z,congrArg (fun b=>some (Value.bool b)) (show (!(Yw g.cap 1 4)) = (((!(Yw ((g.nodes.length : Nat) : Int) 1 8)) || (!(Yw g.workers 1 4))) || (!(Yw g.cap 1 4))) by first | (rw [hg1,hg2] <;> rfl) | (simp [hg1,hg2];done) | (simp only [Qo] <;> simp)),trivial⟩ ⟨E,(by omega),h1⟩))
 clear E h1
 rintro w3 ⟨E,z5,h1⟩
 refine Qd (Qs Z (fun hc1=>?_) (fun hc1=>?_))
 ·refine Qf (Qh [true] Z Z (Qa (Qe Z) Z (Qd (Qw (Ql Z Z E ?_)))))
  exact graph_h (by assumption)
 ·refine Qn (Qf (Qf (Qh [true] Z Z (Qa (Qe Z) Z (Qd (Q0 (Ym (fun (i : Nat)=>[(1,.pointer (some ⟨b1,0,none⟩)),(2,.bool false),(3,.int .i64 ((i : Nat) : Int))]) (fun (i : Nat) w'=>Ext w w' ∧ w3.heap.size ≤ w'.heap.size ∧ Blk w' b1 ([o1,.int .i64 g.workers,.int .i64 g.cap]) ∧ i ≤ g.nodes.length ∧ (∀ j,j < i → Ud g j (List.getD g.nodes j default) = true)) (fun (i : Nat)=>g.nodes.length - i) 0 ⟨Z,Z,Z,trivial⟩ ⟨E,Nat.le_refl _,h1,Nat.zero_le _,(fun j hj=>by omega)⟩ ?_)))))))
  clear E h1
  rintro i w6 ⟨E,z6,h1,hle,hp⟩
  refine Qf (Qf (Qh [true,true,true,true,true] Z Z (Qa (Qc Z) Z (Qa (Qb Kd Z) Z (Qa (Qj Gc Z (h1.one 0 Z)) Z (Qa (Ya Tryz.underlying32 Z (hd1.ext E).len) Z (Qa (Yf Z Z) Z (Qd (Qs Z (fun hc2=>?_) (fun hc2=>?_))))))))))
  ·have hc2n : i < g.nodes.length:=by first | (have h:=of_decide_eq_true hc2;omega) | (have h:=hc2;simp at h;omega)
   refine Qn (Qf (Q0 (Qf (Qh [true,true,true,true,true,false,false] Z Z (Qa (Qb Kd Z) Z (Qa (Qj Gc Z (h1.one 0 Z)) Z (Qa (Qc Z) Z ?_)))))))
   have hi1 : i < g.nodes.length:=(by first | assumption | omega | (simp only [List.length_set];first | assumption | omega))
   obtain ⟨_,hr1,ha1⟩:=RdD.get hd1 hi1
   obtain ⟨o2,rfl,hd2⟩:=Node.op hr1
   replace ha1 : At w (Xf o1) (Xm o1 + i * 4) [.int .i64 ((g.nodes[i]'hi1).kind),.int .i64 ((g.nodes[i]'hi1).a),.int .i64 ((g.nodes[i]'hi1).b),o2]:=ha1
   refine Qa (Q1 (i:=i) Gv Z Z (hd1.ext E).1 hi1) Z (Qa (Qt Xo Z (ha1.ext E) Z) Z (Yk Xo Z (fun b2 w7 e5 s2 h2=>?_)))
   have g_b2 : w.heap.size ≤ b2:=by have:=E.size;omega
   have y_b2:=h2.lt
   replace E:=E.trans e5;replace h1:=h1.ext e5
   have z7:=e5.size
   refine Q6 (cs':=[.int .i64 ((g.nodes[i]'hi1).kind),.int .i64 ((g.nodes[i]'hi1).a),.int .i64 ((g.nodes[i]'hi1).b),o2]) Xo Z Z Z (Qk Z (Qk Z (Qk Z (Qk (RdD.one (hd2.ext E)) Z)))) h2 (Nat.le_of_ble_eq_true Z) Z (fun w8 m1 h2'=>?_)
   replace h2:=h2'
   replace E:=E.step m1 (fun g hg=>by cases hg;omega);replace h1:=h1.mod m1 (fun g hg=>by cases hg;omega)
   have z8:=m1.size
   refine Qd (Qf (Qf (Qh [true,false,true,true,true,true,true,true,true,true,true] Z Z (Qa (Qt Xo Z h2.at Z) Z (Qv Tryz.call125 Z (s_NodeOk [.int .i64 ((g.nodes[i]'hi1).kind),.int .i64 ((g.nodes[i]'hi1).a),.int .i64 ((g.nodes[i]'hi1).b),o2] (g.nodes[i]'hi1) _ (Node.mkR (g.nodes[i]'hi1) (RdD.any (hd2.ext E)))) Z (fun _ w9 e6 hv=>?_))))))
   subst hv
   replace E:=E.trans e6;replace h1:=h1.ext e6;replace h2:=h2.ext e6
   have z9:=e6.size
   refine Qa (Yq Z) Z (Qa (Qc Z) Z (Y7 7 [(1,.pointer (some ⟨b1,0,none⟩)),(2,.bool false),(3,.int .i64 ((i : Nat) : Int)),(4,.pointer (some ⟨b2,0,none⟩)),(25,.int .i64 ((i : Nat) : Int)),(26,.pointer (some ⟨b1,0,none⟩)),(27,o1),(28,.int .i64 ((g.nodes.length : Nat) : Int)),(29,.bool (decide (((i : Nat) : Int) < ((g.nodes.length : Nat) : Int)))),(32,.pointer (some ⟨b1,0,none⟩)),(33,o1),(34,.int .i64 ((i : Nat) : Int)),(35,.pointer (some ⟨Xf o1,Xm o1 + i * 4,none⟩)),(36,.agg [.int .i64 ((g.nodes[i]'hi1).kind),.int .i64 ((g.nodes[i]'hi1).a),.int .i64 ((g.nodes[i]'hi1).b),o2].toArray),(47,.bool ((!(Xb (g.nodes[i]'hi1))) || (!((((g.nodes[i]'hi1).kind) == 1) == (((i : Nat) : Int) == 0)))))] (fun w'=>w9 = w') ?_ ?_))
   ·refine Y3 (gd:=40) Z Z (fun hg3=>?_) (fun hg3=>?_)
    ·refine Qg Z Z Z Z (Qg Z Z Z Z (Qg Z Z Z Z (Qg Z Z Z Z (Qg Z Z Z Z (Qg Z Z Z Z (Qa (Qx Z Z) Z (Qp ⟨Z,Z,Z,Z,Z,Z,Z,Z,Z,Z,Z,Z,Z,Z,congrArg (fun b=>some (Value.bool b)) (show true = ((!(Xb (g.nodes[i]'hi1))) || (!((((g.nodes[i]'hi1).kind) == 1) == (((i : Nat) : Int) == 0)))) by first | (rw [hg3] <;> rfl) | (simp [hg3];done) | (simp only [Qo] <;> simp)),trivial⟩ Z)))))))
    ·refine Qm Z Z (Qb Xk Z) Z (Qm Z Z (Qj Yo Z (h2.one 0 Z)) Z (Qm Z Z (Y6 Z Z) Z (Qm Z Z (Qc Z) Z (Qm Z Z (Y6 Z Z) Z (Qm Z Z (Vf (Tryz.underlying4) Z Z) Z (Qa (Qy Z Z) Z (Qp ⟨Z,Z,Z,Z,Z,Z,Z,Z,Z,Z,Z,Z,Z,Z,congrArg (fun b=>some (Value.bool b)) (show (!((((g.nodes[i]'hi1).kind) == 1) == (((i : Nat) : Int) == 0))) = ((!(Xb (g.nodes[i]'hi1))) || (!((((g.nodes[i]'hi1).kind) == 1) == (((i : Nat) : Int) == 0)))) by first | (rw [hg3] <;> rfl) | (simp [hg3];done) | (simp only [Qo] <;> simp)),trivial⟩ Z)))))))
   rintro _ rfl
   refine Qd (Qs Z (fun hc3=>?_) (fun hc3=>?_))
   ·refine Qf (Qh [true] Z Z (Qa (Qe Z) Z (Qd (Qw (Q2 (Y0 (Q2 (Ql Z Z E ?_))))))))
    exact graph_a (by assumption)
   ·refine Qn (Qf (Qh [true] Z Z (Qa (Qe Z) Z (Qd (Q0 (Ym (fun (k : Nat)=>[(1,.pointer (some ⟨b1,0,none⟩)),(2,.bool false),(3,.int .i64 ((i : Nat) : Int)),(4,.pointer (some ⟨b2,0,none⟩)),(5,.int .i64 ((k : Nat) : Int))]) (fun (k : Nat) w'=>Ext w w' ∧ w9.heap.size ≤ w'.heap.size ∧ Blk w' b1 ([o1,.int .i64 g.workers,.int .i64 g.cap]) ∧ Blk w' b2 [.int .i64 ((g.nodes[i]'hi1).kind),.int .i64 ((g.nodes[i]'hi1).a),.int .i64 ((g.nodes[i]'hi1).b),o2] ∧ k ≤ (g.nodes[i]'hi1).outs.length ∧ ((g.nodes[i]'hi1).outs.take k).all (fun to=>!Um g i (g.nodes[i]'hi1) to) = true) (fun (k : Nat)=>(g.nodes[i]'hi1).outs.length - k) 0 ⟨Z,Z,Z,Z,Z,trivial⟩ ⟨E,Nat.le_refl _,h1,h2,Nat.zero_le _,Z⟩ ?_))))))
    clear E h1 h2
    rintro k w11 ⟨E,z10,h1,h2,hk,hI⟩
    refine Qf (Qf (Qh [true,true,true,true,true] Z Z (Qa (Qc Z) Z (Qa (Qb Y8 Z) Z (Qa (Qj Ke Z (h2.one 3 Z)) Z (Qa (Ya Tryz.underlying66 Z (hd2.ext E).len) Z (Qa (Yf Z Z) Z (Qd (Qs Z (fun hc4=>?_) (fun hc4=>?_))))))))))
    ·have hc4n : k < ((g.nodes[i]'hi1).outs).length:=by first | (have h:=of_decide_eq_true hc4;omega) | (have h:=hc4;simp at h;omega)
     refine Qn (Qf (Q0 (Qf (Qh [true,true,true,true,true,true] Z Z (Qa (Qb Y8 Z) Z (Qa (Qj Ke Z (h2.one 3 Z)) Z (Qa (Qc Z) Z ?_)))))))
     have hi2 : k < ((g.nodes[i]'hi1).outs).length:=(by first | assumption | omega | (simp only [List.length_set];first | assumption | omega))
     refine Qa (Q1 (i:=k) Uv Z Z (hd2.rd.ext E) hi2) Z (Qa (Qj Yo Z (((hd2.rd.ext E).get hi2).one 0 Z)) Z (Qa (Qe Z) Z (Qd (Qf (Qf (Qh [true,true,true,true,true,true,true,true,true,true,true,true,true,true,true] Z Z (Qa (Qc Z) Z (Qa (Qb Kd Z) Z (Qa (Qj Gc Z (h1.one 0 Z)) Z (Qa (Ya Tryz.underlying32 Z (hd1.ext E).len) Z (Qa (T0 Z Z) Z (Qa (Qc Z) Z (Y7 9 [(1,.pointer (some ⟨b1,0,none⟩)),(2,.bool false),(3,.int .i64 ((i : Nat) : Int)),(4,.pointer (some ⟨b2,0,none⟩)),(5,.int .i64 ((k : Nat) : Int)),(6,.int .i64 (((g.nodes[i]'hi1).outs)[k]'hi2)),(48,.int .i64 ((k : Nat) : Int)),(49,.pointer (some ⟨b2,3,none⟩)),(50,o2),(51,.int .i64 ((((g.nodes[i]'hi1).outs).length : Nat) : Int)),(52,.bool (decide (((k : Nat) : Int) < ((((g.nodes[i]'hi1).outs).length : Nat) : Int)))),(55,.pointer (some ⟨b2,3,none⟩)),(56,o2),(57,.int .i64 ((k : Nat) : Int)),(58,.pointer (some ⟨Xf o2,Xm o2 + k * 1,none⟩)),(59,.int .i64 (((g.nodes[i]'hi1).outs)[k]'hi2)),(74,.bool ((decide (((g.nodes.length : Nat) : Int) ≤ (((g.nodes[i]'hi1).outs)[k]'hi2))) || ((((g.nodes[i]'hi1).kind) != 7) && (decide ((((g.nodes[i]'hi1).outs)[k]'hi2) ≤ ((i : Nat) : Int))))))] (fun w'=>w11 = w') ?_ ?_)))))))))))))
     ·refine Y3 (gd:=65) Z Z (fun hg4=>?_) (fun hg4=>?_)
      ·refine Qg Z Z Z Z (Qg Z Z Z Z (Qg Z Z Z Z (Qg Z Z Z Z (Q9 Z Z Z (Q9 Z Z Z (Q9 Z Z Z (Qg Z Z Z Z (Qa (Qx Z Z) Z (Qp ⟨Z,Z,Z,Z,Z,Z,Z,Z,Z,Z,Z,Z,Z,Z,Z,Z,congrArg (fun b=>some (Value.bool b)) (show true = ((decide (((g.nodes.length : Nat) : Int) ≤ (((g.nodes[i]'hi1).outs)[k]'hi2))) || ((((g.nodes[i]'hi1).kind) != 7) && (decide ((((g.nodes[i]'hi1).outs)[k]'hi2) ≤ ((i : Nat) : Int))))) by first | (rw [hg4] <;> rfl) | (simp [hg4];done) | (simp only [Qo] <;> simp)),trivial⟩ Z)))))))))
      ·have hto:=Dn (h1:=hi1) (h2:=hi2) (by assumption)
       have htl:=Int.not_le.1 (of_decide_eq_false hg4)
       refine Qm Z Z (Qb Xk Z) Z (Qm Z Z (Qj Yo Z (h2.one 0 Z)) Z (Qm Z Z (Yu Z Z) Z (Qm Z Z (Qc Z) Z ?_)))
       refine Y3 (gd:=69) Z Z (fun hg5=>?_) (fun hg5=>?_)
       ·refine Qm Z Z (Qc Z) Z (Qm Z Z (Qc Z) Z (Qm Z Z (Aw Z Z) Z (Qm Z Z (Qx Z Z) Z (Qa (Qy Z Z) Z (Qp ⟨Z,Z,Z,Z,Z,Z,Z,Z,Z,Z,Z,Z,Z,Z,Z,Z,congrArg (fun b=>some (Value.bool b)) (show (decide ((((g.nodes[i]'hi1).outs)[k]'hi2) ≤ ((i : Nat) : Int))) = ((decide (((g.nodes.length : Nat) : Int) ≤ (((g.nodes[i]'hi1).outs)[k]'hi2))) || ((((g.nodes[i]'hi1).kind) != 7) && (decide ((((g.nodes[i]'hi1).outs)[k]'hi2) ≤ ((i : Nat) : Int))))) by first | (rw [hg4,hg5] <;> rfl) | (simp [hg4,hg5];done) | (simp only [Qo] <;> simp)),trivial⟩ Z)))))
       ·refine Qg Z Z Z Z (Qg Z Z Z Z (Qg Z Z Z Z (Qm Z Z (Qy Z Z) Z (Qa (Qy Z Z) Z (Qp ⟨Z,Z,Z,Z,Z,Z,Z,Z,Z,Z,Z,Z,Z,Z,Z,Z,congrArg (fun b=>some (Value.bool b)) (show false = ((decide (((g.nodes.length : Nat) : Int) ≤ (((g.nodes[i]'hi1).outs)[k]'hi2))) || ((((g.nodes[i]'hi1).kind) != 7) && (decide ((((g.nodes[i]'hi1).outs)[k]'hi2) ≤ ((i : Nat) : Int))))) by first | (rw [hg4,hg5] <;> rfl) | (simp [hg4,hg5];done) | (simp only [Qo] <;> simp)),trivial⟩ Z)))))
     rintro _ rfl
     refine Qd (Qs Z (fun hc5=>?_) (fun hc5=>?_))
     ·refine Qf (Qh [true] Z Z (Qa (Qe Z) Z (Qd (Qw (Q2 (Y0 (Q2 (Q2 (Y0 (Q2 (Ql Z Z E ?_)))))))))))
      exact Bx (edge_s1 (by assumption))
     ·have hto:=Dn (h1:=hi1) (h2:=hi2) (by assumption)
      have htl:=edge_lt hc5
      refine Qn (Qf (Qh [true,true,true,true,true,true,true] Z Z (Qa (Qb Kd Z) Z (Qa (Qj Gc Z (h1.one 0 Z)) Z (Qa (Qc Z) Z ?_)))))
      have hi3 : (Int.toNat (((g.nodes[i]'hi1).outs)[k]'hi2)) < g.nodes.length:=(by first | assumption | omega | (simp only [List.length_set];first | assumption | omega))
      obtain ⟨_,hr2,ha2⟩:=RdD.get hd1 hi3
      obtain ⟨o3,rfl,hd3⟩:=Node.op hr2
      replace ha2 : At w (Xf o1) (Xm o1 + (Int.toNat (((g.nodes[i]'hi1).outs)[k]'hi2)) * 4) [.int .i64 ((g.nodes[(Int.toNat (((g.nodes[i]'hi1).outs)[k]'hi2))]'hi3).kind),.int .i64 ((g.nodes[(Int.toNat (((g.nodes[i]'hi1).outs)[k]'hi2))]'hi3).a),.int .i64 ((g.nodes[(Int.toNat (((g.nodes[i]'hi1).outs)[k]'hi2))]'hi3).b),o3]:=ha2
      refine Qa (U3 (i:=(Int.toNat (((g.nodes[i]'hi1).outs)[k]'hi2))) Gv Z Z (hd1.ext E).1 (by omega) hi3) Z (Qa (Qz Xk Z) Z (Qa (Qj Yo Z ((ha2.ext E).one 0 Z)) Z (Qa (Qe Z) Z (Qd (Qf (Qh [true,true,true,true,true,true,true,true,true,true,true,true,true,true,true,true] Z Z (Qa (Qb Xk Z) Z (Qa (Qj Yo Z (h2.one 0 Z)) Z (Qa (Y6 Z Z) Z (Qa (Qc Z) Z (Y7 12 [(1,.pointer (some ⟨b1,0,none⟩)),(2,.bool false),(3,.int .i64 ((i : Nat) : Int)),(4,.pointer (some ⟨b2,0,none⟩)),(5,.int .i64 ((k : Nat) : Int)),(6,.int .i64 (((g.nodes[i]'hi1).outs)[k]'hi2)),(7,.int .i64 ((g.nodes[(Int.toNat (((g.nodes[i]'hi1).outs)[k]'hi2))]'hi3).kind)),(48,.int .i64 ((k : Nat) : Int)),(49,.pointer (some ⟨b2,3,none⟩)),(50,o2),(51,.int .i64 ((((g.nodes[i]'hi1).outs).length : Nat) : Int)),(52,.bool (decide (((k : Nat) : Int) < ((((g.nodes[i]'hi1).outs).length : Nat) : Int)))),(55,.pointer (some ⟨b2,3,none⟩)),(56,o2),(57,.int .i64 ((k : Nat) : Int)),(58,.pointer (some ⟨Xf o2,Xm o2 + k * 1,none⟩)),(59,.int .i64 (((g.nodes[i]'hi1).outs)[k]'hi2)),(74,.bool ((decide (((g.nodes.length : Nat) : Int) ≤ (((g.nodes[i]'hi1).outs)[k]'hi2))) || ((((g.nodes[i]'hi1).kind) != 7) && (decide ((((g.nodes[i]'hi1).outs)[k]'hi2) ≤ ((i : Nat) : Int)))))),(75,.pointer (some ⟨b1,0,none⟩)),(76,o1),(77,.int .i64 (((g.nodes[i]'hi1).outs)[k]'hi2)),(78,.pointer (some ⟨Xf o1,Xm o1 + (Int.toNat (((g.nodes[i]'hi1).outs)[k]'hi2)) * 4,none⟩)),(79,.pointer (some ⟨(Xf o1),Xm o1 + (Int.toNat (((g.nodes[i]'hi1).outs)[k]'hi2)) * 4 + 0,none⟩)),(80,.int .i64 ((g.nodes[(Int.toNat (((g.nodes[i]'hi1).outs)[k]'hi2))]'hi3).kind)),(96,.bool ((((g.nodes[i]'hi1).kind) == 7) && ((decide (((i : Nat) : Int) < (((g.nodes[i]'hi1).outs)[k]'hi2))) || ((((g.nodes[(Int.toNat (((g.nodes[i]'hi1).outs)[k]'hi2))]'hi3).kind) != 5) && (((g.nodes[(Int.toNat (((g.nodes[i]'hi1).outs)[k]'hi2))]'hi3).kind) != 6)))))] (fun w'=>w11 = w') ?_ ?_)))))))))))
      ·refine Y3 (gd:=84) Z Z (fun hg6=>?_) (fun hg6=>?_)
       ·refine Qm Z Z (Qc Z) Z (Qm Z Z (Qc Z) Z (Qm Z Z (V0 Z Z) Z (Qm Z Z (Qc Z) Z ?_)))
        refine Y3 (gd:=88) Z Z (fun hg7=>?_) (fun hg7=>?_)
        ·refine Qg Z Z Z Z (Qg Z Z Z Z (Qg Z Z Z Z (Q9 Z Z Z (Q9 Z Z Z (Qg Z Z Z Z (Qm Z Z (Qx Z Z) Z (Qa (Qx Z Z) Z (Qp ⟨Z,Z,Z,Z,Z,Z,Z,Z,Z,Z,Z,Z,Z,Z,Z,Z,Z,Z,Z,Z,Z,Z,Z,Z,congrArg (fun b=>some (Value.bool b)) (show true = ((((g.nodes[i]'hi1).kind) == 7) && ((decide (((i : Nat) : Int) < (((g.nodes[i]'hi1).outs)[k]'hi2))) || ((((g.nodes[(Int.toNat (((g.nodes[i]'hi1).outs)[k]'hi2))]'hi3).kind) != 5) && (((g.nodes[(Int.toNat (((g.nodes[i]'hi1).outs)[k]'hi2))]'hi3).kind) != 6)))) by first | (rw [hg6,hg7] <;> rfl) | (simp [hg6,hg7];done) | (simp only [Qo] <;> simp)),trivial⟩ Z))))))))
        ·refine Qm Z Z (Qc Z) Z (Qm Z Z (Yu Z Z) Z (Qm Z Z (Qc Z) Z ?_))
         refine Y3 (gd:=91) Z Z (fun hg8=>?_) (fun hg8=>?_)
         ·refine Qm Z Z (Qc Z) Z (Qm Z Z (Yu Z Z) Z (Qm Z Z (Qx Z Z) Z (Qm Z Z (Qy Z Z) Z (Qa (Qx Z Z) Z (Qp ⟨Z,Z,Z,Z,Z,Z,Z,Z,Z,Z,Z,Z,Z,Z,Z,Z,Z,Z,Z,Z,Z,Z,Z,Z,congrArg (fun b=>some (Value.bool b)) (show (((g.nodes[(Int.toNat (((g.nodes[i]'hi1).outs)[k]'hi2))]'hi3).kind) != 6) = ((((g.nodes[i]'hi1).kind) == 7) && ((decide (((i : Nat) : Int) < (((g.nodes[i]'hi1).outs)[k]'hi2))) || ((((g.nodes[(Int.toNat (((g.nodes[i]'hi1).outs)[k]'hi2))]'hi3).kind) != 5) && (((g.nodes[(Int.toNat (((g.nodes[i]'hi1).outs)[k]'hi2))]'hi3).kind) != 6)))) by first | (rw [hg6,hg7,hg8] <;> rfl) | (simp [hg6,hg7,hg8];done) | (simp only [Qo] <;> simp)),trivial⟩ Z)))))
         ·refine Qg Z Z Z Z (Qg Z Z Z Z (Qm Z Z (Qy Z Z) Z (Qm Z Z (Qy Z Z) Z (Qa (Qx Z Z) Z (Qp ⟨Z,Z,Z,Z,Z,Z,Z,Z,Z,Z,Z,Z,Z,Z,Z,Z,Z,Z,Z,Z,Z,Z,Z,Z,congrArg (fun b=>some (Value.bool b)) (show false = ((((g.nodes[i]'hi1).kind) == 7) && ((decide (((i : Nat) : Int) < (((g.nodes[i]'hi1).outs)[k]'hi2))) || ((((g.nodes[(Int.toNat (((g.nodes[i]'hi1).outs)[k]'hi2))]'hi3).kind) != 5) && (((g.nodes[(Int.toNat (((g.nodes[i]'hi1).outs)[k]'hi2))]'hi3).kind) != 6)))) by first | (rw [hg6,hg7,hg8] <;> rfl) | (simp [hg6,hg7,hg8];done) | (simp only [Qo] <;> simp)),trivial⟩ Z)))))
       ·refine Qg Z Z Z Z (Qg Z Z Z Z (Qg Z Z Z Z (Qg Z Z Z Z (Q9 Z Z Z (Q9 Z Z Z (Q9 Z Z Z (Q9 Z Z Z (Q9 Z Z Z (Q9 Z Z Z (Qg Z Z Z Z (Qa (Qy Z Z) Z (Qp ⟨Z,Z,Z,Z,Z,Z,Z,Z,Z,Z,Z,Z,Z,Z,Z,Z,Z,Z,Z,Z,Z,Z,Z,Z,congrArg (fun b=>some (Value.bool b)) (show false = ((((g.nodes[i]'hi1).kind) == 7) && ((decide (((i : Nat) : Int) < (((g.nodes[i]'hi1).outs)[k]'hi2))) || ((((g.nodes[(Int.toNat (((g.nodes[i]'hi1).outs)[k]'hi2))]'hi3).kind) != 5) && (((g.nodes[(Int.toNat (((g.nodes[i]'hi1).outs)[k]'hi2))]'hi3).kind) != 6)))) by first | (rw [hg6] <;> rfl) | (simp [hg6];done) | (simp only [Qo] <;> simp)),trivial⟩ Z))))))))))))
      rintro _ rfl
      refine Qd (Qs Z (fun hc6=>?_) (fun hc6=>?_))
      ·refine Qf (Qh [true] Z Z (Qa (Qe Z) Z (Qd (Qw (Q2 (Y0 (Q2 (Q2 (Y0 (Q2 (Ql Z Z E ?_)))))))))))
       exact Bx (edge_s2 (congrArg Node.kind (Ki _)).symm (by assumption))
      ·refine Qn (Q4 (Yr (Qh [true,true,true] Z Z (Qa (Qc Z) Z (Qa (Q8 Z Z (Yt hc4n (hd2.ext E).1.1)) Z (Qa (Qe Z) Z (Qd (Q4 (Yc (k + 1) (by omega) ⟨Z,Z,Z,Z,Z,trivial⟩ ⟨E,(by omega),h1,h2,(by omega),Kf hI (by assumption) (edge_sn (congrArg Node.kind (Ki _)).symm (by assumption) (by assumption))⟩)))))))))
    ·have hc4n : ¬ k < ((g.nodes[i]'hi1).outs).length:=by first | (have h:=of_decide_eq_false hc4;omega) | (have h:=hc4;simp at h;omega)
     refine Yn (Q5 (Q3 ?_))
     refine Q4 (Yr (Qh [true,true,true] Z Z (Qa (Qc Z) Z (Qa (Q8 Z Z (Yt hc2n (hd1.ext E).1.1)) Z (Qa (Qe Z) Z (Qd (Q4 (Yc (i + 1) (by omega) ⟨Z,Z,Z,trivial⟩ ⟨E,(by omega),h1,(by omega),graph_s (h1:=hi1) (by assumption) hI (by omega) hp⟩))))))))
  ·have hc2n : ¬ i < g.nodes.length:=by first | (have h:=of_decide_eq_false hc2;omega) | (have h:=hc2;simp at h;omega)
   refine Yn (Q5 (Q3 ?_))
   refine Qf (Qh [true] Z Z (Qa (Qe Z) Z (Qd (Qw (Ql Z Z E ?_)))))
   exact graph_y (by assumption) hp (by omega)

set_option maxRecDepth 20000 in
theorem c_toStamp (x : Stamp) (w : World)  : Ct Tryz.prog 148 [.agg (Enc.enc x).toArray] w (fun v _=>v = .agg (Enc.enc x).toArray):=by
 refine Yh Tryz.func148 Z Tryz.ntmps148 Z ?_
 refine Q7 [(0,.agg (Enc.enc x).toArray)] ⟨Z,trivial⟩ ?_
 have E : Ext w w:=Ext.refl w
 refine Qf (Qh [false,false] Z Z (Y1 Z Z (fun b1 w1 e1 s1 h1=>?_)))
 have g_b1 : w.heap.size ≤ b1:=by have:=E.size;omega
 have y_b1:=h1.lt
 replace E:=E.trans e1
 have z1:=e1.size
 refine Yk Kb Z (fun b2 w2 e2 s2 h2=>?_)
 have g_b2 : w.heap.size ≤ b2:=by have:=E.size;omega
 have y_b2:=h2.lt
 replace E:=E.trans e2;replace h1:=h1.ext e2
 have z2:=e2.size
 refine Qd (Qf (Qh [false] Z Z (Yk Kb Z (fun b3 w3 e3 s3 h3=>?_))))
 have g_b3 : w.heap.size ≤ b3:=by have:=E.size;omega
 have y_b3:=h3.lt
 replace E:=E.trans e3;replace h1:=h1.ext e3;replace h2:=h2.ext e3
 have z3:=e3.size
 refine Qd (Qf (Qh [true,true,true,false] Z Z (Qa (Qb fl180_0 Z) Z (Qa (Qj Yo Z (h1.one 0 Z)) Z (Qa (Qb Vi Z) Z (Yj (cs':=[.int .i64 x.epoch,.int .i64 0]) Yo Z Z Z h3 (Nat.le_of_ble_eq_true Z) Z (fun w4 m1 h3'=>?_)))))))
 replace h3:=h3'
 replace E:=E.step m1 (fun g hg=>by cases hg;omega);replace h1:=h1.mod m1 (fun g hg=>by cases hg;omega);replace h2:=h2.mod m1 (fun g hg=>by cases hg;omega)
 have z4:=m1.size
 refine Qd (Qf (Qh [true,true,true,false] Z Z (Qa (Qb fl180_1 Z) Z (Qa (Qj Yo Z (h1.one 1 Z)) Z (Qa (Qb V8 Z) Z (Yj (cs':=[.int .i64 x.epoch,.int .i64 x.turn]) Yo Z Z Z h3 (Nat.le_of_ble_eq_true Z) Z (fun w5 m2 h3'=>?_)))))))
 replace h3:=h3'
 replace E:=E.step m2 (fun g hg=>by cases hg;omega);replace h1:=h1.mod m2 (fun g hg=>by cases hg;omega);replace h2:=h2.mod m2 (fun g hg=>by cases hg;omega)
 have z5:=m2.size
 refine Qd (Qf (Qh [true,false] Z Z (Qa (Qt Kb Z h3.at Z) Z (Q6 (cs':=[.int .i64 x.epoch,.int .i64 x.turn]) Kb Z Z Z Z h2 (Nat.le_of_ble_eq_true Z) Z (fun w6 m3 h2'=>?_)))))
 replace h2:=h2'
 replace E:=E.step m3 (fun g hg=>by cases hg;omega);replace h1:=h1.mod m3 (fun g hg=>by cases hg;omega);replace h3:=h3.mod m3 (fun g hg=>by cases hg;omega)
 have z6:=m3.size
 refine Qd (Qw (Kk Z Z (Yi Kb h2.at Z) E ?_))
 rfl

set_option maxRecDepth 20000 in
theorem c_toRecord (x : Record) (w : World)  : Ct Tryz.prog 132 [.agg (Enc.enc x).toArray] w (fun v _=>v = .agg (Enc.enc x).toArray):=by
 refine Yh Tryz.func132 Z Tryz.ntmps132 Z ?_
 refine Q7 [(0,.agg (Enc.enc x).toArray)] ⟨Z,trivial⟩ ?_
 have E : Ext w w:=Ext.refl w
 refine Qf (Qh [false,false] Z Z (Y1 Z Z (fun b1 w1 e1 s1 h1=>?_)))
 have g_b1 : w.heap.size ≤ b1:=by have:=E.size;omega
 have y_b1:=h1.lt
 replace E:=E.trans e1
 have z1:=e1.size
 refine Yk Va Z (fun b2 w2 e2 s2 h2=>?_)
 have g_b2 : w.heap.size ≤ b2:=by have:=E.size;omega
 have y_b2:=h2.lt
 replace E:=E.trans e2;replace h1:=h1.ext e2
 have z2:=e2.size
 refine Qd (Qf (Qh [false] Z Z (Yk Va Z (fun b3 w3 e3 s3 h3=>?_))))
 have g_b3 : w.heap.size ≤ b3:=by have:=E.size;omega
 have y_b3:=h3.lt
 replace E:=E.trans e3;replace h1:=h1.ext e3;replace h2:=h2.ext e3
 have z3:=e3.size
 refine Qd (Qf (Qh [true,true,true,false] Z Z (Qa (Qb fl182_0 Z) Z (Qa (Qj Yo Z (h1.one 0 Z)) Z (Qa (Qb Uy Z) Z (Yj (cs':=[.int .i64 x.op,.int .i64 0,.int .i64 0,.int .i64 0,.int .i64 0]) Yo Z Z Z h3 (Nat.le_of_ble_eq_true Z) Z (fun w4 m1 h3'=>?_)))))))
 replace h3:=h3'
 replace E:=E.step m1 (fun g hg=>by cases hg;omega);replace h1:=h1.mod m1 (fun g hg=>by cases hg;omega);replace h2:=h2.mod m1 (fun g hg=>by cases hg;omega)
 have z4:=m1.size
 refine Qd (Qf (Qh [true,true,false,true,false] Z Z (Qa (Qb fl182_1 Z) Z (Qa (Qt st180 Z (h1.part 1 [.int .i64 x.stamp.epoch,.int .i64 x.stamp.turn] Z) Z) Z (Qv Tryz.call148 Z (c_toStamp x.stamp _ ) Z (fun _ w5 e4 hv=>?_))))))
 subst hv
 replace E:=E.trans e4;replace h1:=h1.ext e4;replace h2:=h2.ext e4;replace h3:=h3.ext e4
 have z5:=e4.size
 refine Qa (Qb Kx Z) Z (Q6 (cs':=[.int .i64 x.op,.int .i64 x.stamp.epoch,.int .i64 x.stamp.turn,.int .i64 0,.int .i64 0]) Kb Z Z Z Z h3 (Nat.le_of_ble_eq_true Z) Z (fun w6 m2 h3'=>?_))
 replace h3:=h3'
 replace E:=E.step m2 (fun g hg=>by cases hg;omega);replace h1:=h1.mod m2 (fun g hg=>by cases hg;omega);replace h2:=h2.mod m2 (fun g hg=>by cases hg;omega)
 have z6:=m2.size
 refine Qd (Qf (Qh [true,true,true,false] Z Z (Qa (Qb fl182_2 Z) Z (Qa (Qj Yo Z (h1.one 3 Z)) Z (Qa (Qb Hk Z) Z (Yj (cs':=[.int .i64 x.op,.int .i64 x.stamp.epoch,.int .i64 x.stamp.turn,.int .i64 x.key,.int .i64 0]) Yo Z Z Z h3 (Nat.le_of_ble_eq_true Z) Z (fun w7 m3 h3'=>?_)))))))
 replace h3:=h3'
 replace E:=E.step m3 (fun g hg=>by cases hg;omega);replace h1:=h1.mod m3 (fun g hg=>by cases hg;omega);replace h2:=h2.mod m3 (fun g hg=>by cases hg;omega)
 have z7:=m3.size
 refine Qd (Qf (Qh [true,true,true,false] Z Z (Qa (Qb fl182_3 Z) Z (Qa (Qj Yo Z (h1.one 4 Z)) Z (Qa (Qb Hj Z) Z (Yj (cs':=[.int .i64 x.op,.int .i64 x.stamp.epoch,.int .i64 x.stamp.turn,.int .i64 x.key,.int .i64 x.val]) Yo Z Z Z h3 (Nat.le_of_ble_eq_true Z) Z (fun w8 m4 h3'=>?_)))))))
 replace h3:=h3'
 replace E:=E.step m4 (fun g hg=>by cases hg;omega);replace h1:=h1.mod m4 (fun g hg=>by cases hg;omega);replace h2:=h2.mod m4 (fun g hg=>by cases hg;omega)
 have z8:=m4.size
 refine Qd (Qf (Qh [true,false] Z Z (Qa (Qt Va Z h3.at Z) Z (Q6 (cs':=[.int .i64 x.op,.int .i64 x.stamp.epoch,.int .i64 x.stamp.turn,.int .i64 x.key,.int .i64 x.val]) Va Z Z Z Z h2 (Nat.le_of_ble_eq_true Z) Z (fun w9 m5 h2'=>?_)))))
 replace h2:=h2'
 replace E:=E.step m5 (fun g hg=>by cases hg;omega);replace h1:=h1.mod m5 (fun g hg=>by cases hg;omega);replace h3:=h3.mod m5 (fun g hg=>by cases hg;omega)
 have z9:=m5.size
 refine Qd (Qw (Kk Z Z (Yi Va h2.at Z) E ?_))
 rfl

set_option maxRecDepth 20000 in
theorem c_eqStamp (x : Stamp) (y : Stamp) (w : World)  : Ct Tryz.prog 157 [.agg (Enc.enc x).toArray,.agg (Enc.enc y).toArray] w (fun v _=>v = .bool (decide (x = y))):=by
 refine Yh Tryz.func157 Z Tryz.ntmps157 Z ?_
 refine Q7 [(0,.agg (Enc.enc x).toArray),(1,.agg (Enc.enc y).toArray)] ⟨Z,Z,trivial⟩ ?_
 have E : Ext w w:=Ext.refl w
 refine Qf (Qh [false,false,true] Z Z (Y1 Z Z (fun b1 w1 e1 s1 h1=>?_)))
 have g_b1 : w.heap.size ≤ b1:=by have:=E.size;omega
 have y_b1:=h1.lt
 replace E:=E.trans e1
 have z1:=e1.size
 refine Y1 Z Z (fun b2 w2 e2 s2 h2=>?_)
 have g_b2 : w.heap.size ≤ b2:=by have:=E.size;omega
 have y_b2:=h2.lt
 replace E:=E.trans e2;replace h1:=h1.ext e2
 have z2:=e2.size
 refine Qa (Qe Z) Z (Qd (Qf (Qf (Qh [true,true,true,true,true] Z Z (Qa (Qb Vi Z) Z (Qa (Qj Yo Z (h1.one 0 Z)) Z (Qa (Qb Vi Z) Z (Qa (Qj Yo Z (h2.one 0 Z)) Z (Qa (Yu Z Z) Z (Qd (Qs Z (fun hc1=>?_) (fun hc1=>?_))))))))))))
 ·refine Qf (Qh [true] Z Z (Qa (Qe Z) Z (Qd (Qw (Ql Z Z E ?_)))))
  cases x;cases y;simp_all
 ·refine Qn (Qf (Qf (Qh [true,true,true,true,true] Z Z (Qa (Qb V8 Z) Z (Qa (Qj Yo Z (h1.one 1 Z)) Z (Qa (Qb V8 Z) Z (Qa (Qj Yo Z (h2.one 1 Z)) Z (Qa (Yu Z Z) Z (Qd (Qs Z (fun hc2=>?_) (fun hc2=>?_)))))))))))
  ·refine Qf (Qh [true] Z Z (Qa (Qe Z) Z (Qd (Qw (Ql Z Z E ?_)))))
   cases x;cases y;simp_all
  ·refine Qn (Qf (Qh [true] Z Z (Qa (Qe Z) Z (Qd (Qw (Ql Z Z E ?_))))))
   cases x;cases y;simp_all

set_option maxRecDepth 20000 in
theorem c_eqRecord (x : Record) (y : Record) (w : World)  : Ct Tryz.prog 144 [.agg (Enc.enc x).toArray,.agg (Enc.enc y).toArray] w (fun v _=>v = .bool (decide (x = y))):=by
 refine Yh Tryz.func144 Z Tryz.ntmps144 Z ?_
 refine Q7 [(0,.agg (Enc.enc x).toArray),(1,.agg (Enc.enc y).toArray)] ⟨Z,Z,trivial⟩ ?_
 have E : Ext w w:=Ext.refl w
 refine Qf (Qh [false,false,true] Z Z (Y1 Z Z (fun b1 w1 e1 s1 h1=>?_)))
 have g_b1 : w.heap.size ≤ b1:=by have:=E.size;omega
 have y_b1:=h1.lt
 replace E:=E.trans e1
 have z1:=e1.size
 refine Y1 Z Z (fun b2 w2 e2 s2 h2=>?_)
 have g_b2 : w.heap.size ≤ b2:=by have:=E.size;omega
 have y_b2:=h2.lt
 replace E:=E.trans e2;replace h1:=h1.ext e2
 have z2:=e2.size
 refine Qa (Qe Z) Z (Qd (Qf (Qf (Qh [true,true,true,true,true] Z Z (Qa (Qb Uy Z) Z (Qa (Qj Yo Z (h1.one 0 Z)) Z (Qa (Qb Uy Z) Z (Qa (Qj Yo Z (h2.one 0 Z)) Z (Qa (Yu Z Z) Z (Qd (Qs Z (fun hc1=>?_) (fun hc1=>?_))))))))))))
 ·refine Qf (Qh [true] Z Z (Qa (Qe Z) Z (Qd (Qw (Ql Z Z E ?_)))))
  cases x;cases y;simp_all
 ·refine Qn (Qf (Qf (Qh [true,true,true,true,false,true] Z Z (Qa (Qb Kx Z) Z (Qa (Qt Kb Z (h1.part 1 [.int .i64 x.stamp.epoch,.int .i64 x.stamp.turn] Z) Z) Z (Qa (Qb Kx Z) Z (Qa (Qt Kb Z (h2.part 1 [.int .i64 y.stamp.epoch,.int .i64 y.stamp.turn] Z) Z) Z (Qv Tryz.call157 Z (c_eqStamp x.stamp y.stamp _ ) Z (fun _ w3 e3 hv=>?_)))))))))
  subst hv
  replace E:=E.trans e3;replace h1:=h1.ext e3;replace h2:=h2.ext e3
  have z3:=e3.size
  refine Qa (Yq Z) Z (Qd (Qs Z (fun hc2=>?_) (fun hc2=>?_)))
  ·refine Qf (Qh [true] Z Z (Qa (Qe Z) Z (Qd (Qw (Ql Z Z E ?_)))))
   cases x;cases y;simp_all
  ·refine Qn (Qf (Qf (Qh [true,true,true,true,true] Z Z (Qa (Qb Hk Z) Z (Qa (Qj Yo Z (h1.one 3 Z)) Z (Qa (Qb Hk Z) Z (Qa (Qj Yo Z (h2.one 3 Z)) Z (Qa (Yu Z Z) Z (Qd (Qs Z (fun hc3=>?_) (fun hc3=>?_)))))))))))
   ·refine Qf (Qh [true] Z Z (Qa (Qe Z) Z (Qd (Qw (Ql Z Z E ?_)))))
    cases x;cases y;simp_all
   ·refine Qn (Qf (Qf (Qh [true,true,true,true,true] Z Z (Qa (Qb Hj Z) Z (Qa (Qj Yo Z (h1.one 4 Z)) Z (Qa (Qb Hj Z) Z (Qa (Qj Yo Z (h2.one 4 Z)) Z (Qa (Yu Z Z) Z (Qd (Qs Z (fun hc4=>?_) (fun hc4=>?_)))))))))))
    ·refine Qf (Qh [true] Z Z (Qa (Qe Z) Z (Qd (Qw (Ql Z Z E ?_)))))
     cases x;cases y;simp_all
    ·refine Qn (Qf (Qh [true] Z Z (Qa (Qe Z) Z (Qd (Qw (Ql Z Z E ?_))))))
     cases x;cases y;simp_all

set_option maxRecDepth 20000 in
theorem c_toDone (x : Done) (w : World)  : Ct Tryz.prog 134 [.agg (Enc.enc x).toArray] w (fun v _=>v = .agg (Enc.enc x).toArray):=by
 refine Yh Tryz.func134 Z Tryz.ntmps134 Z ?_
 refine Q7 [(0,.agg (Enc.enc x).toArray)] ⟨Z,trivial⟩ ?_
 have E : Ext w w:=Ext.refl w
 refine Qf (Qh [false,false] Z Z (Y1 Z Z (fun b1 w1 e1 s1 h1=>?_)))
 have g_b1 : w.heap.size ≤ b1:=by have:=E.size;omega
 have y_b1:=h1.lt
 replace E:=E.trans e1
 have z1:=e1.size
 refine Yk Ty Z (fun b2 w2 e2 s2 h2=>?_)
 have g_b2 : w.heap.size ≤ b2:=by have:=E.size;omega
 have y_b2:=h2.lt
 replace E:=E.trans e2;replace h1:=h1.ext e2
 have z2:=e2.size
 refine Qd (Qf (Qh [false] Z Z (Yk Ty Z (fun b3 w3 e3 s3 h3=>?_))))
 have g_b3 : w.heap.size ≤ b3:=by have:=E.size;omega
 have y_b3:=h3.lt
 replace E:=E.trans e3;replace h1:=h1.ext e3;replace h2:=h2.ext e3
 have z3:=e3.size
 refine Qd (Qf (Qh [true,true,true,false] Z Z (Qa (Qb fl186_0 Z) Z (Qa (Qj Yo Z (h1.one 0 Z)) Z (Qa (Qb V9 Z) Z (Yj (cs':=[.int .i64 x.epoch,.bool false]) Yo Z Z Z h3 (Nat.le_of_ble_eq_true Z) Z (fun w4 m1 h3'=>?_)))))))
 replace h3:=h3'
 replace E:=E.step m1 (fun g hg=>by cases hg;omega);replace h1:=h1.mod m1 (fun g hg=>by cases hg;omega);replace h2:=h2.mod m1 (fun g hg=>by cases hg;omega)
 have z4:=m1.size
 refine Qd (Qf (Qh [true,true,true,false] Z Z (Qa (Qb fl186_1 Z) Z (Qa (Qj Tb Z (h1.one 1 Z)) Z (Qa (Qb Aq Z) Z (Yj (cs':=[.int .i64 x.epoch,.bool x.capped]) Tb Z Z Z h3 (Nat.le_of_ble_eq_true Z) Z (fun w5 m2 h3'=>?_)))))))
 replace h3:=h3'
 replace E:=E.step m2 (fun g hg=>by cases hg;omega);replace h1:=h1.mod m2 (fun g hg=>by cases hg;omega);replace h2:=h2.mod m2 (fun g hg=>by cases hg;omega)
 have z5:=m2.size
 refine Qd (Qf (Qh [true,false] Z Z (Qa (Qt Ty Z h3.at Z) Z (Q6 (cs':=[.int .i64 x.epoch,.bool x.capped]) Ty Z Z Z Z h2 (Nat.le_of_ble_eq_true Z) Z (fun w6 m3 h2'=>?_)))))
 replace h2:=h2'
 replace E:=E.step m3 (fun g hg=>by cases hg;omega);replace h1:=h1.mod m3 (fun g hg=>by cases hg;omega);replace h3:=h3.mod m3 (fun g hg=>by cases hg;omega)
 have z6:=m3.size
 refine Qd (Qw (Kk Z Z (Yi Ty h2.at Z) E ?_))
 rfl

set_option maxRecDepth 20000 in
theorem c_eqDone (x : Done) (y : Done) (w : World)  : Ct Tryz.prog 146 [.agg (Enc.enc x).toArray,.agg (Enc.enc y).toArray] w (fun v _=>v = .bool (decide (x = y))):=by
 refine Yh Tryz.func146 Z Tryz.ntmps146 Z ?_
 refine Q7 [(0,.agg (Enc.enc x).toArray),(1,.agg (Enc.enc y).toArray)] ⟨Z,Z,trivial⟩ ?_
 have E : Ext w w:=Ext.refl w
 refine Qf (Qh [false,false,true] Z Z (Y1 Z Z (fun b1 w1 e1 s1 h1=>?_)))
 have g_b1 : w.heap.size ≤ b1:=by have:=E.size;omega
 have y_b1:=h1.lt
 replace E:=E.trans e1
 have z1:=e1.size
 refine Y1 Z Z (fun b2 w2 e2 s2 h2=>?_)
 have g_b2 : w.heap.size ≤ b2:=by have:=E.size;omega
 have y_b2:=h2.lt
 replace E:=E.trans e2;replace h1:=h1.ext e2
 have z2:=e2.size
 refine Qa (Qe Z) Z (Qd (Qf (Qf (Qh [true,true,true,true,true] Z Z (Qa (Qb V9 Z) Z (Qa (Qj Yo Z (h1.one 0 Z)) Z (Qa (Qb V9 Z) Z (Qa (Qj Yo Z (h2.one 0 Z)) Z (Qa (Yu Z Z) Z (Qd (Qs Z (fun hc1=>?_) (fun hc1=>?_))))))))))))
 ·refine Qf (Qh [true] Z Z (Qa (Qe Z) Z (Qd (Qw (Ql Z Z E ?_)))))
  cases x;cases y;simp_all
 ·refine Qn (Qf (Qf (Qh [true,true,true,true,true] Z Z (Qa (Qb Aq Z) Z (Qa (Qj Tb Z (h1.one 1 Z)) Z (Qa (Qb Aq Z) Z (Qa (Qj Tb Z (h2.one 1 Z)) Z (Qa (Vf (Tryz.underlying4) Z Z) Z (Qd (Qs Z (fun hc2=>?_) (fun hc2=>?_)))))))))))
  ·refine Qf (Qh [true] Z Z (Qa (Qe Z) Z (Qd (Qw (Ql Z Z E ?_)))))
   cases x;cases y;simp_all
  ·refine Qn (Qf (Qh [true] Z Z (Qa (Qe Z) Z (Qd (Qw (Ql Z Z E ?_))))))
   cases x;cases y;simp_all

set_option maxRecDepth 20000 in
theorem c_szRecordS (vxs : Value) (xs : List Record) (n : Int) (w : World) (hxs : RdS w vxs xs) (h0 : 0 ≤ n ∧ n ≤ 1048576) : Ct Tryz.prog 81 [vxs,.int .i64 n] w (fun v _=>v = .int .i64 (Up xs.length n)):=by
 refine Yh Tryz.func81 Z Tryz.ntmps81 Z ?_
 refine Q7 [(0,vxs),(1,.int .i64 n)] ⟨Z,Z,trivial⟩ ?_
 have E : Ext w w:=Ext.refl w
 refine Qf (Qh [true] Z Z (Qa (Qe Z) Z (Qd (Qf (Qh [true,true,true,true,true] Z Z (Qa (Qc Z) Z (Qa (Qc Z) Z (Qa (Ya Tryz.underlying85 Z (hxs.ext E).len) Z (Qa (Uu Z Z Z) Z (Qa (Qe Z) Z (Qd (Qf (Qf (Qh [true,true] Z Z (Qa (Qc Z) Z (Qa (Yf Z Z) Z (Qd (Qs Z (fun hc1=>?_) (fun hc1=>?_)))))))))))))))))))
 ·refine Qf (Qh [true] Z Z (Qa (Qe Z) Z (Qd (Qw (Ql Z Z E ?_)))))
  exact B3 h0.2 h0.1 hxs.1 hc1
 ·refine Qn (Qf (Qh [true,true] Z Z (Qa (Qc Z) Z (Qa (Qe Z) Z (Qd (Qw (Ql Z Z E ?_)))))))
  exact C0 h0.2 h0.1 hxs.1 hc1

set_option maxRecDepth 20000 in
theorem c_toRecordS (vxs : Value) (xs : List Record) (w : World) (hxs : RdS w vxs xs) (hb : xs.length ≤ 1048576) : Ct Tryz.prog 101 [vxs] w (fun v w'=>Own w' w.heap.size w'.heap.size 5 v (List.flatMap (Enc.enc (α:=Record)) xs)):=by
 refine Yh Tryz.func101 Z Tryz.ntmps101 Z ?_
 refine Q7 [(0,vxs)] ⟨Z,trivial⟩ ?_
 have E : Ext w w:=Ext.refl w
 refine Qf (Qh [true] Z Z (Qa (Qe Z) Z (Qd (Qf (Qh [true,true,false,true] Z Z (Qa (Qc Z) Z (Qa (Ya Tryz.underlying85 Z (hxs.ext E).len) Z (H9 (m:=xs.length) Kn Z Z (by omega) (by decide) Z (fun b1 w1 e1 s1 h1=>?_)))))))))
 have g_b1 : w.heap.size ≤ b1:=by have:=E.size;omega
 have y_b1:=h1.lt
 replace E:=E.trans e1
 have z1:=e1.size
 refine Qa (Qe Z) Z (Qd (Qf (Qf (Qh [true] Z Z (Qa (Qe Z) Z (Qd (Q0 (Ym (fun (k : Nat)=>[(0,vxs),(2,.slice none 0 0),(3,.slice (some ⟨b1,0,none⟩) xs.length xs.length),(4,.int .i64 ((k : Nat) : Int))]) (fun (k : Nat) w'=>Ext w w' ∧ w1.heap.size ≤ w'.heap.size ∧ k ≤ xs.length ∧ Blk w' b1 (mk xs [.int .i64 0,.int .i64 0,.int .i64 0,.int .i64 0,.int .i64 0] k xs.length)) (fun (k : Nat)=>xs.length - k) 0 ⟨Z,Z,Z,Z,trivial⟩ ⟨E,Nat.le_refl _,Nat.zero_le _,(Tl xs [.int .i64 0,.int .i64 0,.int .i64 0,.int .i64 0,.int .i64 0] xs.length) ▸ h1⟩ ?_))))))))
 clear E h1
 rintro k w2 ⟨E,z2,hk,h1⟩
 refine Qf (Qf (Qh [true,true,true,true] Z Z (Qa (Qc Z) Z (Qa (Qc Z) Z (Qa (Ya Tryz.underlying85 Z (hxs.ext E).len) Z (Qa (Yf Z Z) Z (Qd (Qs Z (fun hc1=>?_) (fun hc1=>?_)))))))))
 ·have hc1n : k < xs.length:=by first | (have h:=of_decide_eq_true hc1;omega) | (have h:=hc1;simp at h;omega)
  refine Qn (Qf (Q0 (Qh [true,true,true,true,true,true,false,true,false] Z Z (Qa (Qc Z) Z (Qa (Qc Z) Z (Qa (Qc Z) Z (Qa (Qc Z) Z ?_)))))))
  have hi1 : k < xs.length:=(by first | assumption | omega | (simp only [List.length_set];first | assumption | omega))
  refine Qa (Q1 (i:=k) sl85 Z Z (hxs.ext E) hi1) Z (Qa (Qt st182 Z ((hxs.ext E).get hi1) Z) Z (Qv Tryz.call132 Z (c_toRecord (xs[k]'hi1) _ ) Z (fun _ w3 e2 hv=>?_)))
  subst hv
  replace E:=E.trans e2;replace h1:=h1.ext e2
  have z3:=e2.size
  refine Qa (Vo Kn Z Z (by first | assumption | omega | (simp only [List.length_set];first | assumption | omega))) Z (Q6 (cs':=mk xs [.int .i64 0,.int .i64 0,.int .i64 0,.int .i64 0,.int .i64 0] (k + 1) xs.length) Va Z Z Z Z h1 (Tn xs [.int .i64 0,.int .i64 0,.int .i64 0,.int .i64 0,.int .i64 0] Z hc1n hc1n (by rfl)) (Tm xs [.int .i64 0,.int .i64 0,.int .i64 0,.int .i64 0,.int .i64 0] Z hc1n hc1n) (fun w4 m1 h1'=>?_))
  replace h1:=h1'
  replace E:=E.step m1 (fun g hg=>by cases hg;omega)
  have z4:=m1.size
  refine Qd (Q4 (Yr (Qh [true,true,true] Z Z (Qa (Qc Z) Z (Qa (Q8 Z Z (Yt hc1n hxs.1)) Z (Qa (Qe Z) Z (Qd (Q4 (Yc (k + 1) (by omega) ⟨Z,Z,Z,Z,trivial⟩ ⟨E,(by omega),(by omega),h1⟩)))))))))
 ·have hc1n : ¬ k < xs.length:=by first | (have h:=of_decide_eq_false hc1;omega) | (have h:=hc1;simp at h;omega)
  refine Yn (Q5 (Q3 ?_))
  refine Qf (Qh [true,true] Z Z (Qa (Qc Z) Z (Qa (Qe Z) Z (Qd (Qw (Ql Z Z E ?_))))))
  obtain rfl : k = xs.length:=by omega
  rw [C7] at h1
  exact Own.ofBlk h1 (by omega) (by have:=h1.lt;omega) (Yb xs) hxs.1

set_option maxRecDepth 20000 in
theorem c_eqRecordS (vxs : Value) (xs : List Record) (vys : Value) (ys : List Record) (w : World) (hxs : RdS w vxs xs) (hys : RdS w vys ys) : Ct Tryz.prog 120 [vxs,vys] w (fun v _=>v = .bool (decide (xs = ys))):=by
 refine Yh Tryz.func120 Z Tryz.ntmps120 Z ?_
 refine Q7 [(0,vxs),(1,vys)] ⟨Z,Z,trivial⟩ ?_
 have E : Ext w w:=Ext.refl w
 refine Qf (Qh [true] Z Z (Qa (Qe Z) Z (Qd (Qf (Qf (Qh [true,true,true,true,true] Z Z (Qa (Qc Z) Z (Qa (Ya Tryz.underlying64 Z (hxs.ext E).len) Z (Qa (Qc Z) Z (Qa (Ya Tryz.underlying64 Z (hys.ext E).len) Z (Qa (Yu Z Z) Z (Qd (Qs Z (fun hc1=>?_) (fun hc1=>?_))))))))))))))
 ·have hc1n : ¬ xs.length = ys.length:=by first | (have h:=of_decide_eq_true hc1;omega) | (have h:=hc1;simp at h;omega)
  refine Qf (Qh [true] Z Z (Qa (Qe Z) Z (Qd (Qw (Ql Z Z E ?_)))))
  simp [H6 hc1n]
 ·have hc1n : xs.length = ys.length:=by first | (have h:=of_decide_eq_false hc1;omega) | (have h:=hc1;simp at h;omega)
  refine Qn (Qf (Qf (Qh [true] Z Z (Qa (Qe Z) Z (Qd (Q0 (Ym (fun (k : Nat)=>[(0,vxs),(1,vys),(4,.bool false),(5,.int .i64 ((k : Nat) : Int))]) (fun (k : Nat) w'=>Ext w w' ∧ w.heap.size ≤ w'.heap.size ∧ k ≤ xs.length ∧ xs.take k = ys.take k) (fun (k : Nat)=>xs.length - k) 0 ⟨Z,Z,Z,Z,trivial⟩ ⟨E,Nat.le_refl _,Nat.zero_le _,Z⟩ ?_)))))))
  clear E
  rintro k w1 ⟨E,z1,hk,hp⟩
  refine Qf (Qf (Qh [true,true,true,true] Z Z (Qa (Qc Z) Z (Qa (Qc Z) Z (Qa (Ya Tryz.underlying64 Z (hxs.ext E).len) Z (Qa (Yf Z Z) Z (Qd (Qs Z (fun hc2=>?_) (fun hc2=>?_)))))))))
  ·have hc2n : k < xs.length:=by first | (have h:=of_decide_eq_true hc2;omega) | (have h:=hc2;simp at h;omega)
   refine Qn (Qf (Q0 (Qf (Xj Xi [(0,true),(1,true),(2,true),(3,true),(4,true),(5,true),(6,true),(7,true),(8,false),(9,true)] (by decide +kernel) Z (fun w2 e1=>?_)))))
   replace E:=E.trans e1
   have z2:=e1.size
   refine Qa (Qc Z) Z (Qa (Qc Z) Z ?_)
   have hi1 : k < xs.length:=(by first | assumption | omega | (simp only [List.length_set];first | assumption | omega))
   refine Qa (Q1 (i:=k) Kn Z Z (hxs.ext E) hi1) Z (Qa (Qt Va Z ((hxs.ext E).get hi1) Z) Z (Qa (Qc Z) Z (Qa (Qc Z) Z ?_)))
   have hi2 : k < ys.length:=(by first | assumption | omega | (simp only [List.length_set];first | assumption | omega))
   refine Qa (Q1 (i:=k) Kn Z Z (hys.ext E) hi2) Z (Qa (Qt Va Z ((hys.ext E).get hi2) Z) Z (Qv Tryz.call144 Z (c_eqRecord (xs[k]'hi1) (ys[k]'hi2) _ ) Z (fun _ w3 e2 hv=>?_)))
   subst hv
   replace E:=E.trans e2
   have z3:=e2.size
   refine Qa (Yq Z) Z (Qd (Qs Z (fun hc3=>?_) (fun hc3=>?_)))
   ·refine Qf (Qh [true] Z Z (Qa (Qe Z) Z (Qd (Qw (Q2 (Y0 (Q2 (Ql Z Z E ?_))))))))
    exact H7 (by omega) (by omega) (by simpa using hc3)
   ·refine Qn (Q4 (Yr (Qh [true,true,true] Z Z (Qa (Qc Z) Z (Qa (Q8 Z Z (Yt hc2n hxs.1)) Z (Qa (Qe Z) Z (Qd (Q4 (Yc (k + 1) (by omega) ⟨Z,Z,Z,Z,trivial⟩ ⟨E,(by omega),(by omega),Vn hp (by assumption) (by omega) (by simpa using hc3)⟩)))))))))
  ·have hc2n : ¬ k < xs.length:=by first | (have h:=of_decide_eq_false hc2;omega) | (have h:=hc2;simp at h;omega)
   refine Yn (Q5 (Q3 ?_))
   refine Qf (Qh [true] Z Z (Qa (Qe Z) Z (Qd (Qw (Ql Z Z E ?_)))))
   exact Gr hp hc1n (by omega)

set_option maxRecDepth 20000 in
theorem c_szBoolS (vxs : Value) (xs : List Bool) (n : Int) (w : World) (hxs : RdS w vxs xs) (h0 : 0 ≤ n ∧ n ≤ 1048576) : Ct Tryz.prog 84 [vxs,.int .i64 n] w (fun v _=>v = .int .i64 (Up xs.length n)):=by
 refine Yh Tryz.func84 Z Tryz.ntmps84 Z ?_
 refine Q7 [(0,vxs),(1,.int .i64 n)] ⟨Z,Z,trivial⟩ ?_
 have E : Ext w w:=Ext.refl w
 refine Qf (Qh [true] Z Z (Qa (Qe Z) Z (Qd (Qf (Qh [true,true,true,true,true] Z Z (Qa (Qc Z) Z (Qa (Qc Z) Z (Qa (Ya Tryz.underlying67 Z (hxs.ext E).len) Z (Qa (Uu Z Z Z) Z (Qa (Qe Z) Z (Qd (Qf (Qf (Qh [true,true] Z Z (Qa (Qc Z) Z (Qa (Yf Z Z) Z (Qd (Qs Z (fun hc1=>?_) (fun hc1=>?_)))))))))))))))))))
 ·refine Qf (Qh [true] Z Z (Qa (Qe Z) Z (Qd (Qw (Ql Z Z E ?_)))))
  exact B3 h0.2 h0.1 hxs.1 hc1
 ·refine Qn (Qf (Qh [true,true] Z Z (Qa (Qc Z) Z (Qa (Qe Z) Z (Qd (Qw (Ql Z Z E ?_)))))))
  exact C0 h0.2 h0.1 hxs.1 hc1

set_option maxRecDepth 20000 in
theorem c_toBoolS (vxs : Value) (xs : List Bool) (w : World) (hxs : RdS w vxs xs) (hb : xs.length ≤ 1048576) : Ct Tryz.prog 104 [vxs] w (fun v w'=>Own w' w.heap.size w'.heap.size 1 v (List.flatMap (Enc.enc (α:=Bool)) xs)):=by
 refine Yh Tryz.func104 Z Tryz.ntmps104 Z ?_
 refine Q7 [(0,vxs)] ⟨Z,trivial⟩ ?_
 have E : Ext w w:=Ext.refl w
 refine Qf (Qh [true] Z Z (Qa (Qe Z) Z (Qd (Qf (Qh [true,true,false,true] Z Z (Qa (Qc Z) Z (Qa (Ya Tryz.underlying67 Z (hxs.ext E).len) Z (H9 (m:=xs.length) C1 Z Z (by omega) (by decide) Z (fun b1 w1 e1 s1 h1=>?_)))))))))
 have g_b1 : w.heap.size ≤ b1:=by have:=E.size;omega
 have y_b1:=h1.lt
 replace E:=E.trans e1
 have z1:=e1.size
 refine Qa (Qe Z) Z (Qd (Qf (Qf (Qh [true] Z Z (Qa (Qe Z) Z (Qd (Q0 (Ym (fun (k : Nat)=>[(0,vxs),(2,.slice none 0 0),(3,.slice (some ⟨b1,0,none⟩) xs.length xs.length),(4,.int .i64 ((k : Nat) : Int))]) (fun (k : Nat) w'=>Ext w w' ∧ w1.heap.size ≤ w'.heap.size ∧ k ≤ xs.length ∧ Blk w' b1 (mk xs [.bool false] k xs.length)) (fun (k : Nat)=>xs.length - k) 0 ⟨Z,Z,Z,Z,trivial⟩ ⟨E,Nat.le_refl _,Nat.zero_le _,(Tl xs [.bool false] xs.length) ▸ h1⟩ ?_))))))))
 clear E h1
 rintro k w2 ⟨E,z2,hk,h1⟩
 refine Qf (Qf (Qh [true,true,true,true] Z Z (Qa (Qc Z) Z (Qa (Qc Z) Z (Qa (Ya Tryz.underlying67 Z (hxs.ext E).len) Z (Qa (Yf Z Z) Z (Qd (Qs Z (fun hc1=>?_) (fun hc1=>?_)))))))))
 ·have hc1n : k < xs.length:=by first | (have h:=of_decide_eq_true hc1;omega) | (have h:=hc1;simp at h;omega)
  refine Qn (Qf (Q0 (Qh [true,true,true,true,true,true,true,false] Z Z (Qa (Qc Z) Z (Qa (Qc Z) Z (Qa (Qc Z) Z (Qa (Qc Z) Z ?_)))))))
  have hi1 : k < xs.length:=(by first | assumption | omega | (simp only [List.length_set];first | assumption | omega))
  refine Qa (Q1 (i:=k) C1 Z Z (hxs.ext E) hi1) Z (Qa (Qj Tb Z (((hxs.ext E).get hi1).one 0 Z)) Z (Qa (Vo C1 Z Z (by first | assumption | omega | (simp only [List.length_set];first | assumption | omega))) Z (Yj (cs':=mk xs [.bool false] (k + 1) xs.length) Tb Z Z Z h1 (Tn xs [.bool false] Z hc1n hc1n (by rfl)) (Tm xs [.bool false] Z hc1n hc1n) (fun w3 m1 h1'=>?_))))
  replace h1:=h1'
  replace E:=E.step m1 (fun g hg=>by cases hg;omega)
  have z3:=m1.size
  refine Qd (Q4 (Yr (Qh [true,true,true] Z Z (Qa (Qc Z) Z (Qa (Q8 Z Z (Yt hc1n hxs.1)) Z (Qa (Qe Z) Z (Qd (Q4 (Yc (k + 1) (by omega) ⟨Z,Z,Z,Z,trivial⟩ ⟨E,(by omega),(by omega),h1⟩)))))))))
 ·have hc1n : ¬ k < xs.length:=by first | (have h:=of_decide_eq_false hc1;omega) | (have h:=hc1;simp at h;omega)
  refine Yn (Q5 (Q3 ?_))
  refine Qf (Qh [true,true] Z Z (Qa (Qc Z) Z (Qa (Qe Z) Z (Qd (Qw (Ql Z Z E ?_))))))
  obtain rfl : k = xs.length:=by omega
  rw [C7] at h1
  exact Own.ofBlk h1 (by omega) (by have:=h1.lt;omega) (Yb xs) hxs.1

set_option maxRecDepth 20000 in
theorem c_eqBoolS (vxs : Value) (xs : List Bool) (vys : Value) (ys : List Bool) (w : World) (hxs : RdS w vxs xs) (hys : RdS w vys ys) : Ct Tryz.prog 123 [vxs,vys] w (fun v _=>v = .bool (decide (xs = ys))):=by
 refine Yh Tryz.func123 Z Tryz.ntmps123 Z ?_
 refine Q7 [(0,vxs),(1,vys)] ⟨Z,Z,trivial⟩ ?_
 have E : Ext w w:=Ext.refl w
 refine Qf (Qh [true] Z Z (Qa (Qe Z) Z (Qd (Qf (Qf (Qh [true,true,true,true,true] Z Z (Qa (Qc Z) Z (Qa (Ya Tryz.underlying67 Z (hxs.ext E).len) Z (Qa (Qc Z) Z (Qa (Ya Tryz.underlying67 Z (hys.ext E).len) Z (Qa (Yu Z Z) Z (Qd (Qs Z (fun hc1=>?_) (fun hc1=>?_))))))))))))))
 ·have hc1n : ¬ xs.length = ys.length:=by first | (have h:=of_decide_eq_true hc1;omega) | (have h:=hc1;simp at h;omega)
  refine Qf (Qh [true] Z Z (Qa (Qe Z) Z (Qd (Qw (Ql Z Z E ?_)))))
  simp [H6 hc1n]
 ·have hc1n : xs.length = ys.length:=by first | (have h:=of_decide_eq_false hc1;omega) | (have h:=hc1;simp at h;omega)
  refine Qn (Qf (Qf (Qh [true] Z Z (Qa (Qe Z) Z (Qd (Q0 (Ym (fun (k : Nat)=>[(0,vxs),(1,vys),(4,.bool false),(5,.int .i64 ((k : Nat) : Int))]) (fun (k : Nat) w'=>Ext w w' ∧ w.heap.size ≤ w'.heap.size ∧ k ≤ xs.length ∧ xs.take k = ys.take k) (fun (k : Nat)=>xs.length - k) 0 ⟨Z,Z,Z,Z,trivial⟩ ⟨E,Nat.le_refl _,Nat.zero_le _,Z⟩ ?_)))))))
  clear E
  rintro k w1 ⟨E,z1,hk,hp⟩
  refine Qf (Qf (Qh [true,true,true,true] Z Z (Qa (Qc Z) Z (Qa (Qc Z) Z (Qa (Ya Tryz.underlying67 Z (hxs.ext E).len) Z (Qa (Yf Z Z) Z (Qd (Qs Z (fun hc2=>?_) (fun hc2=>?_)))))))))
  ·have hc2n : k < xs.length:=by first | (have h:=of_decide_eq_true hc2;omega) | (have h:=hc2;simp at h;omega)
   refine Qn (Qf (Q0 (Qf (Xj Xi [(0,true),(1,true),(2,true),(3,true),(4,true),(5,true),(6,true),(7,true),(8,true)] (by decide +kernel) Z (fun w2 e1=>?_)))))
   replace E:=E.trans e1
   have z2:=e1.size
   refine Qa (Qc Z) Z (Qa (Qc Z) Z ?_)
   have hi1 : k < xs.length:=(by first | assumption | omega | (simp only [List.length_set];first | assumption | omega))
   refine Qa (Q1 (i:=k) C1 Z Z (hxs.ext E) hi1) Z (Qa (Qj Tb Z (((hxs.ext E).get hi1).one 0 Z)) Z (Qa (Qc Z) Z (Qa (Qc Z) Z ?_)))
   have hi2 : k < ys.length:=(by first | assumption | omega | (simp only [List.length_set];first | assumption | omega))
   refine Qa (Q1 (i:=k) C1 Z Z (hys.ext E) hi2) Z (Qa (Qj Tb Z (((hys.ext E).get hi2).one 0 Z)) Z (Qa (Vf (Tryz.underlying4) Z Z) Z (Qd (Qs Z (fun hc3=>?_) (fun hc3=>?_)))))
   ·refine Qf (Qh [true] Z Z (Qa (Qe Z) Z (Qd (Qw (Q2 (Y0 (Q2 (Ql Z Z E ?_))))))))
    exact H7 (by omega) (by omega) (by simpa using hc3)
   ·refine Qn (Q4 (Yr (Qh [true,true,true] Z Z (Qa (Qc Z) Z (Qa (Q8 Z Z (Yt hc2n hxs.1)) Z (Qa (Qe Z) Z (Qd (Q4 (Yc (k + 1) (by omega) ⟨Z,Z,Z,Z,trivial⟩ ⟨E,(by omega),(by omega),Vn hp (by assumption) (by omega) (by simpa using hc3)⟩)))))))))
  ·have hc2n : ¬ k < xs.length:=by first | (have h:=of_decide_eq_false hc2;omega) | (have h:=hc2;simp at h;omega)
   refine Yn (Q5 (Q3 ?_))
   refine Qf (Qh [true] Z Z (Qa (Qe Z) Z (Qd (Qw (Ql Z Z E ?_)))))
   exact Gr hp hc1n (by omega)

set_option maxRecDepth 20000 in
theorem c_szDoneS (vxs : Value) (xs : List Done) (n : Int) (w : World) (hxs : RdS w vxs xs) (h0 : 0 ≤ n ∧ n ≤ 1048576) : Ct Tryz.prog 85 [vxs,.int .i64 n] w (fun v _=>v = .int .i64 (Up xs.length n)):=by
 refine Yh Tryz.func85 Z Tryz.ntmps85 Z ?_
 refine Q7 [(0,vxs),(1,.int .i64 n)] ⟨Z,Z,trivial⟩ ?_
 have E : Ext w w:=Ext.refl w
 refine Qf (Qh [true] Z Z (Qa (Qe Z) Z (Qd (Qf (Qh [true,true,true,true,true] Z Z (Qa (Qc Z) Z (Qa (Qc Z) Z (Qa (Ya Tryz.underlying87 Z (hxs.ext E).len) Z (Qa (Uu Z Z Z) Z (Qa (Qe Z) Z (Qd (Qf (Qf (Qh [true,true] Z Z (Qa (Qc Z) Z (Qa (Yf Z Z) Z (Qd (Qs Z (fun hc1=>?_) (fun hc1=>?_)))))))))))))))))))
 ·refine Qf (Qh [true] Z Z (Qa (Qe Z) Z (Qd (Qw (Ql Z Z E ?_)))))
  exact B3 h0.2 h0.1 hxs.1 hc1
 ·refine Qn (Qf (Qh [true,true] Z Z (Qa (Qc Z) Z (Qa (Qe Z) Z (Qd (Qw (Ql Z Z E ?_)))))))
  exact C0 h0.2 h0.1 hxs.1 hc1

set_option maxRecDepth 20000 in
theorem c_toDoneS (vxs : Value) (xs : List Done) (w : World) (hxs : RdS w vxs xs) (hb : xs.length ≤ 1048576) : Ct Tryz.prog 105 [vxs] w (fun v w'=>Own w' w.heap.size w'.heap.size 2 v (List.flatMap (Enc.enc (α:=Done)) xs)):=by
 refine Yh Tryz.func105 Z Tryz.ntmps105 Z ?_
 refine Q7 [(0,vxs)] ⟨Z,trivial⟩ ?_
 have E : Ext w w:=Ext.refl w
 refine Qf (Qh [true] Z Z (Qa (Qe Z) Z (Qd (Qf (Qh [true,true,false,true] Z Z (Qa (Qc Z) Z (Qa (Ya Tryz.underlying87 Z (hxs.ext E).len) Z (H9 (m:=xs.length) Cc Z Z (by omega) (by decide) Z (fun b1 w1 e1 s1 h1=>?_)))))))))
 have g_b1 : w.heap.size ≤ b1:=by have:=E.size;omega
 have y_b1:=h1.lt
 replace E:=E.trans e1
 have z1:=e1.size
 refine Qa (Qe Z) Z (Qd (Qf (Qf (Qh [true] Z Z (Qa (Qe Z) Z (Qd (Q0 (Ym (fun (k : Nat)=>[(0,vxs),(2,.slice none 0 0),(3,.slice (some ⟨b1,0,none⟩) xs.length xs.length),(4,.int .i64 ((k : Nat) : Int))]) (fun (k : Nat) w'=>Ext w w' ∧ w1.heap.size ≤ w'.heap.size ∧ k ≤ xs.length ∧ Blk w' b1 (mk xs [.int .i64 0,.bool false] k xs.length)) (fun (k : Nat)=>xs.length - k) 0 ⟨Z,Z,Z,Z,trivial⟩ ⟨E,Nat.le_refl _,Nat.zero_le _,(Tl xs [.int .i64 0,.bool false] xs.length) ▸ h1⟩ ?_))))))))
 clear E h1
 rintro k w2 ⟨E,z2,hk,h1⟩
 refine Qf (Qf (Qh [true,true,true,true] Z Z (Qa (Qc Z) Z (Qa (Qc Z) Z (Qa (Ya Tryz.underlying87 Z (hxs.ext E).len) Z (Qa (Yf Z Z) Z (Qd (Qs Z (fun hc1=>?_) (fun hc1=>?_)))))))))
 ·have hc1n : k < xs.length:=by first | (have h:=of_decide_eq_true hc1;omega) | (have h:=hc1;simp at h;omega)
  refine Qn (Qf (Q0 (Qh [true,true,true,true,true,true,false,true,false] Z Z (Qa (Qc Z) Z (Qa (Qc Z) Z (Qa (Qc Z) Z (Qa (Qc Z) Z ?_)))))))
  have hi1 : k < xs.length:=(by first | assumption | omega | (simp only [List.length_set];first | assumption | omega))
  refine Qa (Q1 (i:=k) sl87 Z Z (hxs.ext E) hi1) Z (Qa (Qt st186 Z ((hxs.ext E).get hi1) Z) Z (Qv Tryz.call134 Z (c_toDone (xs[k]'hi1) _ ) Z (fun _ w3 e2 hv=>?_)))
  subst hv
  replace E:=E.trans e2;replace h1:=h1.ext e2
  have z3:=e2.size
  refine Qa (Vo Cc Z Z (by first | assumption | omega | (simp only [List.length_set];first | assumption | omega))) Z (Q6 (cs':=mk xs [.int .i64 0,.bool false] (k + 1) xs.length) Ty Z Z Z Z h1 (Tn xs [.int .i64 0,.bool false] Z hc1n hc1n (by rfl)) (Tm xs [.int .i64 0,.bool false] Z hc1n hc1n) (fun w4 m1 h1'=>?_))
  replace h1:=h1'
  replace E:=E.step m1 (fun g hg=>by cases hg;omega)
  have z4:=m1.size
  refine Qd (Q4 (Yr (Qh [true,true,true] Z Z (Qa (Qc Z) Z (Qa (Q8 Z Z (Yt hc1n hxs.1)) Z (Qa (Qe Z) Z (Qd (Q4 (Yc (k + 1) (by omega) ⟨Z,Z,Z,Z,trivial⟩ ⟨E,(by omega),(by omega),h1⟩)))))))))
 ·have hc1n : ¬ k < xs.length:=by first | (have h:=of_decide_eq_false hc1;omega) | (have h:=hc1;simp at h;omega)
  refine Yn (Q5 (Q3 ?_))
  refine Qf (Qh [true,true] Z Z (Qa (Qc Z) Z (Qa (Qe Z) Z (Qd (Qw (Ql Z Z E ?_))))))
  obtain rfl : k = xs.length:=by omega
  rw [C7] at h1
  exact Own.ofBlk h1 (by omega) (by have:=h1.lt;omega) (Yb xs) hxs.1

set_option maxRecDepth 20000 in
theorem c_eqDoneS (vxs : Value) (xs : List Done) (vys : Value) (ys : List Done) (w : World) (hxs : RdS w vxs xs) (hys : RdS w vys ys) : Ct Tryz.prog 124 [vxs,vys] w (fun v _=>v = .bool (decide (xs = ys))):=by
 refine Yh Tryz.func124 Z Tryz.ntmps124 Z ?_
 refine Q7 [(0,vxs),(1,vys)] ⟨Z,Z,trivial⟩ ?_
 have E : Ext w w:=Ext.refl w
 refine Qf (Qh [true] Z Z (Qa (Qe Z) Z (Qd (Qf (Qf (Qh [true,true,true,true,true] Z Z (Qa (Qc Z) Z (Qa (Ya Tryz.underlying68 Z (hxs.ext E).len) Z (Qa (Qc Z) Z (Qa (Ya Tryz.underlying68 Z (hys.ext E).len) Z (Qa (Yu Z Z) Z (Qd (Qs Z (fun hc1=>?_) (fun hc1=>?_))))))))))))))
 ·have hc1n : ¬ xs.length = ys.length:=by first | (have h:=of_decide_eq_true hc1;omega) | (have h:=hc1;simp at h;omega)
  refine Qf (Qh [true] Z Z (Qa (Qe Z) Z (Qd (Qw (Ql Z Z E ?_)))))
  simp [H6 hc1n]
 ·have hc1n : xs.length = ys.length:=by first | (have h:=of_decide_eq_false hc1;omega) | (have h:=hc1;simp at h;omega)
  refine Qn (Qf (Qf (Qh [true] Z Z (Qa (Qe Z) Z (Qd (Q0 (Ym (fun (k : Nat)=>[(0,vxs),(1,vys),(4,.bool false),(5,.int .i64 ((k : Nat) : Int))]) (fun (k : Nat) w'=>Ext w w' ∧ w.heap.size ≤ w'.heap.size ∧ k ≤ xs.length ∧ xs.take k = ys.take k) (fun (k : Nat)=>xs.length - k) 0 ⟨Z,Z,Z,Z,trivial⟩ ⟨E,Nat.le_refl _,Nat.zero_le _,Z⟩ ?_)))))))
  clear E
  rintro k w1 ⟨E,z1,hk,hp⟩
  refine Qf (Qf (Qh [true,true,true,true] Z Z (Qa (Qc Z) Z (Qa (Qc Z) Z (Qa (Ya Tryz.underlying68 Z (hxs.ext E).len) Z (Qa (Yf Z Z) Z (Qd (Qs Z (fun hc2=>?_) (fun hc2=>?_)))))))))
  ·have hc2n : k < xs.length:=by first | (have h:=of_decide_eq_true hc2;omega) | (have h:=hc2;simp at h;omega)
   refine Qn (Qf (Q0 (Qf (Xj Xi [(0,true),(1,true),(2,true),(3,true),(4,true),(5,true),(6,true),(7,true),(8,false),(9,true)] (by decide +kernel) Z (fun w2 e1=>?_)))))
   replace E:=E.trans e1
   have z2:=e1.size
   refine Qa (Qc Z) Z (Qa (Qc Z) Z ?_)
   have hi1 : k < xs.length:=(by first | assumption | omega | (simp only [List.length_set];first | assumption | omega))
   refine Qa (Q1 (i:=k) Cc Z Z (hxs.ext E) hi1) Z (Qa (Qt Ty Z ((hxs.ext E).get hi1) Z) Z (Qa (Qc Z) Z (Qa (Qc Z) Z ?_)))
   have hi2 : k < ys.length:=(by first | assumption | omega | (simp only [List.length_set];first | assumption | omega))
   refine Qa (Q1 (i:=k) Cc Z Z (hys.ext E) hi2) Z (Qa (Qt Ty Z ((hys.ext E).get hi2) Z) Z (Qv Tryz.call146 Z (c_eqDone (xs[k]'hi1) (ys[k]'hi2) _ ) Z (fun _ w3 e2 hv=>?_)))
   subst hv
   replace E:=E.trans e2
   have z3:=e2.size
   refine Qa (Yq Z) Z (Qd (Qs Z (fun hc3=>?_) (fun hc3=>?_)))
   ·refine Qf (Qh [true] Z Z (Qa (Qe Z) Z (Qd (Qw (Q2 (Y0 (Q2 (Ql Z Z E ?_))))))))
    exact H7 (by omega) (by omega) (by simpa using hc3)
   ·refine Qn (Q4 (Yr (Qh [true,true,true] Z Z (Qa (Qc Z) Z (Qa (Q8 Z Z (Yt hc2n hxs.1)) Z (Qa (Qe Z) Z (Qd (Q4 (Yc (k + 1) (by omega) ⟨Z,Z,Z,Z,trivial⟩ ⟨E,(by omega),(by omega),Vn hp (by assumption) (by omega) (by simpa using hc3)⟩)))))))))
  ·have hc2n : ¬ k < xs.length:=by first | (have h:=of_decide_eq_false hc2;omega) | (have h:=hc2;simp at h;omega)
   refine Yn (Q5 (Q3 ?_))
   refine Qf (Qh [true] Z Z (Qa (Qe Z) Z (Qd (Qw (Ql Z Z E ?_)))))
   exact Gr hp hc1n (by omega)

set_option maxHeartbeats 4000000 in
set_option maxRecDepth 20000 in
theorem c_szWorker (cx : List Value) (x : Worker) (n : Int) (w : World) (hx : Dat.R w 0 w.heap.size cx x) (h0 : 0 ≤ n ∧ n ≤ 1048576) : Ct Tryz.prog 42 [.agg cx.toArray,.int .i64 n] w (fun v _=>v = .int .i64 (Up (Yd x) n)):=by
 refine Yh Tryz.func42 Z Tryz.ntmps42 Z ?_
 obtain ⟨o1,o2,o3,o4,o5,o6,o7,o8,rfl,hd1,hd2,hd3,hd4,hd5,hd6,hd7,hd8⟩:=Worker.op hx
 refine Q7 [(0,.agg [o1,o2,o3,o4,o5,o6,o7,o8].toArray),(1,.int .i64 n)] ⟨Z,Z,trivial⟩ ?_
 have E : Ext w w:=Ext.refl w
 refine Qf (Qh [false,true] Z Z (Y1 Z Z (fun b1 w1 e1 s1 h1=>?_)))
 have g_b1 : w.heap.size ≤ b1:=by have:=E.size;omega
 have y_b1:=h1.lt
 replace E:=E.trans e1
 have z1:=e1.size
 refine Qa (Qe Z) Z (Qd (Qf (Qh [true,true,true,false,true] Z Z (Qa (Qb fl89_0 Z) Z (Qa (Qj sc85 Z (h1.one 0 Z)) Z (Qa (Qc Z) Z (Qv Tryz.call81 Z (c_szRecordS o1 x.queue n _ (hd1.rd.ext E) (by first | omega | (simp only [Qi];omega) | (rw [Qi];done) | (simp only [Qi];done))) Z (fun _ w2 e2 hv=>?_))))))))
 subst hv
 replace E:=E.trans e2;replace h1:=h1.ext e2
 have z2:=e2.size
 refine Qa (Qe Z) Z (Qd (Qf (Qf (Qh [true,true] Z Z (Qa (Qc Z) Z (Qa (Yf Z Z) Z (Qd (Qs Z (fun hc1=>?_) (fun hc1=>?_)))))))))
 ·have q1:=Uo hc1 (by omega)
  refine Qf (Qh [true] Z Z (Qa (Qe Z) Z (Qd (Qw (Ql Z Z E ?_)))))
  first | exact Kg (by unfold Yd;omega) | exact Kz (by unfold Yd;omega) (by unfold Yd;omega)
 ·have q2:=Un hc1 (by omega)
  refine Qn (Qf (Qh [true,true,true,false,true] Z Z (Qa (Qb fl89_1 Z) Z (Qa (Qj sc85 Z (h1.one 1 Z)) Z (Qa (Qc Z) Z (Qv Tryz.call81 Z (c_szRecordS o2 x.staged (Up x.queue.length n) _ (hd2.rd.ext E) (by first | omega | (simp only [Qi];omega) | (rw [Qi];done) | (simp only [Qi];done))) Z (fun _ w3 e3 hv=>?_)))))))
  subst hv
  replace E:=E.trans e3;replace h1:=h1.ext e3
  have z3:=e3.size
  refine Qa (Qe Z) Z (Qd (Qf (Qf (Qh [true,true] Z Z (Qa (Qc Z) Z (Qa (Yf Z Z) Z (Qd (Qs Z (fun hc2=>?_) (fun hc2=>?_)))))))))
  ·have q3:=Uo hc2 (by omega)
   refine Qf (Qh [true] Z Z (Qa (Qe Z) Z (Qd (Qw (Ql Z Z E ?_)))))
   first | exact Kg (by unfold Yd;omega) | exact Kz (by unfold Yd;omega) (by unfold Yd;omega)
  ·have q4:=Un hc2 (by omega)
   refine Qn (Qf (Qh [true,true,true,false,true] Z Z (Qa (Qb fl89_2 Z) Z (Qa (Qj sc85 Z (h1.one 2 Z)) Z (Qa (Qc Z) Z (Qv Tryz.call81 Z (c_szRecordS o3 x.inputs (Up x.staged.length (Up x.queue.length n)) _ (hd3.rd.ext E) (by first | omega | (simp only [Qi];omega) | (rw [Qi];done) | (simp only [Qi];done))) Z (fun _ w4 e4 hv=>?_)))))))
   subst hv
   replace E:=E.trans e4;replace h1:=h1.ext e4
   have z4:=e4.size
   refine Qa (Qe Z) Z (Qd (Qf (Qf (Qh [true,true] Z Z (Qa (Qc Z) Z (Qa (Yf Z Z) Z (Qd (Qs Z (fun hc3=>?_) (fun hc3=>?_)))))))))
   ·have q5:=Uo hc3 (by omega)
    refine Qf (Qh [true] Z Z (Qa (Qe Z) Z (Qd (Qw (Ql Z Z E ?_)))))
    first | exact Kg (by unfold Yd;omega) | exact Kz (by unfold Yd;omega) (by unfold Yd;omega)
   ·have q6:=Un hc3 (by omega)
    refine Qn (Qf (Qh [true,true,true,false,true] Z Z (Qa (Qb fl89_3 Z) Z (Qa (Qj sc86 Z (h1.one 3 Z)) Z (Qa (Qc Z) Z (Qv Tryz.call82 Z (c_szCellS o4 x.cells (Up x.inputs.length (Up x.staged.length (Up x.queue.length n))) _ (hd4.rd.ext E) (by first | omega | (simp only [Qi];omega) | (rw [Qi];done) | (simp only [Qi];done))) Z (fun _ w5 e5 hv=>?_)))))))
    subst hv
    replace E:=E.trans e5;replace h1:=h1.ext e5
    have z5:=e5.size
    refine Qa (Qe Z) Z (Qd (Qf (Qf (Qh [true,true] Z Z (Qa (Qc Z) Z (Qa (Yf Z Z) Z (Qd (Qs Z (fun hc4=>?_) (fun hc4=>?_)))))))))
    ·have q7:=Uo hc4 (by omega)
     refine Qf (Qh [true] Z Z (Qa (Qe Z) Z (Qd (Qw (Ql Z Z E ?_)))))
     first | exact Kg (by unfold Yd;omega) | exact Kz (by unfold Yd;omega) (by unfold Yd;omega)
    ·have q8:=Un hc4 (by omega)
     refine Qn (Qf (Qh [true,true,true,false,true] Z Z (Qa (Qb fl89_4 Z) Z (Qa (Qj Ke Z (h1.one 4 Z)) Z (Qa (Qc Z) Z (Qv Tryz.call83 Z (c_szIntS o5 x.sums (Up x.cells.length (Up x.inputs.length (Up x.staged.length (Up x.queue.length n)))) _ (hd5.rd.ext E) (by first | omega | (simp only [Qi];omega) | (rw [Qi];done) | (simp only [Qi];done))) Z (fun _ w6 e6 hv=>?_)))))))
     subst hv
     replace E:=E.trans e6;replace h1:=h1.ext e6
     have z6:=e6.size
     refine Qa (Qe Z) Z (Qd (Qf (Qf (Qh [true,true] Z Z (Qa (Qc Z) Z (Qa (Yf Z Z) Z (Qd (Qs Z (fun hc5=>?_) (fun hc5=>?_)))))))))
     ·have q9:=Uo hc5 (by omega)
      refine Qf (Qh [true] Z Z (Qa (Qe Z) Z (Qd (Qw (Ql Z Z E ?_)))))
      first | exact Kg (by unfold Yd;omega) | exact Kz (by unfold Yd;omega) (by unfold Yd;omega)
     ·have q10:=Un hc5 (by omega)
      refine Qn (Qf (Qh [true,true,true,false,true] Z Z (Qa (Qb fl89_5 Z) Z (Qa (Qj G5 Z (h1.one 5 Z)) Z (Qa (Qc Z) Z (Qv Tryz.call84 Z (c_szBoolS o6 x.black (Up x.sums.length (Up x.cells.length (Up x.inputs.length (Up x.staged.length (Up x.queue.length n))))) _ (hd6.rd.ext E) (by first | omega | (simp only [Qi];omega) | (rw [Qi];done) | (simp only [Qi];done))) Z (fun _ w7 e7 hv=>?_)))))))
      subst hv
      replace E:=E.trans e7;replace h1:=h1.ext e7
      have z7:=e7.size
      refine Qa (Qe Z) Z (Qd (Qf (Qf (Qh [true,true] Z Z (Qa (Qc Z) Z (Qa (Yf Z Z) Z (Qd (Qs Z (fun hc6=>?_) (fun hc6=>?_)))))))))
      ·have q11:=Uo hc6 (by omega)
       refine Qf (Qh [true] Z Z (Qa (Qe Z) Z (Qd (Qw (Ql Z Z E ?_)))))
       first | exact Kg (by unfold Yd;omega) | exact Kz (by unfold Yd;omega) (by unfold Yd;omega)
      ·have q12:=Un hc6 (by omega)
       refine Qn (Qf (Qh [true,true,true,false,true] Z Z (Qa (Qb fl89_6 Z) Z (Qa (Qj G5 Z (h1.one 6 Z)) Z (Qa (Qc Z) Z (Qv Tryz.call84 Z (c_szBoolS o7 x.caps (Up x.black.length (Up x.sums.length (Up x.cells.length (Up x.inputs.length (Up x.staged.length (Up x.queue.length n)))))) _ (hd7.rd.ext E) (by first | omega | (simp only [Qi];omega) | (rw [Qi];done) | (simp only [Qi];done))) Z (fun _ w8 e8 hv=>?_)))))))
       subst hv
       replace E:=E.trans e8;replace h1:=h1.ext e8
       have z8:=e8.size
       refine Qa (Qe Z) Z (Qd (Qf (Qf (Qh [true,true] Z Z (Qa (Qc Z) Z (Qa (Yf Z Z) Z (Qd (Qs Z (fun hc7=>?_) (fun hc7=>?_)))))))))
       ·have q13:=Uo hc7 (by omega)
        refine Qf (Qh [true] Z Z (Qa (Qe Z) Z (Qd (Qw (Ql Z Z E ?_)))))
        first | exact Kg (by unfold Yd;omega) | exact Kz (by unfold Yd;omega) (by unfold Yd;omega)
       ·have q14:=Un hc7 (by omega)
        refine Qn (Qf (Qh [true,true,true,false,true] Z Z (Qa (Qb fl89_7 Z) Z (Qa (Qj sc87 Z (h1.one 7 Z)) Z (Qa (Qc Z) Z (Qv Tryz.call85 Z (c_szDoneS o8 x.dones (Up x.caps.length (Up x.black.length (Up x.sums.length (Up x.cells.length (Up x.inputs.length (Up x.staged.length (Up x.queue.length n))))))) _ (hd8.rd.ext E) (by first | omega | (simp only [Qi];omega) | (rw [Qi];done) | (simp only [Qi];done))) Z (fun _ w9 e9 hv=>?_)))))))
        subst hv
        replace E:=E.trans e9;replace h1:=h1.ext e9
        have z9:=e9.size
        refine Qa (Qe Z) Z (Qd (Qf (Qf (Qh [true,true] Z Z (Qa (Qc Z) Z (Qa (Yf Z Z) Z (Qd (Qs Z (fun hc8=>?_) (fun hc8=>?_)))))))))
        ·have q15:=Uo hc8 (by omega)
         refine Qf (Qh [true] Z Z (Qa (Qe Z) Z (Qd (Qw (Ql Z Z E ?_)))))
         first | exact Kg (by unfold Yd;omega) | exact Kz (by unfold Yd;omega) (by unfold Yd;omega)
        ·have q16:=Un hc8 (by omega)
         refine Qn (Qf (Qh [true,true] Z Z (Qa (Qc Z) Z (Qa (Qe Z) Z (Qd (Qw (Ql Z Z E ?_)))))))
         first | exact Kg (by unfold Yd;omega) | exact Kz (by unfold Yd;omega) (by unfold Yd;omega)

set_option maxHeartbeats 4000000 in
set_option maxRecDepth 20000 in
theorem c_toWorker (cx : List Value) (x : Worker) (w : World) (hx : Dat.R w 0 w.heap.size cx x) (hb : Yd x ≤ 1048576) : Ct Tryz.prog 50 [.agg cx.toArray] w (fun v w'=>∃ cs,v = .agg cs.toArray ∧ Own1.O w' w.heap.size w'.heap.size cs x):=by
 unfold Yd at hb
 refine Yh Tryz.func50 Z Tryz.ntmps50 Z ?_
 obtain ⟨o1,o2,o3,o4,o5,o6,o7,o8,rfl,hd1,hd2,hd3,hd4,hd5,hd6,hd7,hd8⟩:=Worker.op hx
 refine Q7 [(0,.agg [o1,o2,o3,o4,o5,o6,o7,o8].toArray)] ⟨Z,trivial⟩ ?_
 have E : Ext w w:=Ext.refl w
 refine Qf (Qh [false,false] Z Z (Y1 Z Z (fun b1 w1 e1 s1 h1=>?_)))
 have g_b1 : w.heap.size ≤ b1:=by have:=E.size;omega
 have y_b1:=h1.lt
 replace E:=E.trans e1
 have z1:=e1.size
 refine Yk Kw Z (fun b2 w2 e2 s2 h2=>?_)
 have g_b2 : w.heap.size ≤ b2:=by have:=E.size;omega
 have y_b2:=h2.lt
 replace E:=E.trans e2;replace h1:=h1.ext e2
 have z2:=e2.size
 refine Qd (Qf (Qh [false] Z Z (Yk Kw Z (fun b3 w3 e3 s3 h3=>?_))))
 have g_b3 : w.heap.size ≤ b3:=by have:=E.size;omega
 have y_b3:=h3.lt
 replace E:=E.trans e3;replace h1:=h1.ext e3;replace h2:=h2.ext e3
 have z3:=e3.size
 refine Qd (Qf (Qh [true,true,false,true,false] Z Z (Qa (Qb fl89_0 Z) Z (Qa (Qj sc85 Z (h1.one 0 Z)) Z (Qv Tryz.call101 Z (c_toRecordS o1 x.queue _ (hd1.rd.ext E) (by first | omega | (simp only [Qi];omega) | (rw [Qi];done) | (simp only [Qi];done))) Z (fun v1 w4 e4 ho1=>?_))))))
 have g_ho1 : w.heap.size ≤ w3.heap.size:=E.size
 replace E:=E.trans e4;replace h1:=h1.ext e4;replace h2:=h2.ext e4;replace h3:=h3.ext e4
 have z4:=e4.size
 refine Qa (Qb Vd Z) Z (Yj (cs':=[v1,.slice none 0 0,.slice none 0 0,.slice none 0 0,.slice none 0 0,.slice none 0 0,.slice none 0 0,.slice none 0 0]) Xy Z Z ho1.one h3 (Nat.le_of_ble_eq_true Z) Z (fun w5 m1 h3'=>?_))
 replace h3:=h3'
 replace E:=E.step m1 (fun g hg=>by cases hg;omega);replace h1:=h1.mod m1 (fun g hg=>by cases hg;omega);replace h2:=h2.mod m1 (fun g hg=>by cases hg;omega);replace ho1:=ho1.mod m1 (fun g hg=>by cases hg;omega)
 have z5:=m1.size
 refine Qd (Qf (Qh [true,true,false,true,false] Z Z (Qa (Qb fl89_1 Z) Z (Qa (Qj sc85 Z (h1.one 1 Z)) Z (Qv Tryz.call101 Z (c_toRecordS o2 x.staged _ (hd2.rd.ext E) (by first | omega | (simp only [Qi];omega) | (rw [Qi];done) | (simp only [Qi];done))) Z (fun v2 w6 e5 ho2=>?_))))))
 have g_ho2 : w.heap.size ≤ w5.heap.size:=E.size
 replace E:=E.trans e5;replace h1:=h1.ext e5;replace h2:=h2.ext e5;replace h3:=h3.ext e5;replace ho1:=ho1.ext e5
 have z6:=e5.size
 refine Qa (Qb Gm Z) Z (Yj (cs':=[v1,v2,.slice none 0 0,.slice none 0 0,.slice none 0 0,.slice none 0 0,.slice none 0 0,.slice none 0 0]) Xy Z Z ho2.one h3 (Nat.le_of_ble_eq_true Z) Z (fun w7 m2 h3'=>?_))
 replace h3:=h3'
 replace E:=E.step m2 (fun g hg=>by cases hg;omega);replace h1:=h1.mod m2 (fun g hg=>by cases hg;omega);replace h2:=h2.mod m2 (fun g hg=>by cases hg;omega);replace ho1:=ho1.mod m2 (fun g hg=>by cases hg;omega);replace ho2:=ho2.mod m2 (fun g hg=>by cases hg;omega)
 have z7:=m2.size
 refine Qd (Qf (Qh [true,true,false,true,false] Z Z (Qa (Qb fl89_2 Z) Z (Qa (Qj sc85 Z (h1.one 2 Z)) Z (Qv Tryz.call101 Z (c_toRecordS o3 x.inputs _ (hd3.rd.ext E) (by first | omega | (simp only [Qi];omega) | (rw [Qi];done) | (simp only [Qi];done))) Z (fun v3 w8 e6 ho3=>?_))))))
 have g_ho3 : w.heap.size ≤ w7.heap.size:=E.size
 replace E:=E.trans e6;replace h1:=h1.ext e6;replace h2:=h2.ext e6;replace h3:=h3.ext e6;replace ho1:=ho1.ext e6;replace ho2:=ho2.ext e6
 have z8:=e6.size
 refine Qa (Qb Vj Z) Z (Yj (cs':=[v1,v2,v3,.slice none 0 0,.slice none 0 0,.slice none 0 0,.slice none 0 0,.slice none 0 0]) Xy Z Z ho3.one h3 (Nat.le_of_ble_eq_true Z) Z (fun w9 m3 h3'=>?_))
 replace h3:=h3'
 replace E:=E.step m3 (fun g hg=>by cases hg;omega);replace h1:=h1.mod m3 (fun g hg=>by cases hg;omega);replace h2:=h2.mod m3 (fun g hg=>by cases hg;omega);replace ho1:=ho1.mod m3 (fun g hg=>by cases hg;omega);replace ho2:=ho2.mod m3 (fun g hg=>by cases hg;omega);replace ho3:=ho3.mod m3 (fun g hg=>by cases hg;omega)
 have z9:=m3.size
 refine Qd (Qf (Qh [true,true,false,true,false] Z Z (Qa (Qb fl89_3 Z) Z (Qa (Qj sc86 Z (h1.one 3 Z)) Z (Qv Tryz.call102 Z (c_toCellS o4 x.cells _ (hd4.rd.ext E) (by first | omega | (simp only [Qi];omega) | (rw [Qi];done) | (simp only [Qi];done))) Z (fun v4 w10 e7 ho4=>?_))))))
 have g_ho4 : w.heap.size ≤ w9.heap.size:=E.size
 replace E:=E.trans e7;replace h1:=h1.ext e7;replace h2:=h2.ext e7;replace h3:=h3.ext e7;replace ho1:=ho1.ext e7;replace ho2:=ho2.ext e7;replace ho3:=ho3.ext e7
 have z10:=e7.size
 refine Qa (Qb Gl Z) Z (Yj (cs':=[v1,v2,v3,v4,.slice none 0 0,.slice none 0 0,.slice none 0 0,.slice none 0 0]) A1 Z Z ho4.one h3 (Nat.le_of_ble_eq_true Z) Z (fun w11 m4 h3'=>?_))
 replace h3:=h3'
 replace E:=E.step m4 (fun g hg=>by cases hg;omega);replace h1:=h1.mod m4 (fun g hg=>by cases hg;omega);replace h2:=h2.mod m4 (fun g hg=>by cases hg;omega);replace ho1:=ho1.mod m4 (fun g hg=>by cases hg;omega);replace ho2:=ho2.mod m4 (fun g hg=>by cases hg;omega);replace ho3:=ho3.mod m4 (fun g hg=>by cases hg;omega);replace ho4:=ho4.mod m4 (fun g hg=>by cases hg;omega)
 have z11:=m4.size
 refine Qd (Qf (Qh [true,true,false,true,false] Z Z (Qa (Qb fl89_4 Z) Z (Qa (Qj Ke Z (h1.one 4 Z)) Z (Qv Tryz.call103 Z (c_toIntS o5 x.sums _ (hd5.rd.ext E) (by first | omega | (simp only [Qi];omega) | (rw [Qi];done) | (simp only [Qi];done))) Z (fun v5 w12 e8 ho5=>?_))))))
 have g_ho5 : w.heap.size ≤ w11.heap.size:=E.size
 replace E:=E.trans e8;replace h1:=h1.ext e8;replace h2:=h2.ext e8;replace h3:=h3.ext e8;replace ho1:=ho1.ext e8;replace ho2:=ho2.ext e8;replace ho3:=ho3.ext e8;replace ho4:=ho4.ext e8
 have z12:=e8.size
 refine Qa (Qb Hm Z) Z (Yj (cs':=[v1,v2,v3,v4,v5,.slice none 0 0,.slice none 0 0,.slice none 0 0]) Ke Z Z ho5.one h3 (Nat.le_of_ble_eq_true Z) Z (fun w13 m5 h3'=>?_))
 replace h3:=h3'
 replace E:=E.step m5 (fun g hg=>by cases hg;omega);replace h1:=h1.mod m5 (fun g hg=>by cases hg;omega);replace h2:=h2.mod m5 (fun g hg=>by cases hg;omega);replace ho1:=ho1.mod m5 (fun g hg=>by cases hg;omega);replace ho2:=ho2.mod m5 (fun g hg=>by cases hg;omega);replace ho3:=ho3.mod m5 (fun g hg=>by cases hg;omega);replace ho4:=ho4.mod m5 (fun g hg=>by cases hg;omega);replace ho5:=ho5.mod m5 (fun g hg=>by cases hg;omega)
 have z13:=m5.size
 refine Qd (Qf (Qh [true,true,false,true,false] Z Z (Qa (Qb fl89_5 Z) Z (Qa (Qj G5 Z (h1.one 5 Z)) Z (Qv Tryz.call104 Z (c_toBoolS o6 x.black _ (hd6.rd.ext E) (by first | omega | (simp only [Qi];omega) | (rw [Qi];done) | (simp only [Qi];done))) Z (fun v6 w14 e9 ho6=>?_))))))
 have g_ho6 : w.heap.size ≤ w13.heap.size:=E.size
 replace E:=E.trans e9;replace h1:=h1.ext e9;replace h2:=h2.ext e9;replace h3:=h3.ext e9;replace ho1:=ho1.ext e9;replace ho2:=ho2.ext e9;replace ho3:=ho3.ext e9;replace ho4:=ho4.ext e9;replace ho5:=ho5.ext e9
 have z14:=e9.size
 refine Qa (Qb Ts Z) Z (Yj (cs':=[v1,v2,v3,v4,v5,v6,.slice none 0 0,.slice none 0 0]) G5 Z Z ho6.one h3 (Nat.le_of_ble_eq_true Z) Z (fun w15 m6 h3'=>?_))
 replace h3:=h3'
 replace E:=E.step m6 (fun g hg=>by cases hg;omega);replace h1:=h1.mod m6 (fun g hg=>by cases hg;omega);replace h2:=h2.mod m6 (fun g hg=>by cases hg;omega);replace ho1:=ho1.mod m6 (fun g hg=>by cases hg;omega);replace ho2:=ho2.mod m6 (fun g hg=>by cases hg;omega);replace ho3:=ho3.mod m6 (fun g hg=>by cases hg;omega);replace ho4:=ho4.mod m6 (fun g hg=>by cases hg;omega);replace ho5:=ho5.mod m6 (fun g hg=>by cases hg;omega);replace ho6:=ho6.mod m6 (fun g hg=>by cases hg;omega)
 have z15:=m6.size
 refine Qd (Qf (Qh [true,true,false,true,false] Z Z (Qa (Qb fl89_6 Z) Z (Qa (Qj G5 Z (h1.one 6 Z)) Z (Qv Tryz.call104 Z (c_toBoolS o7 x.caps _ (hd7.rd.ext E) (by first | omega | (simp only [Qi];omega) | (rw [Qi];done) | (simp only [Qi];done))) Z (fun v7 w16 e10 ho7=>?_))))))
 have g_ho7 : w.heap.size ≤ w15.heap.size:=E.size
 replace E:=E.trans e10;replace h1:=h1.ext e10;replace h2:=h2.ext e10;replace h3:=h3.ext e10;replace ho1:=ho1.ext e10;replace ho2:=ho2.ext e10;replace ho3:=ho3.ext e10;replace ho4:=ho4.ext e10;replace ho5:=ho5.ext e10;replace ho6:=ho6.ext e10
 have z16:=e10.size
 refine Qa (Qb Hl Z) Z (Yj (cs':=[v1,v2,v3,v4,v5,v6,v7,.slice none 0 0]) G5 Z Z ho7.one h3 (Nat.le_of_ble_eq_true Z) Z (fun w17 m7 h3'=>?_))
 replace h3:=h3'
 replace E:=E.step m7 (fun g hg=>by cases hg;omega);replace h1:=h1.mod m7 (fun g hg=>by cases hg;omega);replace h2:=h2.mod m7 (fun g hg=>by cases hg;omega);replace ho1:=ho1.mod m7 (fun g hg=>by cases hg;omega);replace ho2:=ho2.mod m7 (fun g hg=>by cases hg;omega);replace ho3:=ho3.mod m7 (fun g hg=>by cases hg;omega);replace ho4:=ho4.mod m7 (fun g hg=>by cases hg;omega);replace ho5:=ho5.mod m7 (fun g hg=>by cases hg;omega);replace ho6:=ho6.mod m7 (fun g hg=>by cases hg;omega);replace ho7:=ho7.mod m7 (fun g hg=>by cases hg;omega)
 have z17:=m7.size
 refine Qd (Qf (Qh [true,true,false,true,false] Z Z (Qa (Qb fl89_7 Z) Z (Qa (Qj sc87 Z (h1.one 7 Z)) Z (Qv Tryz.call105 Z (c_toDoneS o8 x.dones _ (hd8.rd.ext E) (by first | omega | (simp only [Qi];omega) | (rw [Qi];done) | (simp only [Qi];done))) Z (fun v8 w18 e11 ho8=>?_))))))
 have g_ho8 : w.heap.size ≤ w17.heap.size:=E.size
 replace E:=E.trans e11;replace h1:=h1.ext e11;replace h2:=h2.ext e11;replace h3:=h3.ext e11;replace ho1:=ho1.ext e11;replace ho2:=ho2.ext e11;replace ho3:=ho3.ext e11;replace ho4:=ho4.ext e11;replace ho5:=ho5.ext e11;replace ho6:=ho6.ext e11;replace ho7:=ho7.ext e11
 have z18:=e11.size
 refine Qa (Qb Gk Z) Z (Yj (cs':=[v1,v2,v3,v4,v5,v6,v7,v8]) A0 Z Z ho8.one h3 (Nat.le_of_ble_eq_true Z) Z (fun w19 m8 h3'=>?_))
 replace h3:=h3'
 replace E:=E.step m8 (fun g hg=>by cases hg;omega);replace h1:=h1.mod m8 (fun g hg=>by cases hg;omega);replace h2:=h2.mod m8 (fun g hg=>by cases hg;omega);replace ho1:=ho1.mod m8 (fun g hg=>by cases hg;omega);replace ho2:=ho2.mod m8 (fun g hg=>by cases hg;omega);replace ho3:=ho3.mod m8 (fun g hg=>by cases hg;omega);replace ho4:=ho4.mod m8 (fun g hg=>by cases hg;omega);replace ho5:=ho5.mod m8 (fun g hg=>by cases hg;omega);replace ho6:=ho6.mod m8 (fun g hg=>by cases hg;omega);replace ho7:=ho7.mod m8 (fun g hg=>by cases hg;omega);replace ho8:=ho8.mod m8 (fun g hg=>by cases hg;omega)
 have z19:=m8.size
 refine Qd (Qf (Qh [true,false] Z Z (Qa (Qt Kw Z h3.at Z) Z (Q6 (cs':=[v1,v2,v3,v4,v5,v6,v7,v8]) Kw Z Z Z (Qk ho1.one (Qk ho2.one (Qk ho3.one (Qk ho4.one (Qk ho5.one (Qk ho6.one (Qk ho7.one (Qk ho8.one Z)))))))) h2 (Nat.le_of_ble_eq_true Z) Z (fun w20 m9 h2'=>?_)))))
 replace h2:=h2'
 replace E:=E.step m9 (fun g hg=>by cases hg;omega);replace h1:=h1.mod m9 (fun g hg=>by cases hg;omega);replace h3:=h3.mod m9 (fun g hg=>by cases hg;omega);replace ho1:=ho1.mod m9 (fun g hg=>by cases hg;omega);replace ho2:=ho2.mod m9 (fun g hg=>by cases hg;omega);replace ho3:=ho3.mod m9 (fun g hg=>by cases hg;omega);replace ho4:=ho4.mod m9 (fun g hg=>by cases hg;omega);replace ho5:=ho5.mod m9 (fun g hg=>by cases hg;omega);replace ho6:=ho6.mod m9 (fun g hg=>by cases hg;omega);replace ho7:=ho7.mod m9 (fun g hg=>by cases hg;omega);replace ho8:=ho8.mod m9 (fun g hg=>by cases hg;omega)
 have z20:=m9.size
 refine Qd (Qw (Kk Z Z (Yi Kw h2.at Z) E ?_))
 exact ⟨_,Z,Worker.mkO x ⟨⟨(Own.sep ho1 ho2 (by omega)),⟨(Own.sep ho1 ho3 (by omega)),⟨(Own.sep ho1 ho4 (by omega)),⟨(Own.sep ho1 ho5 (by omega)),⟨(Own.sep ho1 ho6 (by omega)),⟨(Own.sep ho1 ho7 (by omega)),⟨(Own.sep ho1 ho8 (by omega)),trivial⟩⟩⟩⟩⟩⟩⟩,⟨⟨(Own.sep ho2 ho3 (by omega)),⟨(Own.sep ho2 ho4 (by omega)),⟨(Own.sep ho2 ho5 (by omega)),⟨(Own.sep ho2 ho6 (by omega)),⟨(Own.sep ho2 ho7 (by omega)),⟨(Own.sep ho2 ho8 (by omega)),trivial⟩⟩⟩⟩⟩⟩,⟨⟨(Own.sep ho3 ho4 (by omega)),⟨(Own.sep ho3 ho5 (by omega)),⟨(Own.sep ho3 ho6 (by omega)),⟨(Own.sep ho3 ho7 (by omega)),⟨(Own.sep ho3 ho8 (by omega)),trivial⟩⟩⟩⟩⟩,⟨⟨(Own.sep ho4 ho5 (by omega)),⟨(Own.sep ho4 ho6 (by omega)),⟨(Own.sep ho4 ho7 (by omega)),⟨(Own.sep ho4 ho8 (by omega)),trivial⟩⟩⟩⟩,⟨⟨(Own.sep ho5 ho6 (by omega)),⟨(Own.sep ho5 ho7 (by omega)),⟨(Own.sep ho5 ho8 (by omega)),trivial⟩⟩⟩,⟨⟨(Own.sep ho6 ho7 (by omega)),⟨(Own.sep ho6 ho8 (by omega)),trivial⟩⟩,⟨⟨(Own.sep ho7 ho8 (by omega)),trivial⟩,⟨trivial,trivial⟩⟩⟩⟩⟩⟩⟩⟩ (Own.widen ho1 (by omega) (by omega)) (Own.widen ho2 (by omega) (by omega)) (Own.widen ho3 (by omega) (by omega)) (Own.widen ho4 (by omega) (by omega)) (Own.widen ho5 (by omega) (by omega)) (Own.widen ho6 (by omega) (by omega)) (Own.widen ho7 (by omega) (by omega)) (Own.widen ho8 (by omega) (by omega))⟩

set_option maxHeartbeats 4000000 in
set_option maxRecDepth 20000 in
theorem c_eqWorker (cx : List Value) (x : Worker) (cy : List Value) (y : Worker) (w : World) (hx : Dat.R w 0 w.heap.size cx x) (hy : Dat.R w 0 w.heap.size cy y) : Ct Tryz.prog 64 [.agg cx.toArray,.agg cy.toArray] w (fun v _=>v = .bool (decide (x = y))):=by
 refine Yh Tryz.func64 Z Tryz.ntmps64 Z ?_
 obtain ⟨o1,o2,o3,o4,o5,o6,o7,o8,rfl,hd1,hd2,hd3,hd4,hd5,hd6,hd7,hd8⟩:=Worker.op hx
 obtain ⟨o9,o10,o11,o12,o13,o14,o15,o16,rfl,hd9,hd10,hd11,hd12,hd13,hd14,hd15,hd16⟩:=Worker.op hy
 refine Q7 [(0,.agg [o1,o2,o3,o4,o5,o6,o7,o8].toArray),(1,.agg [o9,o10,o11,o12,o13,o14,o15,o16].toArray)] ⟨Z,Z,trivial⟩ ?_
 have E : Ext w w:=Ext.refl w
 refine Qf (Qh [false,false,true] Z Z (Y1 Z Z (fun b1 w1 e1 s1 h1=>?_)))
 have g_b1 : w.heap.size ≤ b1:=by have:=E.size;omega
 have y_b1:=h1.lt
 replace E:=E.trans e1
 have z1:=e1.size
 refine Y1 Z Z (fun b2 w2 e2 s2 h2=>?_)
 have g_b2 : w.heap.size ≤ b2:=by have:=E.size;omega
 have y_b2:=h2.lt
 replace E:=E.trans e2;replace h1:=h1.ext e2
 have z2:=e2.size
 refine Qa (Qe Z) Z (Qd (Qf (Qf (Qh [true,true,true,true,false,true] Z Z (Qa (Qb Vd Z) Z (Qa (Qj Xy Z (h1.one 0 Z)) Z (Qa (Qb Vd Z) Z (Qa (Qj Xy Z (h2.one 0 Z)) Z (Qv Tryz.call120 Z (c_eqRecordS o1 x.queue o9 y.queue _ (hd1.rd.ext E) (hd9.rd.ext E)) Z (fun _ w3 e3 hv=>?_))))))))))
 subst hv
 replace E:=E.trans e3;replace h1:=h1.ext e3;replace h2:=h2.ext e3
 have z3:=e3.size
 refine Qa (Yq Z) Z (Qd (Qs Z (fun hc1=>?_) (fun hc1=>?_)))
 ·refine Qf (Qh [true] Z Z (Qa (Qe Z) Z (Qd (Qw (Ql Z Z E ?_)))))
  cases x;cases y;simp_all
 ·refine Qn (Qf (Qf (Qh [true,true,true,true,false,true] Z Z (Qa (Qb Gm Z) Z (Qa (Qj Xy Z (h1.one 1 Z)) Z (Qa (Qb Gm Z) Z (Qa (Qj Xy Z (h2.one 1 Z)) Z (Qv Tryz.call120 Z (c_eqRecordS o2 x.staged o10 y.staged _ (hd2.rd.ext E) (hd10.rd.ext E)) Z (fun _ w4 e4 hv=>?_)))))))))
  subst hv
  replace E:=E.trans e4;replace h1:=h1.ext e4;replace h2:=h2.ext e4
  have z4:=e4.size
  refine Qa (Yq Z) Z (Qd (Qs Z (fun hc2=>?_) (fun hc2=>?_)))
  ·refine Qf (Qh [true] Z Z (Qa (Qe Z) Z (Qd (Qw (Ql Z Z E ?_)))))
   cases x;cases y;simp_all
  ·refine Qn (Qf (Qf (Qh [true,true,true,true,false,true] Z Z (Qa (Qb Vj Z) Z (Qa (Qj Xy Z (h1.one 2 Z)) Z (Qa (Qb Vj Z) Z (Qa (Qj Xy Z (h2.one 2 Z)) Z (Qv Tryz.call120 Z (c_eqRecordS o3 x.inputs o11 y.inputs _ (hd3.rd.ext E) (hd11.rd.ext E)) Z (fun _ w5 e5 hv=>?_)))))))))
   subst hv
   replace E:=E.trans e5;replace h1:=h1.ext e5;replace h2:=h2.ext e5
   have z5:=e5.size
   refine Qa (Yq Z) Z (Qd (Qs Z (fun hc3=>?_) (fun hc3=>?_)))
   ·refine Qf (Qh [true] Z Z (Qa (Qe Z) Z (Qd (Qw (Ql Z Z E ?_)))))
    cases x;cases y;simp_all
   ·refine Qn (Qf (Qf (Qh [true,true,true,true,false,true] Z Z (Qa (Qb Gl Z) Z (Qa (Qj A1 Z (h1.one 3 Z)) Z (Qa (Qb Gl Z) Z (Qa (Qj A1 Z (h2.one 3 Z)) Z (Qv Tryz.call121 Z (c_eqCellS o4 x.cells o12 y.cells _ (hd4.rd.ext E) (hd12.rd.ext E)) Z (fun _ w6 e6 hv=>?_)))))))))
    subst hv
    replace E:=E.trans e6;replace h1:=h1.ext e6;replace h2:=h2.ext e6
    have z6:=e6.size
    refine Qa (Yq Z) Z (Qd (Qs Z (fun hc4=>?_) (fun hc4=>?_)))
    ·refine Qf (Qh [true] Z Z (Qa (Qe Z) Z (Qd (Qw (Ql Z Z E ?_)))))
     cases x;cases y;simp_all
    ·refine Qn (Qf (Qf (Qh [true,true,true,true,false,true] Z Z (Qa (Qb Hm Z) Z (Qa (Qj Ke Z (h1.one 4 Z)) Z (Qa (Qb Hm Z) Z (Qa (Qj Ke Z (h2.one 4 Z)) Z (Qv Tryz.call122 Z (c_eqIntS o5 x.sums o13 y.sums _ (hd5.rd.ext E) (hd13.rd.ext E)) Z (fun _ w7 e7 hv=>?_)))))))))
     subst hv
     replace E:=E.trans e7;replace h1:=h1.ext e7;replace h2:=h2.ext e7
     have z7:=e7.size
     refine Qa (Yq Z) Z (Qd (Qs Z (fun hc5=>?_) (fun hc5=>?_)))
     ·refine Qf (Qh [true] Z Z (Qa (Qe Z) Z (Qd (Qw (Ql Z Z E ?_)))))
      cases x;cases y;simp_all
     ·refine Qn (Qf (Qf (Qh [true,true,true,true,false,true] Z Z (Qa (Qb Ts Z) Z (Qa (Qj G5 Z (h1.one 5 Z)) Z (Qa (Qb Ts Z) Z (Qa (Qj G5 Z (h2.one 5 Z)) Z (Qv Tryz.call123 Z (c_eqBoolS o6 x.black o14 y.black _ (hd6.rd.ext E) (hd14.rd.ext E)) Z (fun _ w8 e8 hv=>?_)))))))))
      subst hv
      replace E:=E.trans e8;replace h1:=h1.ext e8;replace h2:=h2.ext e8
      have z8:=e8.size
      refine Qa (Yq Z) Z (Qd (Qs Z (fun hc6=>?_) (fun hc6=>?_)))
      ·refine Qf (Qh [true] Z Z (Qa (Qe Z) Z (Qd (Qw (Ql Z Z E ?_)))))
       cases x;cases y;simp_all
      ·refine Qn (Qf (Qf (Qh [true,true,true,true,false,true] Z Z (Qa (Qb Hl Z) Z (Qa (Qj G5 Z (h1.one 6 Z)) Z (Qa (Qb Hl Z) Z (Qa (Qj G5 Z (h2.one 6 Z)) Z (Qv Tryz.call123 Z (c_eqBoolS o7 x.caps o15 y.caps _ (hd7.rd.ext E) (hd15.rd.ext E)) Z (fun _ w9 e9 hv=>?_)))))))))
       subst hv
       replace E:=E.trans e9;replace h1:=h1.ext e9;replace h2:=h2.ext e9
       have z9:=e9.size
       refine Qa (Yq Z) Z (Qd (Qs Z (fun hc7=>?_) (fun hc7=>?_)))
       ·refine Qf (Qh [true] Z Z (Qa (Qe Z) Z (Qd (Qw (Ql Z Z E ?_)))))
        cases x;cases y;simp_all
       ·refine Qn (Qf (Qf (Qh [true,true,true,true,false,true] Z Z (Qa (Qb Gk Z) Z (Qa (Qj A0 Z (h1.one 7 Z)) Z (Qa (Qb Gk Z) Z (Qa (Qj A0 Z (h2.one 7 Z)) Z (Qv Tryz.call124 Z (c_eqDoneS o8 x.dones o16 y.dones _ (hd8.rd.ext E) (hd16.rd.ext E)) Z (fun _ w10 e10 hv=>?_)))))))))
        subst hv
        replace E:=E.trans e10;replace h1:=h1.ext e10;replace h2:=h2.ext e10
        have z10:=e10.size
        refine Qa (Yq Z) Z (Qd (Qs Z (fun hc8=>?_) (fun hc8=>?_)))
        ·refine Qf (Qh [true] Z Z (Qa (Qe Z) Z (Qd (Qw (Ql Z Z E ?_)))))
         cases x;cases y;simp_all
        ·refine Qn (Qf (Qh [true] Z Z (Qa (Qe Z) Z (Qd (Qw (Ql Z Z E ?_))))))
         cases x;cases y;simp_all

set_option maxRecDepth 20000 in
theorem c_IndexFuncDone (vxs : Value) (xs : List Done) (fp : Value) (p : Done → Bool) (w : World) (hxs : RdS w vxs xs) (hp : PredF Tryz.prog w fp p) : Ct Tryz.prog 150 [vxs,fp] w (fun v _=>v = .int .i64 (H0 xs p)):=by
 refine Yh Tryz.func150 Z Tryz.ntmps150 Z ?_
 obtain ⟨fid,fs,fc,rfl,hcf,hpf⟩:=hp
 refine Q7 [(0,vxs),(1,.func (.func fid) fs.toArray fc.toArray)] ⟨Z,Z,trivial⟩ ?_
 have E : Ext w w:=Ext.refl w
 refine Qf (Qh [true] Z Z (Qa (Qe Z) Z (Qd (Qf (Qf (Qh [true,true,true] Z Z (Qa (Qc Z) Z (Qa (Ya Tryz.underlying68 Z (hxs.ext E).len) Z (Qa (Qc Z) Z (Qd (Q0 (Ym (fun (k : Nat)=>[(0,vxs),(1,.func (.func fid) fs.toArray fc.toArray),(4,.int .i64 0),(7,.int .i64 ((xs.length : Nat) : Int)),(8,.int .i64 ((k : Nat) : Int))]) (fun (k : Nat) w'=>Ext w w' ∧ w.heap.size ≤ w'.heap.size ∧ k ≤ xs.length ∧ (xs.take k).any p = false) (fun (k : Nat)=>xs.length - k) 0 ⟨Z,Z,Z,Z,Z,trivial⟩ ⟨E,Nat.le_refl _,Nat.zero_le _,Z⟩ ?_))))))))))))
 clear E
 rintro k w1 ⟨E,z1,hk,hI⟩
 refine Qf (Qh [true] Z Z (Qa (Yf Z Z) Z (Qd (Qf (Qs Z (fun hc1=>?_) (fun hc1=>?_))))))
 ·have hc1n : k < xs.length:=by first | (have h:=of_decide_eq_true hc1;omega) | (have h:=hc1;simp at h;omega)
  refine Qn (Qf (Q0 (Qf (Qh [true,true] Z Z (Qa (Qc Z) Z (Qa (Qe Z) Z (Qd (Qf (Qh [true,true,true,true,true,false] Z Z (Qa (Qc Z) Z (Qa (Qc Z) Z (Qa (Qc Z) Z ?_))))))))))))
  have hi1 : k < xs.length:=(by first | assumption | omega | (simp only [List.length_set];first | assumption | omega))
  refine Qa (Q1 (i:=k) Cc Z Z (hxs.ext E) hi1) Z (Qa (Qt Ty Z ((hxs.ext E).get hi1) Z) Z (J_callV (fs:=fs) (cs:=fc) hcf Z Z (hpf (xs[k]'hi1) _ E) Z (fun _ w2 e1 hv=>?_)))
  subst hv
  replace E:=E.trans e1
  have z2:=e1.size
  refine Qd (Qs Z (fun hc2=>?_) (fun hc2=>?_))
  ·refine Qf (Qh [true,true] Z Z (Qa (Qc Z) Z (Qa (Qe Z) Z (Qd (Qw (Q2 (Y0 (Q2 (Ql Z Z E ?_)))))))))
   exact find_yes hI (by assumption) hc2
  ·refine Qn (Q4 (Yr (Qh [true,true] Z Z (Qa (Q8 Z Z (Yt hc1n hxs.1)) Z (Qa (Qc Z) Z (Qd (Q4 (Yc (k + 1) (by omega) ⟨Z,Z,Z,Z,Z,trivial⟩ ⟨E,(by omega),(by omega),Du hI (by assumption) hc2⟩))))))))
 ·have hc1n : ¬ k < xs.length:=by first | (have h:=of_decide_eq_false hc1;omega) | (have h:=hc1;simp at h;omega)
  refine Yn (Q5 (Q3 ?_))
  refine Qf (Qh [true] Z Z (Qa (Qe Z) Z (Qd (Qw (Ql Z Z E ?_)))))
  exact find_no hI (by omega)

set_option maxRecDepth 20000 in
theorem c_ContainsFuncDone (vxs : Value) (xs : List Done) (fp : Value) (p : Done → Bool) (w : World) (hxs : RdS w vxs xs) (hp : PredF Tryz.prog w fp p) : Ct Tryz.prog 137 [vxs,fp] w (fun v _=>v = .bool (xs.any p)):=by
 refine Yh Tryz.func137 Z Tryz.ntmps137 Z ?_
 obtain ⟨fid,fs,fc,rfl,hcf,hpf⟩:=hp
 refine Q7 [(0,vxs),(1,.func (.func fid) fs.toArray fc.toArray)] ⟨Z,Z,trivial⟩ ?_
 have E : Ext w w:=Ext.refl w
 refine Qf (Qh [true] Z Z (Qa (Qe Z) Z (Qd (Qf (Qh [true,true,false,true,true] Z Z (Qa (Qc Z) Z (Qa (Qc Z) Z (Qv Tryz.call150 (by rfl) (c_IndexFuncDone vxs xs (.func (.func fid) fs.toArray fc.toArray) (p) _ (hxs.ext E) ⟨fid,fs,fc,Z,hcf,fun y w' e=>hpf y w' (E.trans e)⟩) Z (fun _ w1 e1 hv=>?_)))))))))
 subst hv
 replace E:=E.trans e1
 have z1:=e1.size
 refine Qa (T0 Z Z) Z (Qa (Qe Z) Z (Qd (Qw (Ql Z Z E ?_))))
 exact any_find

set_option maxRecDepth 20000 in
theorem c_doneAt1 (r : Done) (be : Nat) (e : Int) (w : World) (he : At w be 0 [.int .i64 e]) : Ct Tryz.prog 138 [.agg (Enc.enc r).toArray,.pointer (some ⟨be,0,none⟩)] w (fun v _=>v = .bool (r.epoch == e)):=by
 refine Yh Tryz.func138 Z Tryz.ntmps138 Z ?_
 refine Q7 [(0,.agg (Enc.enc r).toArray),(1,.pointer (some ⟨be,0,none⟩))] ⟨Z,Z,trivial⟩ ?_
 have E : Ext w w:=Ext.refl w
 refine Qf (Qh [false,true] Z Z (Y1 Z Z (fun b1 w1 e1 s1 h1=>?_)))
 have g_b1 : w.heap.size ≤ b1:=by have:=E.size;omega
 have y_b1:=h1.lt
 replace E:=E.trans e1
 have z1:=e1.size
 refine Qa (Qe Z) Z (Qd (Qf (Qh [true,true,true,true,true] Z Z (Qa (Qb V9 Z) Z (Qa (Qj Yo Z (h1.one 0 Z)) Z (Qa (Qj Yo Z ((he.ext E).one 0 Z)) Z (Qa (Y6 Z Z) Z (Qa (Qe Z) Z (Qd (Qw (Ql Z Z E ?_)))))))))))
 rfl

set_option maxRecDepth 20000 in
theorem c_doneAt (vxs : Value) (xs : List Done) (e : Int) (w : World) (hxs : RdS w vxs xs) : Ct Tryz.prog 113 [vxs,.int .i64 e] w (fun v _=>v = .bool (xs.any (fun d=>d.epoch == e))):=by
 refine Yh Tryz.func113 Z Tryz.ntmps113 Z ?_
 refine Q7 [(0,vxs),(1,.int .i64 e)] ⟨Z,Z,trivial⟩ ?_
 have E : Ext w w:=Ext.refl w
 refine Qf (Qh [false,true] Z Z (J_box1 Z Z Z (fun b1 w1 e1 s1 h1=>?_)))
 have g_b1 : w.heap.size ≤ b1:=by have:=E.size;omega
 have y_b1:=h1.lt
 replace E:=E.trans e1
 have z1:=e1.size
 refine Qa (Qe Z) Z (Qd (Qf (Qh [true,true,false,true] Z Z (Qa (Qc Z) Z (Qa (Dw Z Z) Z (Qv Tryz.call137 (by rfl) (c_ContainsFuncDone vxs xs (.func (.func 138) [].toArray [.pointer (some ⟨b1,0,none⟩)].toArray) ((fun (y : Done)=>y.epoch == e)) _ (hxs.ext E) ⟨138,[],[.pointer (some ⟨b1,0,none⟩)],Z,Tryz.call138,fun y wX eX=>c_doneAt1 y b1 e wX (At.ext (Blk.at h1) eX)⟩) Z (fun _ w2 e2 hv=>?_)))))))
 subst hv
 replace E:=E.trans e2;replace h1:=h1.ext e2
 have z2:=e2.size
 refine Qa (Qe Z) Z (Qd (Qw (Ql Z Z E ?_)))
 rfl

set_option maxRecDepth 20000 in
theorem c_StampOk (s : Stamp) (w : World)  : Ct Tryz.prog 139 [.agg (Enc.enc s).toArray] w (fun v _=>v = .bool (Xs s)):=by
 refine Yh Tryz.func139 Z Tryz.ntmps139 Z ?_
 refine Q7 [(0,.agg (Enc.enc s).toArray)] ⟨Z,trivial⟩ ?_
 have E : Ext w w:=Ext.refl w
 refine Qf (Qh [false,true] Z Z (Y1 Z Z (fun b1 w1 e1 s1 h1=>?_)))
 have g_b1 : w.heap.size ≤ b1:=by have:=E.size;omega
 have y_b1:=h1.lt
 replace E:=E.trans e1
 have z1:=e1.size
 refine Qa (Qe Z) Z (Qd (Qf (Qh [true,true,false,true,true,true,false,true,true] Z Z (Qa (Qb Vi Z) Z (Qa (Qj Yo Z (h1.one 0 Z)) Z (Qv Tryz.call58 Z (c_within s.epoch 0 3 _ ) Z (fun _ w2 e2 hv=>?_)))))))
 subst hv
 replace E:=E.trans e2;replace h1:=h1.ext e2
 have z2:=e2.size
 refine Qa (Qc Z) Z (Y7 4 [(0,.agg (Enc.enc s).toArray),(1,.pointer (some ⟨b1,0,none⟩)),(2,.bool false),(10,.bool ((Yw s.epoch 0 3) && (Yw s.turn 0 6)))] (fun w'=>Ext w w' ∧ w2.heap.size ≤ w'.heap.size ∧ Blk w' b1 (Enc.enc s)) ?_ ?_)
 ·refine Y3 (gd:=6) Z Z (fun hg1=>?_) (fun hg1=>?_)
  ·refine Qm Z Z (Qb V8 Z) Z (Qm Z Z (Qj Yo Z (h1.one 1 Z)) Z ?_)
   refine Xp Z Z ?_
   refine Qv Tryz.call58 Z (c_within s.turn 0 6 _ ) Z (fun _ w4 e3 hv=>?_)
   subst hv
   replace E:=E.trans e3;replace h1:=h1.ext e3
   have z3:=e3.size
   refine Qa (Qx Z Z) Z (Qp ⟨Z,Z,Z,congrArg (fun b=>some (Value.bool b)) (show (Yw s.turn 0 6) = ((Yw s.epoch 0 3) && (Yw s.turn 0 6)) by first | (rw [hg1] <;> rfl) | (simp [hg1];done) | (simp only [Qo] <;> simp)),trivial⟩ ⟨E,(by omega),h1⟩)
  ·refine Qg Z Z Z Z (Qg Z Z Z Z ?_)
   refine Yp Z Z Z Z ?_
   refine Qa (Qy Z Z) Z (Qp ⟨Z,Z,Z,congrArg (fun b=>some (Value.bool b)) (show false = ((Yw s.epoch 0 3) && (Yw s.turn 0 6)) by first | (rw [hg1] <;> rfl) | (simp [hg1];done) | (simp only [Qo] <;> simp)),trivial⟩ ⟨E,(by omega),h1⟩)
 clear E h1
 rintro w3 ⟨E,z4,h1⟩
 refine Qa (Qe Z) Z (Qd (Qw (Ql Z Z E ?_)))
 rfl

set_option maxRecDepth 20000 in
theorem s_StampOk (s : Stamp) (w : World)  : Ct Tryz.prog 127 [.agg (Enc.enc s).toArray] w (fun v _=>v = .bool (Xs s)):=by
 refine Yh Tryz.func127 Z Tryz.ntmps127 Z ?_
 refine Q7 [(0,.agg (Enc.enc s).toArray)] ⟨Z,trivial⟩ ?_
 have E : Ext w w:=Ext.refl w
 refine Qf (Qh [false,true] Z Z (Y1 Z Z (fun b1 w1 e1 s1 h1=>?_)))
 have g_b1 : w.heap.size ≤ b1:=by have:=E.size;omega
 have y_b1:=h1.lt
 replace E:=E.trans e1
 have z1:=e1.size
 refine Qa (Qe Z) Z (Qd (Qf (Qh [true,true,false,true,true,true,false,true,true] Z Z (Qa (Qb Vi Z) Z (Qa (Qj Yo Z (h1.one 0 Z)) Z (Qv Tryz.call93 Z (s_l01In s.epoch 0 3 _ ) Z (fun _ w2 e2 hv=>?_)))))))
 subst hv
 replace E:=E.trans e2;replace h1:=h1.ext e2
 have z2:=e2.size
 refine Qa (Qc Z) Z (Y7 4 [(0,.agg (Enc.enc s).toArray),(1,.pointer (some ⟨b1,0,none⟩)),(2,.bool false),(10,.bool ((Yw s.epoch 0 3) && (Yw s.turn 0 6)))] (fun w'=>Ext w w' ∧ w2.heap.size ≤ w'.heap.size ∧ Blk w' b1 (Enc.enc s)) ?_ ?_)
 ·refine Y3 (gd:=6) Z Z (fun hg1=>?_) (fun hg1=>?_)
  ·refine Qm Z Z (Qb V8 Z) Z (Qm Z Z (Qj Yo Z (h1.one 1 Z)) Z ?_)
   refine Xp Z Z ?_
   refine Qv Tryz.call93 Z (s_l01In s.turn 0 6 _ ) Z (fun _ w4 e3 hv=>?_)
   subst hv
   replace E:=E.trans e3;replace h1:=h1.ext e3
   have z3:=e3.size
   refine Qa (Qx Z Z) Z (Qp ⟨Z,Z,Z,congrArg (fun b=>some (Value.bool b)) (show (Yw s.turn 0 6) = ((Yw s.epoch 0 3) && (Yw s.turn 0 6)) by first | (rw [hg1] <;> rfl) | (simp [hg1];done) | (simp only [Qo] <;> simp)),trivial⟩ ⟨E,(by omega),h1⟩)
  ·refine Qg Z Z Z Z (Qg Z Z Z Z ?_)
   refine Yp Z Z Z Z ?_
   refine Qa (Qy Z Z) Z (Qp ⟨Z,Z,Z,congrArg (fun b=>some (Value.bool b)) (show false = ((Yw s.epoch 0 3) && (Yw s.turn 0 6)) by first | (rw [hg1] <;> rfl) | (simp [hg1];done) | (simp only [Qo] <;> simp)),trivial⟩ ⟨E,(by omega),h1⟩)
 clear E h1
 rintro w3 ⟨E,z4,h1⟩
 refine Qa (Qe Z) Z (Qd (Qw (Ql Z Z E ?_)))
 rfl

set_option maxRecDepth 20000 in
theorem c_itemOk (a : Int) (b : Int) (w : World)  : Ct Tryz.prog 140 [.int .i64 a,.int .i64 b] w (fun v _=>v = .bool (Yw a 0 99 && Yw b 0 999)):=by
 refine Yh Tryz.func140 Z Tryz.ntmps140 Z ?_
 refine Q7 [(0,.int .i64 a),(1,.int .i64 b)] ⟨Z,Z,trivial⟩ ?_
 have E : Ext w w:=Ext.refl w
 refine Qf (Qh [true] Z Z (Qa (Qe Z) Z (Qd (Qf (Qh [true,false,true,true,false,true,true] Z Z (Qa (Qc Z) Z (Qv Tryz.call58 Z (c_within a 0 99 _ ) Z (fun _ w1 e1 hv=>?_))))))))
 subst hv
 replace E:=E.trans e1
 have z1:=e1.size
 refine Qa (Qc Z) Z (Y7 3 [(0,.int .i64 a),(1,.int .i64 b),(4,.bool false),(10,.bool ((Yw a 0 99) && (Yw b 0 999)))] (fun w'=>Ext w w' ∧ w1.heap.size ≤ w'.heap.size) ?_ ?_)
 ·refine Y3 (gd:=7) Z Z (fun hg1=>?_) (fun hg1=>?_)
  ·refine Qm Z Z (Qc Z) Z ?_
   refine Xp Z Z ?_
   refine Qv Tryz.call58 Z (c_within b 0 999 _ ) Z (fun _ w3 e2 hv=>?_)
   subst hv
   replace E:=E.trans e2
   have z2:=e2.size
   refine Qa (Qx Z Z) Z (Qp ⟨Z,Z,Z,congrArg (fun b=>some (Value.bool b)) (show (Yw b 0 999) = ((Yw a 0 99) && (Yw b 0 999)) by first | (rw [hg1] <;> rfl) | (simp [hg1];done) | (simp only [Qo] <;> simp)),trivial⟩ ⟨E,(by omega)⟩)
  ·refine Qg Z Z Z Z ?_
   refine Yp Z Z Z Z ?_
   refine Qa (Qy Z Z) Z (Qp ⟨Z,Z,Z,congrArg (fun b=>some (Value.bool b)) (show false = ((Yw a 0 99) && (Yw b 0 999)) by first | (rw [hg1] <;> rfl) | (simp [hg1];done) | (simp only [Qo] <;> simp)),trivial⟩ ⟨E,(by omega)⟩)
 clear E
 rintro w2 ⟨E,z3⟩
 refine Qa (Qe Z) Z (Qd (Qw (Ql Z Z E ?_)))
 rfl

set_option maxRecDepth 20000 in
theorem c_RecordOk (r : Record) (w : World)  : Ct Tryz.prog 114 [.agg (Enc.enc r).toArray] w (fun v _=>v = .bool (Yx r)):=by
 refine Yh Tryz.func114 Z Tryz.ntmps114 Z ?_
 refine Q7 [(0,.agg (Enc.enc r).toArray)] ⟨Z,trivial⟩ ?_
 have E : Ext w w:=Ext.refl w
 refine Qf (Qh [false,true] Z Z (Y1 Z Z (fun b1 w1 e1 s1 h1=>?_)))
 have g_b1 : w.heap.size ≤ b1:=by have:=E.size;omega
 have y_b1:=h1.lt
 replace E:=E.trans e1
 have z1:=e1.size
 refine Qa (Qe Z) Z (Qd (Qf (Qh [true,true,false,true,true,true,false,true,true,true,true,true,true,false,true,true] Z Z (Qa (Qb Uy Z) Z (Qa (Qj Yo Z (h1.one 0 Z)) Z (Qv Tryz.call58 Z (c_within r.op 0 7 _ ) Z (fun _ w2 e2 hv=>?_)))))))
 subst hv
 replace E:=E.trans e2;replace h1:=h1.ext e2
 have z2:=e2.size
 refine Qa (Qc Z) Z (Y7 11 [(0,.agg (Enc.enc r).toArray),(1,.pointer (some ⟨b1,0,none⟩)),(2,.bool false),(17,.bool (((Yw r.op 0 7) && (Xs r.stamp)) && (Yw r.key 0 99 && Yw r.val 0 999)))] (fun w'=>Ext w w' ∧ w2.heap.size ≤ w'.heap.size ∧ Blk w' b1 (Enc.enc r)) ?_ ?_)
 ·refine Y3 (gd:=6) Z Z (fun hg1=>?_) (fun hg1=>?_)
  ·refine Qm Z Z (Qb Kx Z) Z (Qm Z Z (Qt Kb Z (h1.part 1 [.int .i64 r.stamp.epoch,.int .i64 r.stamp.turn] Z) Z) Z ?_)
   refine Xp Z Z ?_
   refine Qv Tryz.call139 Z (c_StampOk r.stamp _ ) Z (fun _ w4 e3 hv=>?_)
   subst hv
   replace E:=E.trans e3;replace h1:=h1.ext e3
   have z3:=e3.size
   refine Qa (Qx Z Z) Z (Qa (Qc Z) Z (Y3 (gd:=11) Z Z (fun hg2=>?_) (fun hg2=>?_)))
   ·refine Qm Z Z (Qb Hk Z) Z (Qm Z Z (Qj Yo Z (h1.one 3 Z)) Z (Qm Z Z (Qb Hj Z) Z (Qm Z Z (Qj Yo Z (h1.one 4 Z)) Z ?_)))
    refine Xp Z Z ?_
    refine Qv Tryz.call140 Z (c_itemOk r.key r.val _ ) Z (fun _ w5 e4 hv=>?_)
    subst hv
    replace E:=E.trans e4;replace h1:=h1.ext e4
    have z4:=e4.size
    refine Qa (Qx Z Z) Z (Qp ⟨Z,Z,Z,congrArg (fun b=>some (Value.bool b)) (show (Yw r.key 0 99 && Yw r.val 0 999) = (((Yw r.op 0 7) && (Xs r.stamp)) && (Yw r.key 0 99 && Yw r.val 0 999)) by first | (rw [hg1,hg2] <;> rfl) | (simp [hg1,hg2];done) | (simp only [Qo] <;> simp)),trivial⟩ ⟨E,(by omega),h1⟩)
   ·refine Qg Z Z Z Z (Qg Z Z Z Z (Qg Z Z Z Z (Qg Z Z Z Z ?_)))
    refine Yp Z Z Z Z ?_
    refine Qa (Qy Z Z) Z (Qp ⟨Z,Z,Z,congrArg (fun b=>some (Value.bool b)) (show false = (((Yw r.op 0 7) && (Xs r.stamp)) && (Yw r.key 0 99 && Yw r.val 0 999)) by first | (rw [hg1,hg2] <;> rfl) | (simp [hg1,hg2];done) | (simp only [Qo] <;> simp)),trivial⟩ ⟨E,(by omega),h1⟩)
  ·refine Qg Z Z Z Z (Qg Z Z Z Z ?_)
   refine Yp Z Z Z Z ?_
   refine Qa (Qy Z Z) Z (Qa (Qc Z) Z (Qg Z Z Z Z (Qg Z Z Z Z (Qg Z Z Z Z (Qg Z Z Z Z (Yp Z Z Z Z (Qa (Qy Z Z) Z (Qp ⟨Z,Z,Z,congrArg (fun b=>some (Value.bool b)) (show false = (((Yw r.op 0 7) && (Xs r.stamp)) && (Yw r.key 0 99 && Yw r.val 0 999)) by first | (rw [hg1] <;> rfl) | (simp [hg1];done) | (simp only [Qo] <;> simp)),trivial⟩ ⟨E,(by omega),h1⟩))))))))
 clear E h1
 rintro w3 ⟨E,z5,h1⟩
 refine Qa (Qe Z) Z (Qd (Qw (Ql Z Z E ?_)))
 rfl

set_option maxRecDepth 20000 in
theorem s_RecordOk (r : Record) (w : World)  : Ct Tryz.prog 95 [.agg (Enc.enc r).toArray] w (fun v _=>v = .bool (Yx r)):=by
 refine Yh Tryz.func95 Z Tryz.ntmps95 Z ?_
 refine Q7 [(0,.agg (Enc.enc r).toArray)] ⟨Z,trivial⟩ ?_
 have E : Ext w w:=Ext.refl w
 refine Qf (Qh [false,true] Z Z (Y1 Z Z (fun b1 w1 e1 s1 h1=>?_)))
 have g_b1 : w.heap.size ≤ b1:=by have:=E.size;omega
 have y_b1:=h1.lt
 replace E:=E.trans e1
 have z1:=e1.size
 refine Qa (Qe Z) Z (Qd (Qf (Qh [true,true,false,true,true,true,false,true,true,true,true,false,true,true,true,true,false,true,true] Z Z (Qa (Qb Uy Z) Z (Qa (Qj Yo Z (h1.one 0 Z)) Z (Qv Tryz.call93 Z (s_l01In r.op 0 7 _ ) Z (fun _ w2 e2 hv=>?_)))))))
 subst hv
 replace E:=E.trans e2;replace h1:=h1.ext e2
 have z2:=e2.size
 refine Qa (Qc Z) Z (Y7 14 [(0,.agg (Enc.enc r).toArray),(1,.pointer (some ⟨b1,0,none⟩)),(2,.bool false),(20,.bool ((((Yw r.op 0 7) && (Xs r.stamp)) && (Yw r.key 0 99)) && (Yw r.val 0 999)))] (fun w'=>Ext w w' ∧ w2.heap.size ≤ w'.heap.size ∧ Blk w' b1 (Enc.enc r)) ?_ ?_)
 ·refine Y3 (gd:=6) Z Z (fun hg1=>?_) (fun hg1=>?_)
  ·refine Qm Z Z (Qb Kx Z) Z (Qm Z Z (Qt Kb Z (h1.part 1 [.int .i64 r.stamp.epoch,.int .i64 r.stamp.turn] Z) Z) Z ?_)
   refine Xp Z Z ?_
   refine Qv Tryz.call127 Z (s_StampOk r.stamp _ ) Z (fun _ w4 e3 hv=>?_)
   subst hv
   replace E:=E.trans e3;replace h1:=h1.ext e3
   have z3:=e3.size
   refine Qa (Qx Z Z) Z (Qa (Qc Z) Z (Y3 (gd:=11) Z Z (fun hg2=>?_) (fun hg2=>?_)))
   ·refine Qm Z Z (Qb Hk Z) Z (Qm Z Z (Qj Yo Z (h1.one 3 Z)) Z ?_)
    refine Xp Z Z ?_
    refine Qv Tryz.call93 Z (s_l01In r.key 0 99 _ ) Z (fun _ w5 e4 hv=>?_)
    subst hv
    replace E:=E.trans e4;replace h1:=h1.ext e4
    have z4:=e4.size
    refine Qa (Qx Z Z) Z (Qa (Qc Z) Z (Y3 (gd:=16) Z Z (fun hg3=>?_) (fun hg3=>?_)))
    ·refine Qm Z Z (Qb Hj Z) Z (Qm Z Z (Qj Yo Z (h1.one 4 Z)) Z ?_)
     refine Xp Z Z ?_
     refine Qv Tryz.call93 Z (s_l01In r.val 0 999 _ ) Z (fun _ w6 e5 hv=>?_)
     subst hv
     replace E:=E.trans e5;replace h1:=h1.ext e5
     have z5:=e5.size
     refine Qa (Qx Z Z) Z (Qp ⟨Z,Z,Z,congrArg (fun b=>some (Value.bool b)) (show (Yw r.val 0 999) = ((((Yw r.op 0 7) && (Xs r.stamp)) && (Yw r.key 0 99)) && (Yw r.val 0 999)) by first | (rw [hg1,hg2,hg3] <;> rfl) | (simp [hg1,hg2,hg3];done) | (simp only [Qo] <;> simp)),trivial⟩ ⟨E,(by omega),h1⟩)
    ·refine Qg Z Z Z Z (Qg Z Z Z Z ?_)
     refine Yp Z Z Z Z ?_
     refine Qa (Qy Z Z) Z (Qp ⟨Z,Z,Z,congrArg (fun b=>some (Value.bool b)) (show false = ((((Yw r.op 0 7) && (Xs r.stamp)) && (Yw r.key 0 99)) && (Yw r.val 0 999)) by first | (rw [hg1,hg2,hg3] <;> rfl) | (simp [hg1,hg2,hg3];done) | (simp only [Qo] <;> simp)),trivial⟩ ⟨E,(by omega),h1⟩)
   ·refine Qg Z Z Z Z (Qg Z Z Z Z ?_)
    refine Yp Z Z Z Z ?_
    refine Qa (Qy Z Z) Z (Qa (Qc Z) Z (Qg Z Z Z Z (Qg Z Z Z Z (Yp Z Z Z Z (Qa (Qy Z Z) Z (Qp ⟨Z,Z,Z,congrArg (fun b=>some (Value.bool b)) (show false = ((((Yw r.op 0 7) && (Xs r.stamp)) && (Yw r.key 0 99)) && (Yw r.val 0 999)) by first | (rw [hg1,hg2] <;> rfl) | (simp [hg1,hg2];done) | (simp only [Qo] <;> simp)),trivial⟩ ⟨E,(by omega),h1⟩))))))
  ·refine Qg Z Z Z Z (Qg Z Z Z Z ?_)
   refine Yp Z Z Z Z ?_
   refine Qa (Qy Z Z) Z (Qa (Qc Z) Z (Qg Z Z Z Z (Qg Z Z Z Z (Yp Z Z Z Z (Qa (Qy Z Z) Z (Qa (Qc Z) Z (Qg Z Z Z Z (Qg Z Z Z Z (Yp Z Z Z Z (Qa (Qy Z Z) Z (Qp ⟨Z,Z,Z,congrArg (fun b=>some (Value.bool b)) (show false = ((((Yw r.op 0 7) && (Xs r.stamp)) && (Yw r.key 0 99)) && (Yw r.val 0 999)) by first | (rw [hg1] <;> rfl) | (simp [hg1];done) | (simp only [Qo] <;> simp)),trivial⟩ ⟨E,(by omega),h1⟩)))))))))))
 clear E h1
 rintro w3 ⟨E,z6,h1⟩
 refine Qa (Qe Z) Z (Qd (Qw (Ql Z Z E ?_)))
 simp [Yx,Bool.and_assoc]

set_option maxRecDepth 20000 in
theorem c_isNode (cg : List Value) (g : Graph) (op : Int) (w : World) (hg : Dat.R w 0 w.heap.size cg g) : Ct Tryz.prog 115 [.agg cg.toArray,.int .i64 op] w (fun v _=>v = .bool (Y9 g op)):=by
 refine Yh Tryz.func115 Z Tryz.ntmps115 Z ?_
 obtain ⟨o1,rfl,hd1⟩:=Graph.op hg
 refine Q7 [(0,.agg [o1,.int .i64 g.workers,.int .i64 g.cap].toArray),(1,.int .i64 op)] ⟨Z,Z,trivial⟩ ?_
 have E : Ext w w:=Ext.refl w
 refine Qf (Qh [false,true] Z Z (Y1 Z Z (fun b1 w1 e1 s1 h1=>?_)))
 have g_b1 : w.heap.size ≤ b1:=by have:=E.size;omega
 have y_b1:=h1.lt
 replace E:=E.trans e1
 have z1:=e1.size
 refine Qa (Qe Z) Z (Qd (Qf (Qh [true,true,true,true,true,false,true] Z Z (Qa (Qc Z) Z (Qa (Qb Kd Z) Z (Qa (Qj Gc Z (h1.one 0 Z)) Z (Qa (Ya Tryz.underlying32 Z (hd1.ext E).len) Z (Qa (Uu Z Z Z) Z (Qv Tryz.call58 Z (c_within op 0 (IntKind.i64.wrap (((g.nodes.length : Nat) : Int) - 1)) _ ) Z (fun _ w2 e2 hv=>?_))))))))))
 subst hv
 replace E:=E.trans e2;replace h1:=h1.ext e2
 have z2:=e2.size
 refine Qa (Qe Z) Z (Qd (Qw (Ql Z Z E ?_)))
 have a1:=hd1.1.1
 unfold maxLen at a1
 rw [Ub (by omega) (by omega)];rfl

set_option maxRecDepth 20000 in
theorem c_NextTurn (s : Stamp) (w : World)  : Ct Tryz.prog 118 [.agg (Enc.enc s).toArray] w (fun v _=>v = .tuple [.agg (Enc.enc ((Y2 s).1)).toArray,.bool ((Y2 s).2)].toArray):=by
 refine Yh Tryz.func118 Z Tryz.ntmps118 Z ?_
 refine Q7 [(0,.agg (Enc.enc s).toArray)] ⟨Z,trivial⟩ ?_
 have E : Ext w w:=Ext.refl w
 refine Qf (Qh [false,false,true] Z Z (Y1 Z Z (fun b1 w1 e1 s1 h1=>?_)))
 have g_b1 : w.heap.size ≤ b1:=by have:=E.size;omega
 have y_b1:=h1.lt
 replace E:=E.trans e1
 have z1:=e1.size
 refine Yk Kb Z (fun b2 w2 e2 s2 h2=>?_)
 have g_b2 : w.heap.size ≤ b2:=by have:=E.size;omega
 have y_b2:=h2.lt
 replace E:=E.trans e2;replace h1:=h1.ext e2
 have z2:=e2.size
 refine Qa (Qe Z) Z (Qd (Qf (Qf (Qh [true,false,true,true,true,true,true,true] Z Z (Qa (Qt Kb Z h1.at Z) Z (Qv Tryz.call139 Z (c_StampOk s _ ) Z (fun _ w3 e3 hv=>?_)))))))
 subst hv
 replace E:=E.trans e3;replace h1:=h1.ext e3;replace h2:=h2.ext e3
 have z3:=e3.size
 refine Qa (Yq Z) Z (Qa (Qc Z) Z (Y7 4 [(0,.agg (Enc.enc s).toArray),(1,.pointer (some ⟨b1,0,none⟩)),(2,.pointer (some ⟨b2,0,none⟩)),(3,.bool false),(11,.bool ((!(Xs s)) || (s.turn == 6)))] (fun w'=>w3 = w') ?_ ?_))
 ·refine Y3 (gd:=7) Z Z (fun hg1=>?_) (fun hg1=>?_)
  ·refine Qg Z Z Z Z (Qg Z Z Z Z (Qg Z Z Z Z (Qa (Qx Z Z) Z (Qp ⟨Z,Z,Z,Z,congrArg (fun b=>some (Value.bool b)) (show true = ((!(Xs s)) || (s.turn == 6)) by first | (rw [hg1] <;> rfl) | (simp [hg1];done) | (simp only [Qo] <;> simp)),trivial⟩ Z))))
  ·refine Qm Z Z (Qb V8 Z) Z (Qm Z Z (Qj Yo Z (h1.one 1 Z)) Z (Qm Z Z (Y6 Z Z) Z (Qa (Qy Z Z) Z (Qp ⟨Z,Z,Z,Z,congrArg (fun b=>some (Value.bool b)) (show (s.turn == 6) = ((!(Xs s)) || (s.turn == 6)) by first | (rw [hg1] <;> rfl) | (simp [hg1];done) | (simp only [Qo] <;> simp)),trivial⟩ Z))))
 rintro _ rfl
 refine Qd (Qs Z (fun hc1=>?_) (fun hc1=>?_))
 ·refine Qf (Qh [true,false,true] Z Z (Qa (Qt Kb Z h1.at Z) Z (Q6 (cs':=[.int .i64 s.epoch,.int .i64 s.turn]) Kb Z Z Z Z h2 (Nat.le_of_ble_eq_true Z) Z (fun w5 m1 h2'=>?_))))
  replace h2:=h2'
  replace E:=E.step m1 (fun g hg=>by cases hg;omega);replace h1:=h1.mod m1 (fun g hg=>by cases hg;omega)
  have z4:=m1.size
  refine Qa (Qe Z) Z (Qd (Qw (Y5 (l:=[.cell 2 95,.tmp 3]) (vs:=[.agg (Enc.enc s).toArray,.bool false]) Z ⟨.cell Z (Yi Kb h2.at Z),.tmp Z,trivial⟩ Z E ?_)))
  simp only [Y2,if_pos hc1]
 ·refine Qn (Qf (Qh [true,true,true,true,true,true,false,true] Z Z (Qa (Qb Vi Z) Z (Qa (Qj Yo Z (h1.one 0 Z)) Z (Qa (Qb V8 Z) Z (Qa (Qj Yo Z (h1.one 1 Z)) Z (Qa (Q8 Z Z Z) Z (Qa (Gs (⟨s.epoch,IntKind.i64.wrap (s.turn + 1)⟩ : Stamp) Z (fun _=>by kernel_rfl)) Z (Q6 (cs':=[.int .i64 ((⟨s.epoch,IntKind.i64.wrap (s.turn + 1)⟩ : Stamp).epoch),.int .i64 ((⟨s.epoch,IntKind.i64.wrap (s.turn + 1)⟩ : Stamp).turn)]) Kb Z Z Z Z h2 (Nat.le_of_ble_eq_true Z) Z (fun w6 m2 h2'=>?_))))))))))
  replace h2:=h2'
  replace E:=E.step m2 (fun g hg=>by cases hg;omega);replace h1:=h1.mod m2 (fun g hg=>by cases hg;omega)
  have z5:=m2.size
  refine Qa (Qe Z) Z (Qd (Qw (Y5 (l:=[.cell 2 95,.tmp 3]) (vs:=[.agg (Enc.enc (⟨s.epoch,IntKind.i64.wrap (s.turn + 1)⟩ : Stamp)).toArray,.bool true]) Z ⟨.cell Z (Yi Kb h2.at Z),.tmp Z,trivial⟩ Z E ?_)))
  simp only [Y2,if_neg (Bool.eq_false_iff.1 hc1)]
  simp only [Bool.or_eq_false_iff,Bool.not_eq_false'] at hc1
  have ht:=win_hi hc1.1
  rw [Ub (by omega) (by omega)]

set_option maxRecDepth 20000 in
theorem s_NextTurn (s : Stamp) (w : World)  : Ct Tryz.prog 99 [.agg (Enc.enc s).toArray] w (fun v _=>v = .tuple [.agg (Enc.enc ((Y2 s).1)).toArray,.bool ((Y2 s).2)].toArray):=by
 refine Yh Tryz.func99 Z Tryz.ntmps99 Z ?_
 refine Q7 [(0,.agg (Enc.enc s).toArray)] ⟨Z,trivial⟩ ?_
 have E : Ext w w:=Ext.refl w
 refine Qf (Qh [false,false,true] Z Z (Y1 Z Z (fun b1 w1 e1 s1 h1=>?_)))
 have g_b1 : w.heap.size ≤ b1:=by have:=E.size;omega
 have y_b1:=h1.lt
 replace E:=E.trans e1
 have z1:=e1.size
 refine Yk Kb Z (fun b2 w2 e2 s2 h2=>?_)
 have g_b2 : w.heap.size ≤ b2:=by have:=E.size;omega
 have y_b2:=h2.lt
 replace E:=E.trans e2;replace h1:=h1.ext e2
 have z2:=e2.size
 refine Qa (Qe Z) Z (Qd (Qf (Qf (Qh [true,false,true,true,true,true,true,true] Z Z (Qa (Qt Kb Z h1.at Z) Z (Qv Tryz.call127 Z (s_StampOk s _ ) Z (fun _ w3 e3 hv=>?_)))))))
 subst hv
 replace E:=E.trans e3;replace h1:=h1.ext e3;replace h2:=h2.ext e3
 have z3:=e3.size
 refine Qa (Yq Z) Z (Qa (Qc Z) Z (Y7 4 [(0,.agg (Enc.enc s).toArray),(1,.pointer (some ⟨b1,0,none⟩)),(2,.pointer (some ⟨b2,0,none⟩)),(3,.bool false),(11,.bool ((!(Xs s)) || (decide (6 ≤ s.turn))))] (fun w'=>w3 = w') ?_ ?_))
 ·refine Y3 (gd:=7) Z Z (fun hg1=>?_) (fun hg1=>?_)
  ·refine Qg Z Z Z Z (Qg Z Z Z Z (Qg Z Z Z Z (Qa (Qx Z Z) Z (Qp ⟨Z,Z,Z,Z,congrArg (fun b=>some (Value.bool b)) (show true = ((!(Xs s)) || (decide (6 ≤ s.turn))) by first | (rw [hg1] <;> rfl) | (simp [hg1];done) | (simp only [Qo] <;> simp)),trivial⟩ Z))))
  ·refine Qm Z Z (Qb V8 Z) Z (Qm Z Z (Qj Yo Z (h1.one 1 Z)) Z (Qm Z Z (T0 Z Z) Z (Qa (Qy Z Z) Z (Qp ⟨Z,Z,Z,Z,congrArg (fun b=>some (Value.bool b)) (show (decide (6 ≤ s.turn)) = ((!(Xs s)) || (decide (6 ≤ s.turn))) by first | (rw [hg1] <;> rfl) | (simp [hg1];done) | (simp only [Qo] <;> simp)),trivial⟩ Z))))
 rintro _ rfl
 refine Qd (Qs Z (fun hc1=>?_) (fun hc1=>?_))
 ·refine Qf (Qh [true,false,true] Z Z (Qa (Qt Kb Z h1.at Z) Z (Q6 (cs':=[.int .i64 s.epoch,.int .i64 s.turn]) Kb Z Z Z Z h2 (Nat.le_of_ble_eq_true Z) Z (fun w5 m1 h2'=>?_))))
  replace h2:=h2'
  replace E:=E.step m1 (fun g hg=>by cases hg;omega);replace h1:=h1.mod m1 (fun g hg=>by cases hg;omega)
  have z4:=m1.size
  refine Qa (Qe Z) Z (Qd (Qw (Y5 (l:=[.cell 2 95,.tmp 3]) (vs:=[.agg (Enc.enc s).toArray,.bool false]) Z ⟨.cell Z (Yi Kb h2.at Z),.tmp Z,trivial⟩ Z E ?_)))
  simp only [Y2,if_pos (nt_ge hc1)]
 ·refine Qn (Qf (Qh [true,true,true,true,false] Z Z (Qa (Qb V8 Z) Z (Qa (Qj Yo Z (h1.one 1 Z)) Z (Qa (Q8 Z Z Z) Z (Qa (Qb V8 Z) Z (Yj (cs':=[.int .i64 s.epoch,.int .i64 (IntKind.i64.wrap (s.turn + 1))]) Yo Z Z Z h1 (Nat.le_of_ble_eq_true Z) Z (fun w6 m2 h1'=>?_))))))))
  replace h1:=h1'
  replace E:=E.step m2 (fun g hg=>by cases hg;omega);replace h2:=h2.mod m2 (fun g hg=>by cases hg;omega)
  have z5:=m2.size
  refine Qd (Qf (Qh [true,false,true] Z Z (Qa (Qt Kb Z h1.at Z) Z (Q6 (cs':=[.int .i64 ((⟨s.epoch,IntKind.i64.wrap (s.turn + 1)⟩ : Stamp).epoch),.int .i64 ((⟨s.epoch,IntKind.i64.wrap (s.turn + 1)⟩ : Stamp).turn)]) Kb Z Z Z Z h2 (Nat.le_of_ble_eq_true Z) Z (fun w7 m3 h2'=>?_)))))
  replace h2:=h2'
  replace E:=E.step m3 (fun g hg=>by cases hg;omega);replace h1:=h1.mod m3 (fun g hg=>by cases hg;omega)
  have z6:=m3.size
  refine Qa (Qe Z) Z (Qd (Qw (Y5 (l:=[.cell 2 95,.tmp 3]) (vs:=[.agg (Enc.enc (⟨s.epoch,IntKind.i64.wrap (s.turn + 1)⟩ : Stamp)).toArray,.bool true]) Z ⟨.cell Z (Yi Kb h2.at Z),.tmp Z,trivial⟩ Z E ?_)))
  replace hc1:=nt_lt hc1
  simp only [Y2,if_neg (Bool.eq_false_iff.1 hc1)]
  simp only [Bool.or_eq_false_iff,Bool.not_eq_false'] at hc1
  have ht:=win_hi hc1.1
  rw [Ub (by omega) (by omega)]

set_option maxRecDepth 20000 in
theorem c_opsOk (cg : List Value) (g : Graph) (vxs : Value) (xs : List Record) (w : World) (hg : Dat.R w 0 w.heap.size cg g) (hxs : RdS w vxs xs) : Ct Tryz.prog 110 [.agg cg.toArray,vxs] w (fun v _=>v = .bool (xs.all (Xr g))):=by
 refine Yh Tryz.func110 Z Tryz.ntmps110 Z ?_
 obtain ⟨o1,rfl,hd1⟩:=Graph.op hg
 refine Q7 [(0,.agg [o1,.int .i64 g.workers,.int .i64 g.cap].toArray),(1,vxs)] ⟨Z,Z,trivial⟩ ?_
 have E : Ext w w:=Ext.refl w
 refine Qf (Qh [false,true] Z Z (Y1 Z Z (fun b1 w1 e1 s1 h1=>?_)))
 have g_b1 : w.heap.size ≤ b1:=by have:=E.size;omega
 have y_b1:=h1.lt
 replace E:=E.trans e1
 have z1:=e1.size
 refine Qa (Qe Z) Z (Qd (Qf (Qf (Qh [true,true,true] Z Z (Qa (Qc Z) Z (Qa (Ya Tryz.underlying64 Z (hxs.ext E).len) Z (Qa (Qc Z) Z (Qd (Q0 (Ym (fun (k : Nat)=>[(2,.pointer (some ⟨b1,0,none⟩)),(4,.bool false),(7,vxs),(8,.int .i64 ((xs.length : Nat) : Int)),(9,.int .i64 ((k : Nat) : Int))]) (fun (k : Nat) w'=>Ext w w' ∧ w1.heap.size ≤ w'.heap.size ∧ Blk w' b1 ([o1,.int .i64 g.workers,.int .i64 g.cap]) ∧ k ≤ xs.length ∧ (xs.take k).all (Xr g) = true) (fun (k : Nat)=>xs.length - k) 0 ⟨Z,Z,Z,Z,Z,trivial⟩ ⟨E,Nat.le_refl _,h1,Nat.zero_le _,Z⟩ ?_))))))))))
 clear E h1
 rintro k w2 ⟨E,z2,h1,hk,hI⟩
 refine Qf (Qh [true] Z Z (Qa (Yf Z Z) Z (Qd (Qf (Qs Z (fun hc1=>?_) (fun hc1=>?_))))))
 ·have hc1n : k < xs.length:=by first | (have h:=of_decide_eq_true hc1;omega) | (have h:=hc1;simp at h;omega)
  refine Qn (Qf (Q0 (Qf (Qh [true,true,false,false] Z Z ?_))))
  have hi1 : k < xs.length:=(by first | assumption | omega | (simp only [List.length_set];first | assumption | omega))
  refine Qa (Q1 (i:=k) Kn Z Z (hxs.ext E) hi1) Z (Qa (Qt Va Z ((hxs.ext E).get hi1) Z) Z (Yk Va Z (fun b2 w3 e2 s2 h2=>?_)))
  have g_b2 : w.heap.size ≤ b2:=by have:=E.size;omega
  have y_b2:=h2.lt
  replace E:=E.trans e2;replace h1:=h1.ext e2
  have z3:=e2.size
  refine Q6 (cs':=[.int .i64 ((xs[k]'hi1).op),.int .i64 (((xs[k]'hi1).stamp).epoch),.int .i64 (((xs[k]'hi1).stamp).turn),.int .i64 ((xs[k]'hi1).key),.int .i64 ((xs[k]'hi1).val)]) Va Z Z Z Z h2 (Nat.le_of_ble_eq_true Z) Z (fun w4 m1 h2'=>?_)
  replace h2:=h2'
  replace E:=E.step m1 (fun g hg=>by cases hg;omega);replace h1:=h1.mod m1 (fun g hg=>by cases hg;omega)
  have z4:=m1.size
  refine Qd (Qf (Qh [true,false,true,true,true,true,true,false,true,true] Z Z (Qa (Qt Va Z h2.at Z) Z (Qv Tryz.call114 Z (c_RecordOk (xs[k]'hi1) _ ) Z (fun _ w5 e3 hv=>?_)))))
  subst hv
  replace E:=E.trans e3;replace h1:=h1.ext e3;replace h2:=h2.ext e3
  have z5:=e3.size
  refine Qa (Yq Z) Z (Qa (Qc Z) Z (Y7 6 [(2,.pointer (some ⟨b1,0,none⟩)),(4,.bool false),(6,.pointer (some ⟨b2,0,none⟩)),(7,vxs),(8,.int .i64 ((xs.length : Nat) : Int)),(9,.int .i64 ((k : Nat) : Int)),(10,.bool (decide (((k : Nat) : Int) < ((xs.length : Nat) : Int)))),(11,.pointer (some ⟨Xf vxs,Xm vxs + k * 5,none⟩)),(12,.agg (Enc.enc (xs[k]'hi1)).toArray),(22,.bool ((!(Yx (xs[k]'hi1))) || (!(Y9 g ((xs[k]'hi1).op)))))] (fun w'=>Ext w w' ∧ w5.heap.size ≤ w'.heap.size ∧ Blk w' b1 ([o1,.int .i64 g.workers,.int .i64 g.cap]) ∧ Blk w' b2 [.int .i64 ((xs[k]'hi1).op),.int .i64 (((xs[k]'hi1).stamp).epoch),.int .i64 (((xs[k]'hi1).stamp).turn),.int .i64 ((xs[k]'hi1).key),.int .i64 ((xs[k]'hi1).val)]) ?_ ?_))
  ·refine Y3 (gd:=16) Z Z (fun hg1=>?_) (fun hg1=>?_)
   ·refine Qg Z Z Z Z (Qg Z Z Z Z (Qg Z Z Z Z ?_))
    refine Yp Z Z Z Z ?_
    refine Qg Z Z Z Z (Qa (Qx Z Z) Z (Qp ⟨Z,Z,Z,Z,Z,Z,Z,Z,Z,congrArg (fun b=>some (Value.bool b)) (show true = ((!(Yx (xs[k]'hi1))) || (!(Y9 g ((xs[k]'hi1).op)))) by first | (rw [hg1] <;> rfl) | (simp [hg1];done) | (simp only [Qo] <;> simp)),trivial⟩ ⟨E,(by omega),h1,h2⟩))
   ·refine Qm Z Z (Qt Km Z h1.at Z) Z (Qm Z Z (Qb Uy Z) Z (Qm Z Z (Qj Yo Z (h2.one 0 Z)) Z ?_))
    refine Xp Z Z ?_
    refine Qv Tryz.call115 Z (c_isNode [o1,.int .i64 g.workers,.int .i64 g.cap] g ((xs[k]'hi1).op) _ (Graph.mkR g (RdD.any (hd1.ext E)))) Z (fun _ w7 e4 hv=>?_)
    subst hv
    replace E:=E.trans e4;replace h1:=h1.ext e4;replace h2:=h2.ext e4
    have z6:=e4.size
    refine Qm Z Z (Yq Z) Z (Qa (Qy Z Z) Z (Qp ⟨Z,Z,Z,Z,Z,Z,Z,Z,Z,congrArg (fun b=>some (Value.bool b)) (show (!(Y9 g ((xs[k]'hi1).op))) = ((!(Yx (xs[k]'hi1))) || (!(Y9 g ((xs[k]'hi1).op)))) by first | (rw [hg1] <;> rfl) | (simp [hg1];done) | (simp only [Qo] <;> simp)),trivial⟩ ⟨E,(by omega),h1,h2⟩))
  clear E h1 h2
  rintro w6 ⟨E,z7,h1,h2⟩
  refine Qd (Qs Z (fun hc2=>?_) (fun hc2=>?_))
  ·refine Qf (Qh [true] Z Z (Qa (Qe Z) Z (Qd (Qw (Q2 (Y0 (Q2 (Ql Z Z E ?_))))))))
   exact all_no (by assumption) (kx hc2)
  ·refine Qn (Q4 (Yr (Qh [true,true] Z Z (Qa (Q8 Z Z (Yt hc1n hxs.1)) Z (Qa (Qc Z) Z (Qd (Q4 (Yc (k + 1) (by omega) ⟨Z,Z,Z,Z,Z,trivial⟩ ⟨E,(by omega),h1,(by omega),Kf hI (by assumption) (ky hc2)⟩))))))))
 ·have hc1n : ¬ k < xs.length:=by first | (have h:=of_decide_eq_false hc1;omega) | (have h:=hc1;simp at h;omega)
  refine Yn (Q5 (Q3 ?_))
  refine Qf (Qh [true] Z Z (Qa (Qe Z) Z (Qd (Qw (Ql Z Z E ?_)))))
  exact Bz hI (by omega)

set_option maxRecDepth 20000 in
theorem s_l12Records (cg : List Value) (g : Graph) (vxs : Value) (xs : List Record) (w : World) (hg : Dat.R w 0 w.heap.size cg g) (hxs : RdS w vxs xs) : Ct Tryz.prog 92 [.agg cg.toArray,vxs] w (fun v _=>v = .bool (xs.all (Xr g))):=by
 refine Yh Tryz.func92 Z Tryz.ntmps92 Z ?_
 obtain ⟨o1,rfl,hd1⟩:=Graph.op hg
 refine Q7 [(0,.agg [o1,.int .i64 g.workers,.int .i64 g.cap].toArray),(1,vxs)] ⟨Z,Z,trivial⟩ ?_
 have E : Ext w w:=Ext.refl w
 refine Qf (Qh [false,true] Z Z (Y1 Z Z (fun b1 w1 e1 s1 h1=>?_)))
 have g_b1 : w.heap.size ≤ b1:=by have:=E.size;omega
 have y_b1:=h1.lt
 replace E:=E.trans e1
 have z1:=e1.size
 refine Qa (Qe Z) Z (Qd (Qf (Qf (Qh [true] Z Z (Qa (Qe Z) Z (Qd (Q0 (Ym (fun (k : Nat)=>[(1,vxs),(2,.pointer (some ⟨b1,0,none⟩)),(4,.bool false),(5,.int .i64 ((k : Nat) : Int))]) (fun (k : Nat) w'=>Ext w w' ∧ w1.heap.size ≤ w'.heap.size ∧ Blk w' b1 ([o1,.int .i64 g.workers,.int .i64 g.cap]) ∧ k ≤ xs.length ∧ (xs.take k).all (Xr g) = true) (fun (k : Nat)=>xs.length - k) 0 ⟨Z,Z,Z,Z,trivial⟩ ⟨E,Nat.le_refl _,h1,Nat.zero_le _,Z⟩ ?_))))))))
 clear E h1
 rintro k w2 ⟨E,z2,h1,hk,hI⟩
 refine Qf (Qf (Qh [true,true,true,true] Z Z (Qa (Qc Z) Z (Qa (Qc Z) Z (Qa (Ya Tryz.underlying64 Z (hxs.ext E).len) Z (Qa (Yf Z Z) Z (Qd (Qs Z (fun hc1=>?_) (fun hc1=>?_)))))))))
 ·have hc1n : k < xs.length:=by first | (have h:=of_decide_eq_true hc1;omega) | (have h:=hc1;simp at h;omega)
  refine Qn (Qf (Q0 (Qf (Xj Xi [(0,true),(1,true),(2,true),(3,true),(4,false),(5,true),(6,true),(7,true),(8,true),(9,true),(10,true),(11,true),(12,true),(13,true),(14,true),(15,true),(16,true)] (by decide +kernel) Z (fun w3 e2=>?_)))))
  replace E:=E.trans e2;replace h1:=h1.ext e2
  have z3:=e2.size
  refine Qa (Qc Z) Z (Qa (Qc Z) Z ?_)
  have hi1 : k < xs.length:=(by first | assumption | omega | (simp only [List.length_set];first | assumption | omega))
  refine Qa (Q1 (i:=k) Kn Z Z (hxs.ext E) hi1) Z (Qa (Qt Va Z ((hxs.ext E).get hi1) Z) Z (Qv Tryz.call95 Z (s_RecordOk (xs[k]'hi1) _ ) Z (fun _ w4 e3 hv=>?_)))
  subst hv
  replace E:=E.trans e3;replace h1:=h1.ext e3
  have z4:=e3.size
  refine Qa (Yq Z) Z (Qa (Qc Z) Z (Y7 10 [(1,vxs),(2,.pointer (some ⟨b1,0,none⟩)),(4,.bool false),(5,.int .i64 ((k : Nat) : Int)),(6,.int .i64 ((k : Nat) : Int)),(7,vxs),(8,.int .i64 ((xs.length : Nat) : Int)),(9,.bool (decide (((k : Nat) : Int) < ((xs.length : Nat) : Int)))),(28,.bool ((!(Yx (xs[k]'hi1))) || (decide (((g.nodes.length : Nat) : Int) ≤ ((xs[k]'hi1).op)))))] (fun w'=>w4 = w') ?_ ?_))
  ·refine Y3 (gd:=18) Z Z (fun hg1=>?_) (fun hg1=>?_)
   ·refine Qg Z Z Z Z (Qg Z Z Z Z (Qg Z Z Z Z (Qg Z Z Z Z (Qg Z Z Z Z (Qg Z Z Z Z (Qg Z Z Z Z (Qg Z Z Z Z (Qg Z Z Z Z (Qa (Qx Z Z) Z (Qp ⟨Z,Z,Z,Z,Z,Z,Z,Z,congrArg (fun b=>some (Value.bool b)) (show true = ((!(Yx (xs[k]'hi1))) || (decide (((g.nodes.length : Nat) : Int) ≤ ((xs[k]'hi1).op)))) by first | (rw [hg1] <;> rfl) | (simp [hg1];done) | (simp only [Qo] <;> simp)),trivial⟩ Z))))))))))
   ·refine Qm Z Z (Qc Z) Z (Qm Z Z (Qc Z) Z (Qm Z Z (Q1 (i:=k) Kn Z Z (hxs.ext E) hi1) Z (Qm Z Z (Qz Uy Z) Z (Qm Z Z (Qj Yo Z (((hxs.ext E).get hi1).one 0 Z)) Z (Qm Z Z (Qb Kd Z) Z (Qm Z Z (Qj Gc Z (h1.one 0 Z)) Z (Qm Z Z (Ya Tryz.underlying32 Z (hd1.ext E).len) Z (Qm Z Z (T0 Z Z) Z (Qa (Qy Z Z) Z (Qp ⟨Z,Z,Z,Z,Z,Z,Z,Z,congrArg (fun b=>some (Value.bool b)) (show (decide (((g.nodes.length : Nat) : Int) ≤ ((xs[k]'hi1).op))) = ((!(Yx (xs[k]'hi1))) || (decide (((g.nodes.length : Nat) : Int) ≤ ((xs[k]'hi1).op)))) by first | (rw [hg1] <;> rfl) | (simp [hg1];done) | (simp only [Qo] <;> simp)),trivial⟩ Z))))))))))
  rintro _ rfl
  refine Qd (Qs Z (fun hc2=>?_) (fun hc2=>?_))
  ·refine Qf (Qh [true] Z Z (Qa (Qe Z) Z (Qd (Qw (Q2 (Y0 (Q2 (Ql Z Z E ?_))))))))
   exact all_no (by assumption) (op_no hc2)
  ·refine Qn (Q4 (Yr (Qh [true,true,true] Z Z (Qa (Qc Z) Z (Qa (Q8 Z Z (Yt hc1n hxs.1)) Z (Qa (Qe Z) Z (Qd (Q4 (Yc (k + 1) (by omega) ⟨Z,Z,Z,Z,trivial⟩ ⟨E,(by omega),h1,(by omega),Kf hI (by assumption) (op_yes hc2)⟩)))))))))
 ·have hc1n : ¬ k < xs.length:=by first | (have h:=of_decide_eq_false hc1;omega) | (have h:=hc1;simp at h;omega)
  refine Yn (Q5 (Q3 ?_))
  refine Qf (Qh [true] Z Z (Qa (Qe Z) Z (Qd (Qw (Ql Z Z E ?_)))))
  exact Bz hI (by omega)

set_option maxHeartbeats 4000000 in
set_option maxRecDepth 20000 in
theorem c_WorkerOk (cg : List Value) (g : Graph) (cx : List Value) (x : Worker) (w : World) (hg : Dat.R w 0 w.heap.size cg g) (hx : Dat.R w 0 w.heap.size cx x) : Ct Tryz.prog 60 [.agg cg.toArray,.agg cx.toArray] w (fun v _=>v = .bool (Xc g x)):=by
 refine Yh Tryz.func60 Z Tryz.ntmps60 Z ?_
 obtain ⟨o1,rfl,hd1⟩:=Graph.op hg
 obtain ⟨o2,o3,o4,o5,o6,o7,o8,o9,rfl,hd2,hd3,hd4,hd5,hd6,hd7,hd8,hd9⟩:=Worker.op hx
 refine Q7 [(0,.agg [o1,.int .i64 g.workers,.int .i64 g.cap].toArray),(1,.agg [o2,o3,o4,o5,o6,o7,o8,o9].toArray)] ⟨Z,Z,trivial⟩ ?_
 have E : Ext w w:=Ext.refl w
 refine Qf (Qh [false,false,true] Z Z (Y1 Z Z (fun b1 w1 e1 s1 h1=>?_)))
 have g_b1 : w.heap.size ≤ b1:=by have:=E.size;omega
 have y_b1:=h1.lt
 replace E:=E.trans e1
 have z1:=e1.size
 refine Y1 Z Z (fun b2 w2 e2 s2 h2=>?_)
 have g_b2 : w.heap.size ≤ b2:=by have:=E.size;omega
 have y_b2:=h2.lt
 replace E:=E.trans e2;replace h1:=h1.ext e2
 have z2:=e2.size
 refine Qa (Qe Z) Z (Qd (Qf (Qf (Qh [true,true,true,false,true,true,true,true,true,false,true,true,true,true,true,true,false,true,true,true,true,true,false,true,true] Z Z (Qa (Qt Km Z h1.at Z) Z (Qa (Qb Vd Z) Z (Qa (Qj Xy Z (h2.one 0 Z)) Z (Qv Tryz.call110 Z (c_opsOk [o1,.int .i64 g.workers,.int .i64 g.cap] g o2 x.queue _ (Graph.mkR g (RdD.any (hd1.ext E))) (hd2.rd.ext E)) Z (fun _ w3 e3 hv=>?_)))))))))
 subst hv
 replace E:=E.trans e3;replace h1:=h1.ext e3;replace h2:=h2.ext e3
 have z3:=e3.size
 refine Qa (Yq Z) Z (Qa (Qc Z) Z (Y7 19 [(0,.agg [o1,.int .i64 g.workers,.int .i64 g.cap].toArray),(1,.agg [o2,o3,o4,o5,o6,o7,o8,o9].toArray),(2,.pointer (some ⟨b1,0,none⟩)),(3,.pointer (some ⟨b2,0,none⟩)),(4,.bool false),(35,.bool ((((!(x.queue.all (Xr g))) || (!(x.staged.all (Xr g)))) || (!(x.inputs.all (Xr g)))) || (!((T5 x.cells).all Ko))))] (fun w'=>Ext w w' ∧ w3.heap.size ≤ w'.heap.size ∧ Blk w' b1 ([o1,.int .i64 g.workers,.int .i64 g.cap]) ∧ Blk w' b2 ([o2,o3,o4,o5,o6,o7,o8,o9])) ?_ ?_))
 ·refine Y3 (gd:=16) Z Z (fun hg1=>?_) (fun hg1=>?_)
  ·refine Qg Z Z Z Z (Qg Z Z Z Z (Qg Z Z Z Z ?_))
   refine Yp Z Z Z Z ?_
   refine Qg Z Z Z Z (Qa (Qx Z Z) Z (Qa (Qc Z) Z (Qg Z Z Z Z (Qg Z Z Z Z (Qg Z Z Z Z ?_)))))
   refine Yp Z Z Z Z ?_
   refine Qg Z Z Z Z (Qa (Qx Z Z) Z (Qa (Qc Z) Z (Qg Z Z Z Z (Qg Z Z Z Z ?_))))
   refine Yp Z Z Z Z ?_
   refine Qg Z Z Z Z (Qa (Qx Z Z) Z (Qp ⟨Z,Z,Z,Z,Z,congrArg (fun b=>some (Value.bool b)) (show true = ((((!(x.queue.all (Xr g))) || (!(x.staged.all (Xr g)))) || (!(x.inputs.all (Xr g)))) || (!((T5 x.cells).all Ko))) by first | (rw [hg1] <;> rfl) | (simp [hg1];done) | (simp only [Qo] <;> simp)),trivial⟩ ⟨E,(by omega),h1,h2⟩))
  ·refine Qm Z Z (Qt Km Z h1.at Z) Z (Qm Z Z (Qb Gm Z) Z (Qm Z Z (Qj Xy Z (h2.one 1 Z)) Z ?_))
   refine Xp Z Z ?_
   refine Qv Tryz.call110 Z (c_opsOk [o1,.int .i64 g.workers,.int .i64 g.cap] g o3 x.staged _ (Graph.mkR g (RdD.any (hd1.ext E))) (hd3.rd.ext E)) Z (fun _ w5 e4 hv=>?_)
   subst hv
   replace E:=E.trans e4;replace h1:=h1.ext e4;replace h2:=h2.ext e4
   have z4:=e4.size
   refine Qm Z Z (Yq Z) Z (Qa (Qy Z Z) Z (Qa (Qc Z) Z ?_))
   refine Y3 (gd:=23) Z Z (fun hg2=>?_) (fun hg2=>?_)
   ·refine Qg Z Z Z Z (Qg Z Z Z Z (Qg Z Z Z Z ?_))
    refine Yp Z Z Z Z ?_
    refine Qg Z Z Z Z (Qa (Qx Z Z) Z (Qa (Qc Z) Z (Qg Z Z Z Z (Qg Z Z Z Z ?_))))
    refine Yp Z Z Z Z ?_
    refine Qg Z Z Z Z (Qa (Qx Z Z) Z (Qp ⟨Z,Z,Z,Z,Z,congrArg (fun b=>some (Value.bool b)) (show true = ((((!(x.queue.all (Xr g))) || (!(x.staged.all (Xr g)))) || (!(x.inputs.all (Xr g)))) || (!((T5 x.cells).all Ko))) by first | (rw [hg1,hg2] <;> rfl) | (simp [hg1,hg2];done) | (simp only [Qo] <;> simp)),trivial⟩ ⟨E,(by omega),h1,h2⟩))
   ·refine Qm Z Z (Qt Km Z h1.at Z) Z (Qm Z Z (Qb Vj Z) Z (Qm Z Z (Qj Xy Z (h2.one 2 Z)) Z ?_))
    refine Xp Z Z ?_
    refine Qv Tryz.call110 Z (c_opsOk [o1,.int .i64 g.workers,.int .i64 g.cap] g o4 x.inputs _ (Graph.mkR g (RdD.any (hd1.ext E))) (hd4.rd.ext E)) Z (fun _ w6 e5 hv=>?_)
    subst hv
    replace E:=E.trans e5;replace h1:=h1.ext e5;replace h2:=h2.ext e5
    have z5:=e5.size
    refine Qm Z Z (Yq Z) Z (Qa (Qy Z Z) Z (Qa (Qc Z) Z ?_))
    refine Y3 (gd:=30) Z Z (fun hg3=>?_) (fun hg3=>?_)
    ·refine Qg Z Z Z Z (Qg Z Z Z Z ?_)
     refine Yp Z Z Z Z ?_
     refine Qg Z Z Z Z (Qa (Qx Z Z) Z (Qp ⟨Z,Z,Z,Z,Z,congrArg (fun b=>some (Value.bool b)) (show true = ((((!(x.queue.all (Xr g))) || (!(x.staged.all (Xr g)))) || (!(x.inputs.all (Xr g)))) || (!((T5 x.cells).all Ko))) by first | (rw [hg1,hg2,hg3] <;> rfl) | (simp [hg1,hg2,hg3];done) | (simp only [Qo] <;> simp)),trivial⟩ ⟨E,(by omega),h1,h2⟩))
    ·refine Qm Z Z (Qb Gl Z) Z (Qm Z Z (Qj A1 Z (h2.one 3 Z)) Z ?_)
     refine Xp Z Z ?_
     refine Qv Tryz.call112 Z (c_CellsOk o5 x.cells _ (hd5.rd.ext E)) Z (fun _ w7 e6 hv=>?_)
     subst hv
     replace E:=E.trans e6;replace h1:=h1.ext e6;replace h2:=h2.ext e6
     have z6:=e6.size
     refine Qm Z Z (Yq Z) Z (Qa (Qy Z Z) Z (Qp ⟨Z,Z,Z,Z,Z,congrArg (fun b=>some (Value.bool b)) (show (!((T5 x.cells).all Ko)) = ((((!(x.queue.all (Xr g))) || (!(x.staged.all (Xr g)))) || (!(x.inputs.all (Xr g)))) || (!((T5 x.cells).all Ko))) by first | (rw [hg1,hg2,hg3] <;> rfl) | (simp [hg1,hg2,hg3];done) | (simp only [Qo] <;> simp)),trivial⟩ ⟨E,(by omega),h1,h2⟩))
 clear E h1 h2
 rintro w4 ⟨E,z7,h1,h2⟩
 refine Qd (Qs Z (fun hc1=>?_) (fun hc1=>?_))
 ·refine Qf (Qh [true] Z Z (Qa (Qe Z) Z (Qd (Qw (Ql Z Z E ?_)))))
  exact bf fun h=>by simp only [Xc,Bool.and_eq_true] at h;obtain ⟨⟨⟨⟨⟨⟨⟨⟨⟨q1,q2⟩,q3⟩,q4⟩,q5⟩,q6⟩,q7⟩,q8⟩,q9⟩,q10⟩:=h;simp only [q1,q2,q3,q4] at hc1;simp at hc1
 ·refine Qn (Qf (Qf (Qh [true,true,true,true] Z Z (Qa (Qb Vj Z) Z (Qa (Qj Xy Z (h2.one 2 Z)) Z (Qa (Ya Tryz.underlying64 Z (hd4.ext E).len) Z (Qa (Qc Z) Z (Qd (Q0 (Ym (fun (k : Nat)=>[(3,.pointer (some ⟨b2,0,none⟩)),(4,.bool false),(37,o4),(38,.int .i64 ((x.inputs.length : Nat) : Int)),(39,.int .i64 ((k : Nat) : Int))]) (fun (k : Nat) w'=>Ext w w' ∧ w4.heap.size ≤ w'.heap.size ∧ Blk w' b1 ([o1,.int .i64 g.workers,.int .i64 g.cap]) ∧ Blk w' b2 ([o2,o3,o4,o5,o6,o7,o8,o9]) ∧ k ≤ x.inputs.length ∧ H8 k (fun j=>inAt x.inputs j) = true) (fun (k : Nat)=>x.inputs.length - k) 0 ⟨Z,Z,Z,Z,Z,trivial⟩ ⟨E,Nat.le_refl _,h1,h2,Nat.zero_le _,Z⟩ ?_))))))))))
  clear E h1 h2
  rintro k w8 ⟨E,z8,h1,h2,hk,hI1⟩
  have hmi:=hd4.1.1
  unfold maxLen at hmi
  refine Qf (Qh [true] Z Z (Qa (Yf Z Z) Z (Qd (Qf (Qs Z (fun hc2=>?_) (fun hc2=>?_))))))
  ·have hc2n : k < x.inputs.length:=by first | (have h:=of_decide_eq_true hc2;omega) | (have h:=hc2;simp at h;omega)
   refine Qn (Qf (Q0 (Qf (Qh [true,true,true,false,true,false] Z Z (Qa (Qc Z) Z ?_)))))
   have hi1 : k < x.inputs.length:=(by first | assumption | omega | (simp only [List.length_set];first | assumption | omega))
   refine Qa (Q1 (i:=k) Kn Z Z (hd4.rd.ext E) hi1) Z (Qa (Qt Va Z ((hd4.rd.ext E).get hi1) Z) Z (Yk Va Z (fun b3 w9 e7 s3 h3=>?_)))
   have g_b3 : w.heap.size ≤ b3:=by have:=E.size;omega
   have y_b3:=h3.lt
   replace E:=E.trans e7;replace h1:=h1.ext e7;replace h2:=h2.ext e7
   have z9:=e7.size
   refine Qa (Qe Z) Z (Q6 (cs':=[.int .i64 ((x.inputs[k]'hi1).op),.int .i64 (((x.inputs[k]'hi1).stamp).epoch),.int .i64 (((x.inputs[k]'hi1).stamp).turn),.int .i64 ((x.inputs[k]'hi1).key),.int .i64 ((x.inputs[k]'hi1).val)]) Va Z Z Z Z h3 (Nat.le_of_ble_eq_true Z) Z (fun w10 m1 h3'=>?_))
   replace h3:=h3'
   replace E:=E.step m1 (fun g hg=>by cases hg;omega);replace h1:=h1.mod m1 (fun g hg=>by cases hg;omega);replace h2:=h2.mod m1 (fun g hg=>by cases hg;omega)
   have z10:=m1.size
   refine Qd (Qf (Xj Xi [(0,true),(1,true),(2,true),(3,true),(4,true),(5,true),(6,true),(7,true),(8,true),(9,true),(10,true),(11,true),(12,true),(13,true),(14,true),(15,true),(16,true),(17,true),(18,true),(19,true),(20,true),(21,true),(22,true),(23,true),(24,true),(25,true),(26,true)] (by decide +kernel) Z (fun w11 e8=>?_)))
   replace E:=E.trans e8;replace h1:=h1.ext e8;replace h2:=h2.ext e8;replace h3:=h3.ext e8
   have z11:=e8.size
   refine Qa (Qb Uy Z) Z (Qa (Qj Yo Z (h3.one 0 Z)) Z (Qa (Yu Z Z) Z (Qa (Qc Z) Z (Y7 23 [(3,.pointer (some ⟨b2,0,none⟩)),(4,.bool false),(5,.int .i64 ((k : Nat) : Int)),(6,.pointer (some ⟨b3,0,none⟩)),(37,o4),(38,.int .i64 ((x.inputs.length : Nat) : Int)),(39,.int .i64 ((k : Nat) : Int)),(40,.bool (decide (((k : Nat) : Int) < ((x.inputs.length : Nat) : Int)))),(41,.int .i64 ((k : Nat) : Int)),(42,.pointer (some ⟨Xf o4,Xm o4 + k * 5,none⟩)),(43,.agg (Enc.enc (x.inputs[k]'hi1)).toArray),(70,.bool (((((x.inputs[k]'hi1).op) != 0) || ((((x.inputs[k]'hi1).stamp).turn) != 0)) || ((decide (0 < ((k : Nat) : Int))) && (decide ((((x.inputs[k]'hi1).stamp).epoch) < (((List.getD x.inputs (k - 1) default).stamp).epoch))))))] (fun w'=>w11 = w') ?_ ?_))))
   ·refine Y3 (gd:=47) Z Z (fun hg4=>?_) (fun hg4=>?_)
    ·refine Qg Z Z Z Z (Qg Z Z Z Z (Qg Z Z Z Z (Qg Z Z Z Z (Qa (Qx Z Z) Z (Qa (Qc Z) Z (Qg Z Z Z Z (Qg Z Z Z Z (Qg Z Z Z Z (Q9 Z Z Z (Q9 Z Z Z (Q9 Z Z Z (Q9 Z Z Z (Q9 Z Z Z (Q9 Z Z Z (Q9 Z Z Z (Q9 Z Z Z (Q9 Z Z Z (Q9 Z Z Z (Q9 Z Z Z (Q9 Z Z Z (Qg Z Z Z Z (Qa (Qx Z Z) Z (Qp ⟨Z,Z,Z,Z,Z,Z,Z,Z,Z,Z,Z,congrArg (fun b=>some (Value.bool b)) (show true = (((((x.inputs[k]'hi1).op) != 0) || ((((x.inputs[k]'hi1).stamp).turn) != 0)) || ((decide (0 < ((k : Nat) : Int))) && (decide ((((x.inputs[k]'hi1).stamp).epoch) < (((List.getD x.inputs (k - 1) default).stamp).epoch))))) by first | (rw [hg4] <;> rfl) | (simp [hg4];done) | (simp only [Qo] <;> simp)),trivial⟩ Z)))))))))))))))))))))))
    ·refine Qm Z Z (Qb Kx Z) Z (Qm Z Z (Qz V8 Z) Z (Qm Z Z (Qj Yo Z (h3.one 2 Z)) Z (Qm Z Z (Yu Z Z) Z (Qa (Qy Z Z) Z (Qa (Qc Z) Z ?_)))))
     refine Y3 (gd:=53) Z Z (fun hg5=>?_) (fun hg5=>?_)
     ·refine Qg Z Z Z Z (Qg Z Z Z Z (Qg Z Z Z Z (Q9 Z Z Z (Q9 Z Z Z (Q9 Z Z Z (Q9 Z Z Z (Q9 Z Z Z (Q9 Z Z Z (Q9 Z Z Z (Q9 Z Z Z (Q9 Z Z Z (Q9 Z Z Z (Q9 Z Z Z (Q9 Z Z Z (Qg Z Z Z Z (Qa (Qx Z Z) Z (Qp ⟨Z,Z,Z,Z,Z,Z,Z,Z,Z,Z,Z,congrArg (fun b=>some (Value.bool b)) (show true = (((((x.inputs[k]'hi1).op) != 0) || ((((x.inputs[k]'hi1).stamp).turn) != 0)) || ((decide (0 < ((k : Nat) : Int))) && (decide ((((x.inputs[k]'hi1).stamp).epoch) < (((List.getD x.inputs (k - 1) default).stamp).epoch))))) by first | (rw [hg4,hg5] <;> rfl) | (simp [hg4,hg5];done) | (simp only [Qo] <;> simp)),trivial⟩ Z)))))))))))))))))
     ·refine Qm Z Z (Qc Z) Z (Qm Z Z (V0 Z Z) Z (Qm Z Z (Qc Z) Z ?_))
      refine Y3 (gd:=56) Z Z (fun hg6=>?_) (fun hg6=>?_)
      ·have hg6n : k > 0:=by first | (have h:=of_decide_eq_true hg6;omega) | (have h:=hg6;simp at h;omega)
       refine Qm Z Z (Qb Vj Z) Z (Qm Z Z (Qj Xy Z (h2.one 2 Z)) Z (Qm Z Z (Qc Z) Z (Qm Z Z (Uu Z Z (sub_nat (by omega) (by unfold maxLen;omega))) Z (Qm Z Z (Q1 (i:=(k - 1)) Kn Z Z (hd4.rd.ext E) (by first | assumption | omega | (simp only [List.length_set];first | assumption | omega))) Z (Qm Z Z (Qz Kx Z) Z (Qm Z Z (Qz Vi Z) Z (Qm Z Z (Qj Yo Z ((RdS.getD (hd4.rd.ext E) (i:=(k - 1)) (by first | assumption | omega | (simp only [List.length_set];first | assumption | omega))).one 1 Z)) Z (Qm Z Z (Qb Kx Z) Z (Qm Z Z (Qz Vi Z) Z (Qm Z Z (Qj Yo Z (h3.one 1 Z)) Z (Qm Z Z (V0 Z Z) Z (Qm Z Z (Qx Z Z) Z (Qa (Qy Z Z) Z (Qp ⟨Z,Z,Z,Z,Z,Z,Z,Z,Z,Z,Z,congrArg (fun b=>some (Value.bool b)) (show (decide ((((x.inputs[k]'hi1).stamp).epoch) < (((List.getD x.inputs (k - 1) default).stamp).epoch))) = (((((x.inputs[k]'hi1).op) != 0) || ((((x.inputs[k]'hi1).stamp).turn) != 0)) || ((decide (0 < ((k : Nat) : Int))) && (decide ((((x.inputs[k]'hi1).stamp).epoch) < (((List.getD x.inputs (k - 1) default).stamp).epoch))))) by first | (rw [hg4,hg5,hg6] <;> rfl) | (simp [hg4,hg5,hg6];done) | (simp only [Qo] <;> simp)),trivial⟩ Z))))))))))))))
      ·have hg6n : ¬ k > 0:=by first | (have h:=of_decide_eq_false hg6;omega) | (have h:=hg6;simp at h;omega)
       refine Qg Z Z Z Z (Qg Z Z Z Z (Qg Z Z Z Z (Qg Z Z Z Z (Qg Z Z Z Z (Qg Z Z Z Z (Qg Z Z Z Z (Qg Z Z Z Z (Qg Z Z Z Z (Qg Z Z Z Z (Qg Z Z Z Z (Qg Z Z Z Z (Qm Z Z (Qy Z Z) Z (Qa (Qy Z Z) Z (Qp ⟨Z,Z,Z,Z,Z,Z,Z,Z,Z,Z,Z,congrArg (fun b=>some (Value.bool b)) (show false = (((((x.inputs[k]'hi1).op) != 0) || ((((x.inputs[k]'hi1).stamp).turn) != 0)) || ((decide (0 < ((k : Nat) : Int))) && (decide ((((x.inputs[k]'hi1).stamp).epoch) < (((List.getD x.inputs (k - 1) default).stamp).epoch))))) by first | (rw [hg4,hg5,hg6] <;> rfl) | (simp [hg4,hg5,hg6];done) | (simp only [Qo] <;> simp)),trivial⟩ Z))))))))))))))
   rintro _ rfl
   refine Qd (Qs Z (fun hc3=>?_) (fun hc3=>?_))
   ·refine Qf (Qh [true] Z Z (Qa (Qe Z) Z (Qd (Qw (Q2 (Y0 (Q2 (Ql Z Z E ?_))))))))
    exact bf fun h=>by simp only [Xc,Bool.and_eq_true] at h;obtain ⟨⟨⟨⟨⟨⟨⟨⟨⟨q1,q2⟩,q3⟩,q4⟩,q5⟩,q6⟩,q7⟩,q8⟩,q9⟩,q10⟩:=h;have:=Ho q5 (by assumption);rw [Bw (by assumption),hc3] at this;cases this
   ·refine Qn (Q4 (Yr (Qh [true,true] Z Z (Qa (Q8 Z Z (Yt hc2n (hd4.ext E).1.1)) Z (Qa (Qc Z) Z (Qd (Q4 (Yc (k + 1) (by omega) ⟨Z,Z,Z,Z,Z,trivial⟩ ⟨E,(by omega),h1,h2,(by omega),Bb hI1 ((Bw (by assumption)).trans (congrArg not hc3))⟩))))))))
  ·have hc2n : ¬ k < x.inputs.length:=by first | (have h:=of_decide_eq_false hc2;omega) | (have h:=hc2;simp at h;omega)
   refine Yn (Q5 (Q3 ?_))
   refine Qf (Qf (Qh [true,true,true,true,true,true,true,true,true,true,true,true,true,true,true,true] Z Z (Qa (Qb Hm Z) Z (Qa (Qj Ke Z (h2.one 4 Z)) Z (Qa (Ya Tryz.underlying66 Z (hd6.ext E).len) Z (Qa (Yu Z Z) Z (Qa (Qc Z) Z (Y7 11 [(3,.pointer (some ⟨b2,0,none⟩)),(4,.bool false),(37,o4),(38,.int .i64 ((x.inputs.length : Nat) : Int)),(39,.int .i64 ((k : Nat) : Int)),(40,.bool (decide (((k : Nat) : Int) < ((x.inputs.length : Nat) : Int)))),(87,.bool (((((x.sums.length : Nat) : Int) != 4) || (((x.black.length : Nat) : Int) != 4)) || (((x.caps.length : Nat) : Int) != 4)))] (fun w'=>w8 = w') ?_ ?_))))))))
   ·refine Y3 (gd:=76) Z Z (fun hg7=>?_) (fun hg7=>?_)
    ·have hg7n : ¬ x.sums.length = 4:=by first | (have h:=of_decide_eq_true hg7;omega) | (have h:=hg7;simp at h;omega)
     refine Qg Z Z Z Z (Qg Z Z Z Z (Qg Z Z Z Z (Qg Z Z Z Z (Qa (Qx Z Z) Z (Qa (Qc Z) Z (Qg Z Z Z Z (Qg Z Z Z Z (Qg Z Z Z Z (Qg Z Z Z Z (Qa (Qx Z Z) Z (Qp ⟨Z,Z,Z,Z,Z,Z,congrArg (fun b=>some (Value.bool b)) (show true = (((((x.sums.length : Nat) : Int) != 4) || (((x.black.length : Nat) : Int) != 4)) || (((x.caps.length : Nat) : Int) != 4)) by first | (rw [hg7] <;> rfl) | (simp [hg7];done) | (simp only [Qo] <;> simp)),trivial⟩ Z)))))))))))
    ·have hg7n : x.sums.length = 4:=by first | (have h:=of_decide_eq_false hg7;omega) | (have h:=hg7;simp at h;omega)
     refine Qm Z Z (Qb Ts Z) Z (Qm Z Z (Qj G5 Z (h2.one 5 Z)) Z (Qm Z Z (Ya Tryz.underlying67 Z (hd7.ext E).len) Z (Qm Z Z (Yu Z Z) Z (Qa (Qy Z Z) Z (Qa (Qc Z) Z ?_)))))
     refine Y3 (gd:=82) Z Z (fun hg8=>?_) (fun hg8=>?_)
     ·have hg8n : ¬ x.black.length = 4:=by first | (have h:=of_decide_eq_true hg8;omega) | (have h:=hg8;simp at h;omega)
      refine Qg Z Z Z Z (Qg Z Z Z Z (Qg Z Z Z Z (Qg Z Z Z Z (Qa (Qx Z Z) Z (Qp ⟨Z,Z,Z,Z,Z,Z,congrArg (fun b=>some (Value.bool b)) (show true = (((((x.sums.length : Nat) : Int) != 4) || (((x.black.length : Nat) : Int) != 4)) || (((x.caps.length : Nat) : Int) != 4)) by first | (rw [hg7,hg8] <;> rfl) | (simp [hg7,hg8];done) | (simp only [Qo] <;> simp)),trivial⟩ Z)))))
     ·have hg8n : x.black.length = 4:=by first | (have h:=of_decide_eq_false hg8;omega) | (have h:=hg8;simp at h;omega)
      refine Qm Z Z (Qb Hl Z) Z (Qm Z Z (Qj G5 Z (h2.one 6 Z)) Z (Qm Z Z (Ya Tryz.underlying67 Z (hd8.ext E).len) Z (Qm Z Z (Yu Z Z) Z (Qa (Qy Z Z) Z (Qp ⟨Z,Z,Z,Z,Z,Z,congrArg (fun b=>some (Value.bool b)) (show (((x.caps.length : Nat) : Int) != 4) = (((((x.sums.length : Nat) : Int) != 4) || (((x.black.length : Nat) : Int) != 4)) || (((x.caps.length : Nat) : Int) != 4)) by first | (rw [hg7,hg8] <;> rfl) | (simp [hg7,hg8];done) | (simp only [Qo] <;> simp)),trivial⟩ Z)))))
   rintro _ rfl
   refine Qd (Qs Z (fun hc4=>?_) (fun hc4=>?_))
   ·refine Qf (Qh [true] Z Z (Qa (Qe Z) Z (Qd (Qw (Ql Z Z E ?_)))))
    exact bf fun h=>by simp only [Xc,Bool.and_eq_true] at h;obtain ⟨⟨⟨⟨⟨⟨⟨⟨⟨q1,q2⟩,q3⟩,q4⟩,q5⟩,q6⟩,q7⟩,q8⟩,q9⟩,q10⟩:=h;simp only [beq_iff_eq] at q6 q7 q8;simp [q6,q7,q8] at hc4
   ·refine Qn (Qf (Qf (Qh [true,true,true,true] Z Z (Qa (Qb Hm Z) Z (Qa (Qj Ke Z (h2.one 4 Z)) Z (Qa (Ya Tryz.underlying66 Z (hd6.ext E).len) Z (Qa (Qc Z) Z (Qd (Q0 (Ym (fun (k : Nat)=>[(3,.pointer (some ⟨b2,0,none⟩)),(4,.bool false),(89,o6),(90,.int .i64 ((x.sums.length : Nat) : Int)),(91,.int .i64 ((k : Nat) : Int))]) (fun (k : Nat) w'=>Ext w w' ∧ w8.heap.size ≤ w'.heap.size ∧ Blk w' b1 ([o1,.int .i64 g.workers,.int .i64 g.cap]) ∧ Blk w' b2 ([o2,o3,o4,o5,o6,o7,o8,o9]) ∧ k ≤ x.sums.length ∧ (x.sums.take k).all (Yw · (-1000000) 1000000) = true) (fun (k : Nat)=>x.sums.length - k) 0 ⟨Z,Z,Z,Z,Z,trivial⟩ ⟨E,Nat.le_refl _,h1,h2,Nat.zero_le _,Z⟩ ?_))))))))))
    clear E h1 h2
    rintro k w14 ⟨E,z12,h1,h2,hk,hI2⟩
    refine Qf (Qh [true] Z Z (Qa (Yf Z Z) Z (Qd (Qf (Qs Z (fun hc5=>?_) (fun hc5=>?_))))))
    ·have hc5n : k < x.sums.length:=by first | (have h:=of_decide_eq_true hc5;omega) | (have h:=hc5;simp at h;omega)
     refine Qn (Qf (Q0 (Qf (Qh [true,true,true] Z Z ?_))))
     have hi2 : k < x.sums.length:=(by first | assumption | omega | (simp only [List.length_set];first | assumption | omega))
     refine Qa (Q1 (i:=k) Uv Z Z (hd6.rd.ext E) hi2) Z (Qa (Qj Yo Z (((hd6.rd.ext E).get hi2).one 0 Z)) Z (Qa (Qe Z) Z (Qd (Qf (Qh [true,false,true] Z Z (Qa (Qc Z) Z (Qv Tryz.call58 Z (c_within (x.sums[k]'hi2) (-1000000) 1000000 _ ) Z (fun _ w15 e9 hv=>?_))))))))
     subst hv
     replace E:=E.trans e9;replace h1:=h1.ext e9;replace h2:=h2.ext e9
     have z13:=e9.size
     refine Qa (Yq Z) Z (Qd (Qs Z (fun hc6=>?_) (fun hc6=>?_)))
     ·refine Qf (Qh [true] Z Z (Qa (Qe Z) Z (Qd (Qw (Q2 (Y0 (Q2 (Ql Z Z E ?_))))))))
      exact bf fun h=>by simp only [Xc,Bool.and_eq_true] at h;obtain ⟨⟨⟨⟨⟨⟨⟨⟨⟨q1,q2⟩,q3⟩,q4⟩,q5⟩,q6⟩,q7⟩,q8⟩,q9⟩,q10⟩:=h;have:=List.all_eq_true.1 q9 _ (List.getElem_mem (by assumption));simp only [this] at hc6;cases hc6
     ·refine Qn (Q4 (Yr (Qh [true,true] Z Z (Qa (Q8 Z Z (Yt hc5n (hd6.ext E).1.1)) Z (Qa (Qc Z) Z (Qd (Q4 (Yc (k + 1) (by omega) ⟨Z,Z,Z,Z,Z,trivial⟩ ⟨E,(by omega),h1,h2,(by omega),Kf hI2 (by assumption) (by simpa using hc6)⟩))))))))
    ·have hc5n : ¬ k < x.sums.length:=by first | (have h:=of_decide_eq_false hc5;omega) | (have h:=hc5;simp at h;omega)
     refine Yn (Q5 (Q3 ?_))
     refine Qf (Qf (Qh [true,true,true,true] Z Z (Qa (Qb Gk Z) Z (Qa (Qj A0 Z (h2.one 7 Z)) Z (Qa (Ya Tryz.underlying68 Z (hd9.ext E).len) Z (Qa (Qc Z) Z (Qd (Q0 (Ym (fun (k : Nat)=>[(3,.pointer (some ⟨b2,0,none⟩)),(4,.bool false),(100,o9),(101,.int .i64 ((x.dones.length : Nat) : Int)),(102,.int .i64 ((k : Nat) : Int))]) (fun (k : Nat) w'=>Ext w w' ∧ w14.heap.size ≤ w'.heap.size ∧ Blk w' b1 ([o1,.int .i64 g.workers,.int .i64 g.cap]) ∧ Blk w' b2 ([o2,o3,o4,o5,o6,o7,o8,o9]) ∧ k ≤ x.dones.length ∧ H8 k (fun j=>Ga x.dones j) = true) (fun (k : Nat)=>x.dones.length - k) 0 ⟨Z,Z,Z,Z,Z,trivial⟩ ⟨E,Nat.le_refl _,h1,h2,Nat.zero_le _,Z⟩ ?_)))))))))
     clear E h1 h2
     rintro k w16 ⟨E,z14,h1,h2,hk,hI3⟩
     refine Qf (Qh [true] Z Z (Qa (Yf Z Z) Z (Qd (Qf (Qs Z (fun hc7=>?_) (fun hc7=>?_))))))
     ·have hc7n : k < x.dones.length:=by first | (have h:=of_decide_eq_true hc7;omega) | (have h:=hc7;simp at h;omega)
      refine Qn (Qf (Q0 (Qf (Qh [true,true,true,false,true,false] Z Z (Qa (Qc Z) Z ?_)))))
      have hi3 : k < x.dones.length:=(by first | assumption | omega | (simp only [List.length_set];first | assumption | omega))
      refine Qa (Q1 (i:=k) Cc Z Z (hd9.rd.ext E) hi3) Z (Qa (Qt Ty Z ((hd9.rd.ext E).get hi3) Z) Z (Yk Ty Z (fun b4 w17 e10 s4 h4=>?_)))
      have g_b4 : w.heap.size ≤ b4:=by have:=E.size;omega
      have y_b4:=h4.lt
      replace E:=E.trans e10;replace h1:=h1.ext e10;replace h2:=h2.ext e10
      have z15:=e10.size
      refine Qa (Qe Z) Z (Q6 (cs':=[.int .i64 ((x.dones[k]'hi3).epoch),.bool ((x.dones[k]'hi3).capped)]) Ty Z Z Z Z h4 (Nat.le_of_ble_eq_true Z) Z (fun w18 m2 h4'=>?_))
      replace h4:=h4'
      replace E:=E.step m2 (fun g hg=>by cases hg;omega);replace h1:=h1.mod m2 (fun g hg=>by cases hg;omega);replace h2:=h2.mod m2 (fun g hg=>by cases hg;omega)
      have z16:=m2.size
      refine Qd (Qf (Xj Xi [(0,true),(1,true),(2,false),(3,true),(4,true),(5,true),(6,true),(7,true),(8,true),(9,true),(10,true),(11,false),(12,true)] (by decide +kernel) Z (fun w19 e11=>?_)))
      replace E:=E.trans e11;replace h1:=h1.ext e11;replace h2:=h2.ext e11;replace h4:=h4.ext e11
      have z17:=e11.size
      refine Qa (Qb V9 Z) Z (Qa (Qj Yo Z (h4.one 0 Z)) Z (Qv Tryz.call58 Z (c_within ((x.dones[k]'hi3).epoch) 0 3 _ ) Z (fun _ w20 e12 hv=>?_)))
      subst hv
      replace E:=E.trans e12;replace h1:=h1.ext e12;replace h2:=h2.ext e12;replace h4:=h4.ext e12
      have z18:=e12.size
      refine Qa (Yq Z) Z (Qa (Qc Z) Z (Y7 8 [(3,.pointer (some ⟨b2,0,none⟩)),(4,.bool false),(9,.int .i64 ((k : Nat) : Int)),(10,.pointer (some ⟨b4,0,none⟩)),(100,o9),(101,.int .i64 ((x.dones.length : Nat) : Int)),(102,.int .i64 ((k : Nat) : Int)),(103,.bool (decide (((k : Nat) : Int) < ((x.dones.length : Nat) : Int)))),(104,.int .i64 ((k : Nat) : Int)),(105,.pointer (some ⟨Xf o9,Xm o9 + k * 2,none⟩)),(106,.agg (Enc.enc (x.dones[k]'hi3)).toArray),(119,.bool ((!(Yw ((x.dones[k]'hi3).epoch) 0 3)) || ((List.take k x.dones).any (fun d=>d.epoch == ((x.dones[k]'hi3).epoch)))))] (fun w'=>Ext w w' ∧ w20.heap.size ≤ w'.heap.size ∧ Blk w' b1 ([o1,.int .i64 g.workers,.int .i64 g.cap]) ∧ Blk w' b2 ([o2,o3,o4,o5,o6,o7,o8,o9]) ∧ Blk w' b4 [.int .i64 ((x.dones[k]'hi3).epoch),.bool ((x.dones[k]'hi3).capped)]) ?_ ?_))
      ·refine Y3 (gd:=111) Z Z (fun hg9=>?_) (fun hg9=>?_)
       ·refine Qg Z Z Z Z (Qg Z Z Z Z (Qg Z Z Z Z (Qg Z Z Z Z (Qg Z Z Z Z (Qg Z Z Z Z ?_)))))
        refine Yp Z Z Z Z ?_
        refine Qa (Qx Z Z) Z (Qp ⟨Z,Z,Z,Z,Z,Z,Z,Z,Z,Z,Z,congrArg (fun b=>some (Value.bool b)) (show true = ((!(Yw ((x.dones[k]'hi3).epoch) 0 3)) || ((List.take k x.dones).any (fun d=>d.epoch == ((x.dones[k]'hi3).epoch)))) by first | (rw [hg9] <;> rfl) | (simp [hg9];done) | (simp only [Qo] <;> simp)),trivial⟩ ⟨E,(by omega),h1,h2,h4⟩)
       ·refine Qm Z Z (Qb Gk Z) Z (Qm Z Z (Qj A0 Z (h2.one 7 Z)) Z (Qm Z Z (Qc Z) Z ?_))
        have hk1 : k ≤ x.dones.length:=by first | assumption | omega
        have hs1 : RdD (α:=Done) w 0 w.heap.size (slTo o9 k) (List.take k x.dones):=RdB.slTo hd9 hk1
        refine Qm Z Z (Bc Cc Z Z (RdL.room (hd9.ext E).1) hk1) Z (Qm Z Z (Qb V9 Z) Z (Qm Z Z (Qj Yo Z (h4.one 0 Z)) Z ?_))
        refine Xp Z Z ?_
        refine Qv Tryz.call113 Z (c_doneAt (slTo o9 k) (List.take k x.dones) ((x.dones[k]'hi3).epoch) _ (hs1.rd.ext E)) Z (fun _ w22 e13 hv=>?_)
        subst hv
        replace E:=E.trans e13;replace h1:=h1.ext e13;replace h2:=h2.ext e13;replace h4:=h4.ext e13
        have z19:=e13.size
        refine Qa (Qy Z Z) Z (Qp ⟨Z,Z,Z,Z,Z,Z,Z,Z,Z,Z,Z,congrArg (fun b=>some (Value.bool b)) (show ((List.take k x.dones).any (fun d=>d.epoch == ((x.dones[k]'hi3).epoch))) = ((!(Yw ((x.dones[k]'hi3).epoch) 0 3)) || ((List.take k x.dones).any (fun d=>d.epoch == ((x.dones[k]'hi3).epoch)))) by first | (rw [hg9] <;> rfl) | (simp [hg9];done) | (simp only [Qo] <;> simp)),trivial⟩ ⟨E,(by omega),h1,h2,h4⟩)
      clear E h1 h2 h4
      rintro w21 ⟨E,z20,h1,h2,h4⟩
      refine Qd (Qs Z (fun hc8=>?_) (fun hc8=>?_))
      ·refine Qf (Qh [true] Z Z (Qa (Qe Z) Z (Qd (Qw (Q2 (Y0 (Q2 (Ql Z Z E ?_))))))))
       exact bf fun h=>by simp only [Xc,Bool.and_eq_true] at h;obtain ⟨⟨⟨⟨⟨⟨⟨⟨⟨q1,q2⟩,q3⟩,q4⟩,q5⟩,q6⟩,q7⟩,q8⟩,q9⟩,q10⟩:=h;have:=Ho q10 (by assumption);rw [Gx (by assumption),hc8] at this;cases this
      ·refine Qn (Q4 (Yr (Qh [true,true] Z Z (Qa (Q8 Z Z (Yt hc7n (hd9.ext E).1.1)) Z (Qa (Qc Z) Z (Qd (Q4 (Yc (k + 1) (by omega) ⟨Z,Z,Z,Z,Z,trivial⟩ ⟨E,(by omega),h1,h2,(by omega),Bb hI3 ((Gx (by assumption)).trans (congrArg not hc8))⟩))))))))
     ·have hc7n : ¬ k < x.dones.length:=by first | (have h:=of_decide_eq_false hc7;omega) | (have h:=hc7;simp at h;omega)
      refine Yn (Q5 (Q3 ?_))
      refine Qf (Qh [true] Z Z (Qa (Qe Z) Z (Qd (Qw (Ql Z Z E ?_)))))
      exact wk_yes1 hc1 (Cq hI1 (by omega)) hc4 (He hI2 (by omega)) (Cq hI3 (by omega))

set_option maxHeartbeats 4000000 in
set_option maxRecDepth 20000 in
theorem s_WorkerOk (cg : List Value) (g : Graph) (cx : List Value) (x : Worker) (w : World) (hg : Dat.R w 0 w.heap.size cg g) (hx : Dat.R w 0 w.heap.size cx x) : Ct Tryz.prog 90 [.agg cg.toArray,.agg cx.toArray] w (fun v _=>v = .bool (Xc g x)):=by
 refine Yh Tryz.func90 Z Tryz.ntmps90 Z ?_
 obtain ⟨o1,rfl,hd1⟩:=Graph.op hg
 obtain ⟨o2,o3,o4,o5,o6,o7,o8,o9,rfl,hd2,hd3,hd4,hd5,hd6,hd7,hd8,hd9⟩:=Worker.op hx
 refine Q7 [(0,.agg [o1,.int .i64 g.workers,.int .i64 g.cap].toArray),(1,.agg [o2,o3,o4,o5,o6,o7,o8,o9].toArray)] ⟨Z,Z,trivial⟩ ?_
 have E : Ext w w:=Ext.refl w
 refine Qf (Qh [false,false,true] Z Z (Y1 Z Z (fun b1 w1 e1 s1 h1=>?_)))
 have g_b1 : w.heap.size ≤ b1:=by have:=E.size;omega
 have y_b1:=h1.lt
 replace E:=E.trans e1
 have z1:=e1.size
 refine Y1 Z Z (fun b2 w2 e2 s2 h2=>?_)
 have g_b2 : w.heap.size ≤ b2:=by have:=E.size;omega
 have y_b2:=h2.lt
 replace E:=E.trans e2;replace h1:=h1.ext e2
 have z2:=e2.size
 refine Qa (Qe Z) Z (Qd (Qf (Qh [true] Z Z (Qa (Qe Z) Z (Qd (Qf (Qf (Qh [true,true,true,false,true,true,true,true,true,false,true,true,true,true,true,true,false,true,true,true,true,true,false,true,true,true,true,true,true,true,true,true,true,true,true,true,true,true,true,true,true,true,true,true,true,true] Z Z (Qa (Qt Km Z h1.at Z) Z (Qa (Qb Vd Z) Z (Qa (Qj Xy Z (h2.one 0 Z)) Z (Qv Tryz.call92 Z (s_l12Records [o1,.int .i64 g.workers,.int .i64 g.cap] g o2 x.queue _ (Graph.mkR g (RdD.any (hd1.ext E))) (hd2.rd.ext E)) Z (fun _ w3 e3 hv=>?_)))))))))))))
 subst hv
 replace E:=E.trans e3;replace h1:=h1.ext e3;replace h2:=h2.ext e3
 have z3:=e3.size
 refine Qa (Yq Z) Z (Qa (Qc Z) Z (Y7 40 [(0,.agg [o1,.int .i64 g.workers,.int .i64 g.cap].toArray),(1,.agg [o2,o3,o4,o5,o6,o7,o8,o9].toArray),(2,.pointer (some ⟨b1,0,none⟩)),(3,.pointer (some ⟨b2,0,none⟩)),(4,.bool false),(5,.int .i64 4),(55,.bool (((((((!(x.queue.all (Xr g))) || (!(x.staged.all (Xr g)))) || (!(x.inputs.all (Xr g)))) || (!((T5 x.cells).all Ko))) || (((x.sums.length : Nat) : Int) != 4)) || (((x.black.length : Nat) : Int) != 4)) || (((x.caps.length : Nat) : Int) != 4)))] (fun w'=>Ext w w' ∧ w3.heap.size ≤ w'.heap.size ∧ Blk w' b1 ([o1,.int .i64 g.workers,.int .i64 g.cap]) ∧ Blk w' b2 ([o2,o3,o4,o5,o6,o7,o8,o9])) ?_ ?_))
 ·refine Y3 (gd:=15) Z Z (fun hg1=>?_) (fun hg1=>?_)
  ·refine Qg Z Z Z Z (Qg Z Z Z Z (Qg Z Z Z Z ?_))
   refine Yp Z Z Z Z ?_
   refine Qg Z Z Z Z (Qa (Qx Z Z) Z (Qa (Qc Z) Z (Qg Z Z Z Z (Qg Z Z Z Z (Qg Z Z Z Z ?_)))))
   refine Yp Z Z Z Z ?_
   refine Qg Z Z Z Z (Qa (Qx Z Z) Z (Qa (Qc Z) Z (Qg Z Z Z Z (Qg Z Z Z Z ?_))))
   refine Yp Z Z Z Z ?_
   refine Qg Z Z Z Z (Qa (Qx Z Z) Z (Qa (Qc Z) Z (Qg Z Z Z Z (Qg Z Z Z Z (Qg Z Z Z Z (Qg Z Z Z Z (Qg Z Z Z Z (Qa (Qx Z Z) Z (Qa (Qc Z) Z (Qg Z Z Z Z (Qg Z Z Z Z (Qg Z Z Z Z (Qg Z Z Z Z (Qg Z Z Z Z (Qa (Qx Z Z) Z (Qa (Qc Z) Z (Qg Z Z Z Z (Qg Z Z Z Z (Qg Z Z Z Z (Qg Z Z Z Z (Qg Z Z Z Z (Qa (Qx Z Z) Z (Qp ⟨Z,Z,Z,Z,Z,Z,congrArg (fun b=>some (Value.bool b)) (show true = (((((((!(x.queue.all (Xr g))) || (!(x.staged.all (Xr g)))) || (!(x.inputs.all (Xr g)))) || (!((T5 x.cells).all Ko))) || (((x.sums.length : Nat) : Int) != 4)) || (((x.black.length : Nat) : Int) != 4)) || (((x.caps.length : Nat) : Int) != 4)) by first | (rw [hg1] <;> rfl) | (simp [hg1];done) | (simp only [Qo] <;> simp)),trivial⟩ ⟨E,(by omega),h1,h2⟩)))))))))))))))))))))))
  ·refine Qm Z Z (Qt Km Z h1.at Z) Z (Qm Z Z (Qb Gm Z) Z (Qm Z Z (Qj Xy Z (h2.one 1 Z)) Z ?_))
   refine Xp Z Z ?_
   refine Qv Tryz.call92 Z (s_l12Records [o1,.int .i64 g.workers,.int .i64 g.cap] g o3 x.staged _ (Graph.mkR g (RdD.any (hd1.ext E))) (hd3.rd.ext E)) Z (fun _ w5 e4 hv=>?_)
   subst hv
   replace E:=E.trans e4;replace h1:=h1.ext e4;replace h2:=h2.ext e4
   have z4:=e4.size
   refine Qm Z Z (Yq Z) Z (Qa (Qy Z Z) Z (Qa (Qc Z) Z ?_))
   refine Y3 (gd:=22) Z Z (fun hg2=>?_) (fun hg2=>?_)
   ·refine Qg Z Z Z Z (Qg Z Z Z Z (Qg Z Z Z Z ?_))
    refine Yp Z Z Z Z ?_
    refine Qg Z Z Z Z (Qa (Qx Z Z) Z (Qa (Qc Z) Z (Qg Z Z Z Z (Qg Z Z Z Z ?_))))
    refine Yp Z Z Z Z ?_
    refine Qg Z Z Z Z (Qa (Qx Z Z) Z (Qa (Qc Z) Z (Qg Z Z Z Z (Qg Z Z Z Z (Qg Z Z Z Z (Qg Z Z Z Z (Qg Z Z Z Z (Qa (Qx Z Z) Z (Qa (Qc Z) Z (Qg Z Z Z Z (Qg Z Z Z Z (Qg Z Z Z Z (Qg Z Z Z Z (Qg Z Z Z Z (Qa (Qx Z Z) Z (Qa (Qc Z) Z (Qg Z Z Z Z (Qg Z Z Z Z (Qg Z Z Z Z (Qg Z Z Z Z (Qg Z Z Z Z (Qa (Qx Z Z) Z (Qp ⟨Z,Z,Z,Z,Z,Z,congrArg (fun b=>some (Value.bool b)) (show true = (((((((!(x.queue.all (Xr g))) || (!(x.staged.all (Xr g)))) || (!(x.inputs.all (Xr g)))) || (!((T5 x.cells).all Ko))) || (((x.sums.length : Nat) : Int) != 4)) || (((x.black.length : Nat) : Int) != 4)) || (((x.caps.length : Nat) : Int) != 4)) by first | (rw [hg1,hg2] <;> rfl) | (simp [hg1,hg2];done) | (simp only [Qo] <;> simp)),trivial⟩ ⟨E,(by omega),h1,h2⟩)))))))))))))))))))))))
   ·refine Qm Z Z (Qt Km Z h1.at Z) Z (Qm Z Z (Qb Vj Z) Z (Qm Z Z (Qj Xy Z (h2.one 2 Z)) Z ?_))
    refine Xp Z Z ?_
    refine Qv Tryz.call92 Z (s_l12Records [o1,.int .i64 g.workers,.int .i64 g.cap] g o4 x.inputs _ (Graph.mkR g (RdD.any (hd1.ext E))) (hd4.rd.ext E)) Z (fun _ w6 e5 hv=>?_)
    subst hv
    replace E:=E.trans e5;replace h1:=h1.ext e5;replace h2:=h2.ext e5
    have z5:=e5.size
    refine Qm Z Z (Yq Z) Z (Qa (Qy Z Z) Z (Qa (Qc Z) Z ?_))
    refine Y3 (gd:=29) Z Z (fun hg3=>?_) (fun hg3=>?_)
    ·refine Qg Z Z Z Z (Qg Z Z Z Z ?_)
     refine Yp Z Z Z Z ?_
     refine Qg Z Z Z Z (Qa (Qx Z Z) Z (Qa (Qc Z) Z (Qg Z Z Z Z (Qg Z Z Z Z (Qg Z Z Z Z (Qg Z Z Z Z (Qg Z Z Z Z (Qa (Qx Z Z) Z (Qa (Qc Z) Z (Qg Z Z Z Z (Qg Z Z Z Z (Qg Z Z Z Z (Qg Z Z Z Z (Qg Z Z Z Z (Qa (Qx Z Z) Z (Qa (Qc Z) Z (Qg Z Z Z Z (Qg Z Z Z Z (Qg Z Z Z Z (Qg Z Z Z Z (Qg Z Z Z Z (Qa (Qx Z Z) Z (Qp ⟨Z,Z,Z,Z,Z,Z,congrArg (fun b=>some (Value.bool b)) (show true = (((((((!(x.queue.all (Xr g))) || (!(x.staged.all (Xr g)))) || (!(x.inputs.all (Xr g)))) || (!((T5 x.cells).all Ko))) || (((x.sums.length : Nat) : Int) != 4)) || (((x.black.length : Nat) : Int) != 4)) || (((x.caps.length : Nat) : Int) != 4)) by first | (rw [hg1,hg2,hg3] <;> rfl) | (simp [hg1,hg2,hg3];done) | (simp only [Qo] <;> simp)),trivial⟩ ⟨E,(by omega),h1,h2⟩)))))))))))))))))))))))
    ·refine Qm Z Z (Qb Gl Z) Z (Qm Z Z (Qj A1 Z (h2.one 3 Z)) Z ?_)
     refine Xp Z Z ?_
     refine Qv Tryz.call126 Z (s_CellsOk o5 x.cells _ (hd5.rd.ext E)) Z (fun _ w7 e6 hv=>?_)
     subst hv
     replace E:=E.trans e6;replace h1:=h1.ext e6;replace h2:=h2.ext e6
     have z6:=e6.size
     refine Qm Z Z (Yq Z) Z (Qa (Qy Z Z) Z (Qa (Qc Z) Z ?_))
     refine Y3 (gd:=35) Z Z (fun hg4=>?_) (fun hg4=>?_)
     ·refine Qg Z Z Z Z (Qg Z Z Z Z (Qg Z Z Z Z (Qg Z Z Z Z (Qg Z Z Z Z (Qa (Qx Z Z) Z (Qa (Qc Z) Z (Qg Z Z Z Z (Qg Z Z Z Z (Qg Z Z Z Z (Qg Z Z Z Z (Qg Z Z Z Z (Qa (Qx Z Z) Z (Qa (Qc Z) Z (Qg Z Z Z Z (Qg Z Z Z Z (Qg Z Z Z Z (Qg Z Z Z Z (Qg Z Z Z Z (Qa (Qx Z Z) Z (Qp ⟨Z,Z,Z,Z,Z,Z,congrArg (fun b=>some (Value.bool b)) (show true = (((((((!(x.queue.all (Xr g))) || (!(x.staged.all (Xr g)))) || (!(x.inputs.all (Xr g)))) || (!((T5 x.cells).all Ko))) || (((x.sums.length : Nat) : Int) != 4)) || (((x.black.length : Nat) : Int) != 4)) || (((x.caps.length : Nat) : Int) != 4)) by first | (rw [hg1,hg2,hg3,hg4] <;> rfl) | (simp [hg1,hg2,hg3,hg4];done) | (simp only [Qo] <;> simp)),trivial⟩ ⟨E,(by omega),h1,h2⟩))))))))))))))))))))
     ·refine Qm Z Z (Qb Hm Z) Z (Qm Z Z (Qj Ke Z (h2.one 4 Z)) Z (Qm Z Z (Ya Tryz.underlying66 Z (hd6.ext E).len) Z (Qm Z Z (Qc Z) Z (Qm Z Z (Yu Z Z) Z (Qa (Qy Z Z) Z (Qa (Qc Z) Z ?_))))))
      refine Y3 (gd:=42) Z Z (fun hg5=>?_) (fun hg5=>?_)
      ·have hg5n : ¬ x.sums.length = 4:=by first | (have h:=of_decide_eq_true hg5;omega) | (have h:=hg5;simp at h;omega)
       refine Qg Z Z Z Z (Qg Z Z Z Z (Qg Z Z Z Z (Qg Z Z Z Z (Qg Z Z Z Z (Qa (Qx Z Z) Z (Qa (Qc Z) Z (Qg Z Z Z Z (Qg Z Z Z Z (Qg Z Z Z Z (Qg Z Z Z Z (Qg Z Z Z Z (Qa (Qx Z Z) Z (Qp ⟨Z,Z,Z,Z,Z,Z,congrArg (fun b=>some (Value.bool b)) (show true = (((((((!(x.queue.all (Xr g))) || (!(x.staged.all (Xr g)))) || (!(x.inputs.all (Xr g)))) || (!((T5 x.cells).all Ko))) || (((x.sums.length : Nat) : Int) != 4)) || (((x.black.length : Nat) : Int) != 4)) || (((x.caps.length : Nat) : Int) != 4)) by first | (rw [hg1,hg2,hg3,hg4,hg5] <;> rfl) | (simp [hg1,hg2,hg3,hg4,hg5];done) | (simp only [Qo] <;> simp)),trivial⟩ ⟨E,(by omega),h1,h2⟩)))))))))))))
      ·have hg5n : x.sums.length = 4:=by first | (have h:=of_decide_eq_false hg5;omega) | (have h:=hg5;simp at h;omega)
       refine Qm Z Z (Qb Ts Z) Z (Qm Z Z (Qj G5 Z (h2.one 5 Z)) Z (Qm Z Z (Ya Tryz.underlying67 Z (hd7.ext E).len) Z (Qm Z Z (Qc Z) Z (Qm Z Z (Yu Z Z) Z (Qa (Qy Z Z) Z (Qa (Qc Z) Z ?_))))))
       refine Y3 (gd:=49) Z Z (fun hg6=>?_) (fun hg6=>?_)
       ·have hg6n : ¬ x.black.length = 4:=by first | (have h:=of_decide_eq_true hg6;omega) | (have h:=hg6;simp at h;omega)
        refine Qg Z Z Z Z (Qg Z Z Z Z (Qg Z Z Z Z (Qg Z Z Z Z (Qg Z Z Z Z (Qa (Qx Z Z) Z (Qp ⟨Z,Z,Z,Z,Z,Z,congrArg (fun b=>some (Value.bool b)) (show true = (((((((!(x.queue.all (Xr g))) || (!(x.staged.all (Xr g)))) || (!(x.inputs.all (Xr g)))) || (!((T5 x.cells).all Ko))) || (((x.sums.length : Nat) : Int) != 4)) || (((x.black.length : Nat) : Int) != 4)) || (((x.caps.length : Nat) : Int) != 4)) by first | (rw [hg1,hg2,hg3,hg4,hg5,hg6] <;> rfl) | (simp [hg1,hg2,hg3,hg4,hg5,hg6];done) | (simp only [Qo] <;> simp)),trivial⟩ ⟨E,(by omega),h1,h2⟩))))))
       ·have hg6n : x.black.length = 4:=by first | (have h:=of_decide_eq_false hg6;omega) | (have h:=hg6;simp at h;omega)
        refine Qm Z Z (Qb Hl Z) Z (Qm Z Z (Qj G5 Z (h2.one 6 Z)) Z (Qm Z Z (Ya Tryz.underlying67 Z (hd8.ext E).len) Z (Qm Z Z (Qc Z) Z (Qm Z Z (Yu Z Z) Z (Qa (Qy Z Z) Z (Qp ⟨Z,Z,Z,Z,Z,Z,congrArg (fun b=>some (Value.bool b)) (show (((x.caps.length : Nat) : Int) != 4) = (((((((!(x.queue.all (Xr g))) || (!(x.staged.all (Xr g)))) || (!(x.inputs.all (Xr g)))) || (!((T5 x.cells).all Ko))) || (((x.sums.length : Nat) : Int) != 4)) || (((x.black.length : Nat) : Int) != 4)) || (((x.caps.length : Nat) : Int) != 4)) by first | (rw [hg1,hg2,hg3,hg4,hg5,hg6] <;> rfl) | (simp [hg1,hg2,hg3,hg4,hg5,hg6];done) | (simp only [Qo] <;> simp)),trivial⟩ ⟨E,(by omega),h1,h2⟩))))))
 clear E h1 h2
 rintro w4 ⟨E,z7,h1,h2⟩
 refine Qd (Qs Z (fun hc1=>?_) (fun hc1=>?_))
 ·refine Qf (Qh [true] Z Z (Qa (Qe Z) Z (Qd (Qw (Ql Z Z E ?_)))))
  exact bf fun h=>by simp only [Xc,Bool.and_eq_true] at h;obtain ⟨⟨⟨⟨⟨⟨⟨⟨⟨q1,q2⟩,q3⟩,q4⟩,q5⟩,q6⟩,q7⟩,q8⟩,q9⟩,q10⟩:=h;simp only [beq_iff_eq] at q6 q7 q8;simp only [q1,q2,q3,q4,q6,q7,q8] at hc1;simp at hc1
 ·refine Qn (Qf (Qf (Qh [true] Z Z (Qa (Qe Z) Z (Qd (Q0 (Ym (fun (k : Nat)=>[(3,.pointer (some ⟨b2,0,none⟩)),(4,.bool false),(5,.int .i64 4),(6,.int .i64 ((k : Nat) : Int))]) (fun (k : Nat) w'=>Ext w w' ∧ w4.heap.size ≤ w'.heap.size ∧ Blk w' b1 ([o1,.int .i64 g.workers,.int .i64 g.cap]) ∧ Blk w' b2 ([o2,o3,o4,o5,o6,o7,o8,o9]) ∧ k ≤ x.inputs.length ∧ H8 k (fun j=>inAt x.inputs j) = true) (fun (k : Nat)=>x.inputs.length - k) 0 ⟨Z,Z,Z,Z,trivial⟩ ⟨E,Nat.le_refl _,h1,h2,Nat.zero_le _,Z⟩ ?_)))))))
  clear E h1 h2
  rintro k w8 ⟨E,z8,h1,h2,hk,hI1⟩
  have hmi:=hd4.1.1
  unfold maxLen at hmi
  refine Qf (Qf (Qh [true,true,true,true,true] Z Z (Qa (Qc Z) Z (Qa (Qb Vj Z) Z (Qa (Qj Xy Z (h2.one 2 Z)) Z (Qa (Ya Tryz.underlying64 Z (hd4.ext E).len) Z (Qa (Yf Z Z) Z (Qd (Qs Z (fun hc2=>?_) (fun hc2=>?_))))))))))
  ·have hc2n : k < x.inputs.length:=by first | (have h:=of_decide_eq_true hc2;omega) | (have h:=hc2;simp at h;omega)
   refine Qn (Qf (Q0 (Qf (Xj Xi [(0,true),(1,true),(2,true),(3,true),(4,true),(5,true),(6,true),(7,true),(8,true),(9,true),(10,true),(11,true),(12,true),(13,true),(14,true),(15,true),(16,true),(17,true),(18,true),(19,true),(20,true),(21,true),(22,true),(23,true),(24,true),(25,true),(26,true),(27,true),(28,true),(29,true),(30,true),(31,true),(32,true),(33,true),(34,true),(35,true),(36,true),(37,true),(38,true)] (by decide +kernel) Z (fun w9 e7=>?_)))))
   replace E:=E.trans e7;replace h1:=h1.ext e7;replace h2:=h2.ext e7
   have z9:=e7.size
   refine Qa (Qb Vj Z) Z (Qa (Qj Xy Z (h2.one 2 Z)) Z (Qa (Qc Z) Z ?_))
   have hi1 : k < x.inputs.length:=(by first | assumption | omega | (simp only [List.length_set];first | assumption | omega))
   refine Qa (Q1 (i:=k) Kn Z Z (hd4.rd.ext E) hi1) Z (Qa (Qz Uy Z) Z (Qa (Qj Yo Z (((hd4.rd.ext E).get hi1).one 0 Z)) Z (Qa (Yu Z Z) Z (Qa (Qc Z) Z (Y7 31 [(3,.pointer (some ⟨b2,0,none⟩)),(4,.bool false),(5,.int .i64 4),(6,.int .i64 ((k : Nat) : Int)),(56,.int .i64 ((k : Nat) : Int)),(57,.pointer (some ⟨b2,2,none⟩)),(58,o4),(59,.int .i64 ((x.inputs.length : Nat) : Int)),(60,.bool (decide (((k : Nat) : Int) < ((x.inputs.length : Nat) : Int)))),(101,.bool (((((x.inputs[k]'hi1).op) != 0) || ((((x.inputs[k]'hi1).stamp).turn) != 0)) || ((decide (0 < ((k : Nat) : Int))) && (decide ((((x.inputs[k]'hi1).stamp).epoch) < (((List.getD x.inputs (k - 1) default).stamp).epoch))))))] (fun w'=>w9 = w') ?_ ?_)))))
   ·refine Y3 (gd:=70) Z Z (fun hg7=>?_) (fun hg7=>?_)
    ·refine Qg Z Z Z Z (Qg Z Z Z Z (Qg Z Z Z Z (Qg Z Z Z Z (Qg Z Z Z Z (Qg Z Z Z Z (Qg Z Z Z Z (Qg Z Z Z Z (Qa (Qx Z Z) Z (Qa (Qc Z) Z (Qg Z Z Z Z (Qg Z Z Z Z (Qg Z Z Z Z (Q9 Z Z Z (Q9 Z Z Z (Q9 Z Z Z (Q9 Z Z Z (Q9 Z Z Z (Q9 Z Z Z (Q9 Z Z Z (Q9 Z Z Z (Q9 Z Z Z (Q9 Z Z Z (Q9 Z Z Z (Q9 Z Z Z (Q9 Z Z Z (Q9 Z Z Z (Q9 Z Z Z (Q9 Z Z Z (Qg Z Z Z Z (Qa (Qx Z Z) Z (Qp ⟨Z,Z,Z,Z,Z,Z,Z,Z,Z,congrArg (fun b=>some (Value.bool b)) (show true = (((((x.inputs[k]'hi1).op) != 0) || ((((x.inputs[k]'hi1).stamp).turn) != 0)) || ((decide (0 < ((k : Nat) : Int))) && (decide ((((x.inputs[k]'hi1).stamp).epoch) < (((List.getD x.inputs (k - 1) default).stamp).epoch))))) by first | (rw [hg7] <;> rfl) | (simp [hg7];done) | (simp only [Qo] <;> simp)),trivial⟩ Z)))))))))))))))))))))))))))))))
    ·refine Qm Z Z (Qb Vj Z) Z (Qm Z Z (Qj Xy Z (h2.one 2 Z)) Z (Qm Z Z (Qc Z) Z (Qm Z Z (Q1 (i:=k) Kn Z Z (hd4.rd.ext E) hi1) Z (Qm Z Z (Qz Kx Z) Z (Qm Z Z (Qz V8 Z) Z (Qm Z Z (Qj Yo Z (((hd4.rd.ext E).get hi1).one 2 Z)) Z (Qm Z Z (Yu Z Z) Z (Qa (Qy Z Z) Z (Qa (Qc Z) Z ?_)))))))))
     refine Y3 (gd:=80) Z Z (fun hg8=>?_) (fun hg8=>?_)
     ·refine Qg Z Z Z Z (Qg Z Z Z Z (Qg Z Z Z Z (Q9 Z Z Z (Q9 Z Z Z (Q9 Z Z Z (Q9 Z Z Z (Q9 Z Z Z (Q9 Z Z Z (Q9 Z Z Z (Q9 Z Z Z (Q9 Z Z Z (Q9 Z Z Z (Q9 Z Z Z (Q9 Z Z Z (Q9 Z Z Z (Q9 Z Z Z (Q9 Z Z Z (Q9 Z Z Z (Qg Z Z Z Z (Qa (Qx Z Z) Z (Qp ⟨Z,Z,Z,Z,Z,Z,Z,Z,Z,congrArg (fun b=>some (Value.bool b)) (show true = (((((x.inputs[k]'hi1).op) != 0) || ((((x.inputs[k]'hi1).stamp).turn) != 0)) || ((decide (0 < ((k : Nat) : Int))) && (decide ((((x.inputs[k]'hi1).stamp).epoch) < (((List.getD x.inputs (k - 1) default).stamp).epoch))))) by first | (rw [hg7,hg8] <;> rfl) | (simp [hg7,hg8];done) | (simp only [Qo] <;> simp)),trivial⟩ Z)))))))))))))))))))))
     ·refine Qm Z Z (Qc Z) Z (Qm Z Z (V0 Z Z) Z (Qm Z Z (Qc Z) Z ?_))
      refine Y3 (gd:=83) Z Z (fun hg9=>?_) (fun hg9=>?_)
      ·have hg9n : k > 0:=by first | (have h:=of_decide_eq_true hg9;omega) | (have h:=hg9;simp at h;omega)
       refine Qm Z Z (Qb Vj Z) Z (Qm Z Z (Qj Xy Z (h2.one 2 Z)) Z (Qm Z Z (Qc Z) Z (Qm Z Z (Uu Z Z (sub_nat (by omega) (by unfold maxLen;omega))) Z (Qm Z Z (Q1 (i:=(k - 1)) Kn Z Z (hd4.rd.ext E) (by first | assumption | omega | (simp only [List.length_set];first | assumption | omega))) Z (Qm Z Z (Qz Kx Z) Z (Qm Z Z (Qz Vi Z) Z (Qm Z Z (Qj Yo Z ((RdS.getD (hd4.rd.ext E) (i:=(k - 1)) (by first | assumption | omega | (simp only [List.length_set];first | assumption | omega))).one 1 Z)) Z (Qm Z Z (Qb Vj Z) Z (Qm Z Z (Qj Xy Z (h2.one 2 Z)) Z (Qm Z Z (Qc Z) Z (Qm Z Z (Q1 (i:=k) Kn Z Z (hd4.rd.ext E) hi1) Z (Qm Z Z (Qz Kx Z) Z (Qm Z Z (Qz Vi Z) Z (Qm Z Z (Qj Yo Z (((hd4.rd.ext E).get hi1).one 1 Z)) Z (Qm Z Z (V0 Z Z) Z (Qm Z Z (Qx Z Z) Z (Qa (Qy Z Z) Z (Qp ⟨Z,Z,Z,Z,Z,Z,Z,Z,Z,congrArg (fun b=>some (Value.bool b)) (show (decide ((((x.inputs[k]'hi1).stamp).epoch) < (((List.getD x.inputs (k - 1) default).stamp).epoch))) = (((((x.inputs[k]'hi1).op) != 0) || ((((x.inputs[k]'hi1).stamp).turn) != 0)) || ((decide (0 < ((k : Nat) : Int))) && (decide ((((x.inputs[k]'hi1).stamp).epoch) < (((List.getD x.inputs (k - 1) default).stamp).epoch))))) by first | (rw [hg7,hg8,hg9] <;> rfl) | (simp [hg7,hg8,hg9];done) | (simp only [Qo] <;> simp)),trivial⟩ Z))))))))))))))))))
      ·have hg9n : ¬ k > 0:=by first | (have h:=of_decide_eq_false hg9;omega) | (have h:=hg9;simp at h;omega)
       refine Qg Z Z Z Z (Qg Z Z Z Z (Qg Z Z Z Z (Qg Z Z Z Z (Qg Z Z Z Z (Qg Z Z Z Z (Qg Z Z Z Z (Qg Z Z Z Z (Qg Z Z Z Z (Qg Z Z Z Z (Qg Z Z Z Z (Qg Z Z Z Z (Qg Z Z Z Z (Qg Z Z Z Z (Qg Z Z Z Z (Qg Z Z Z Z (Qm Z Z (Qy Z Z) Z (Qa (Qy Z Z) Z (Qp ⟨Z,Z,Z,Z,Z,Z,Z,Z,Z,congrArg (fun b=>some (Value.bool b)) (show false = (((((x.inputs[k]'hi1).op) != 0) || ((((x.inputs[k]'hi1).stamp).turn) != 0)) || ((decide (0 < ((k : Nat) : Int))) && (decide ((((x.inputs[k]'hi1).stamp).epoch) < (((List.getD x.inputs (k - 1) default).stamp).epoch))))) by first | (rw [hg7,hg8,hg9] <;> rfl) | (simp [hg7,hg8,hg9];done) | (simp only [Qo] <;> simp)),trivial⟩ Z))))))))))))))))))
   rintro _ rfl
   refine Qd (Qs Z (fun hc3=>?_) (fun hc3=>?_))
   ·refine Qf (Qh [true] Z Z (Qa (Qe Z) Z (Qd (Qw (Q2 (Y0 (Q2 (Ql Z Z E ?_))))))))
    exact bf fun h=>by simp only [Xc,Bool.and_eq_true] at h;obtain ⟨⟨⟨⟨⟨⟨⟨⟨⟨q1,q2⟩,q3⟩,q4⟩,q5⟩,q6⟩,q7⟩,q8⟩,q9⟩,q10⟩:=h;have:=Ho q5 (by assumption);rw [Bw (by assumption),hc3] at this;cases this
   ·refine Qn (Q4 (Yr (Qh [true,true,true] Z Z (Qa (Qc Z) Z (Qa (Q8 Z Z (Yt hc2n (hd4.ext E).1.1)) Z (Qa (Qe Z) Z (Qd (Q4 (Yc (k + 1) (by omega) ⟨Z,Z,Z,Z,trivial⟩ ⟨E,(by omega),h1,h2,(by omega),Bb hI1 ((Bw (by assumption)).trans (congrArg not hc3))⟩)))))))))
  ·have hc2n : ¬ k < x.inputs.length:=by first | (have h:=of_decide_eq_false hc2;omega) | (have h:=hc2;simp at h;omega)
   refine Yn (Q5 (Q3 ?_))
   refine Qf (Qf (Qh [true] Z Z (Qa (Qe Z) Z (Qd (Q0 (Ym (fun (k : Nat)=>[(3,.pointer (some ⟨b2,0,none⟩)),(4,.bool false),(5,.int .i64 4),(7,.int .i64 ((k : Nat) : Int))]) (fun (k : Nat) w'=>Ext w w' ∧ w8.heap.size ≤ w'.heap.size ∧ Blk w' b1 ([o1,.int .i64 g.workers,.int .i64 g.cap]) ∧ Blk w' b2 ([o2,o3,o4,o5,o6,o7,o8,o9]) ∧ k ≤ 4 ∧ (x.sums.take k).all (Yw · (-1000000) 1000000) = true) (fun (k : Nat)=>4 - k) 0 ⟨Z,Z,Z,Z,trivial⟩ ⟨E,Nat.le_refl _,h1,h2,Nat.zero_le _,Z⟩ ?_))))))
   clear E h1 h2
   rintro k w11 ⟨E,z10,h1,h2,hk,hI2⟩
   have hs4:=wk_len hc1
   refine Qf (Qf (Qh [true,true,true] Z Z (Qa (Qc Z) Z (Qa (Qc Z) Z (Qa (Yf Z Z) Z (Qd (Qs Z (fun hc4=>?_) (fun hc4=>?_))))))))
   ·have hc4n : k < 4:=by first | (have h:=of_decide_eq_true hc4;omega) | (have h:=hc4;simp at h;omega)
    refine Qn (Qf (Q0 (Qf (Qh [true,true,true,true,true,false,true] Z Z (Qa (Qb Hm Z) Z (Qa (Qj Ke Z (h2.one 4 Z)) Z (Qa (Qc Z) Z ?_)))))))
    have hi2 : k < x.sums.length:=(by first | assumption | omega | (simp only [List.length_set];first | assumption | omega))
    refine Qa (Q1 (i:=k) Uv Z Z (hd6.rd.ext E) hi2) Z (Qa (Qj Yo Z (((hd6.rd.ext E).get hi2).one 0 Z)) Z (Qv Tryz.call93 Z (s_l01In (x.sums[k]'hi2) (-1000000) 1000000 _ ) Z (fun _ w12 e8 hv=>?_)))
    subst hv
    replace E:=E.trans e8;replace h1:=h1.ext e8;replace h2:=h2.ext e8
    have z11:=e8.size
    refine Qa (Yq Z) Z (Qd (Qs Z (fun hc5=>?_) (fun hc5=>?_)))
    ·refine Qf (Qh [true] Z Z (Qa (Qe Z) Z (Qd (Qw (Q2 (Y0 (Q2 (Ql Z Z E ?_))))))))
     exact bf fun h=>by simp only [Xc,Bool.and_eq_true] at h;obtain ⟨⟨⟨⟨⟨⟨⟨⟨⟨q1,q2⟩,q3⟩,q4⟩,q5⟩,q6⟩,q7⟩,q8⟩,q9⟩,q10⟩:=h;have:=List.all_eq_true.1 q9 _ (List.getElem_mem (by omega));simp only [this] at hc5;cases hc5
    ·refine Qn (Q4 (Yr (Qh [true,true,true] Z Z (Qa (Qc Z) Z (Qa (Q8 Z Z (Yt hc4n (by first | assumption | (unfold maxLen;omega)))) Z (Qa (Qe Z) Z (Qd (Q4 (Yc (k + 1) (by omega) ⟨Z,Z,Z,Z,trivial⟩ ⟨E,(by omega),h1,h2,(by omega),Kf hI2 (by omega) (by simpa using hc5)⟩)))))))))
   ·have hc4n : ¬ k < 4:=by first | (have h:=of_decide_eq_false hc4;omega) | (have h:=hc4;simp at h;omega)
    refine Yn (Q5 (Q3 ?_))
    refine Qf (Qf (Qh [true] Z Z (Qa (Qe Z) Z (Qd (Q0 (Ym (fun (i : Nat)=>[(3,.pointer (some ⟨b2,0,none⟩)),(4,.bool false),(8,.int .i64 ((i : Nat) : Int))]) (fun (i : Nat) w'=>Ext w w' ∧ w11.heap.size ≤ w'.heap.size ∧ Blk w' b1 ([o1,.int .i64 g.workers,.int .i64 g.cap]) ∧ Blk w' b2 ([o2,o3,o4,o5,o6,o7,o8,o9]) ∧ i ≤ x.dones.length ∧ H8 i (fun j=>Ga x.dones j) = true) (fun (i : Nat)=>x.dones.length - i) 0 ⟨Z,Z,Z,trivial⟩ ⟨E,Nat.le_refl _,h1,h2,Nat.zero_le _,Z⟩ ?_))))))
    clear E h1 h2
    rintro i w13 ⟨E,z12,h1,h2,hle,hI3⟩
    have hmd:=hd9.1.1
    unfold maxLen at hmd
    refine Qf (Qf (Qh [true,true,true,true,true] Z Z (Qa (Qc Z) Z (Qa (Qb Gk Z) Z (Qa (Qj A0 Z (h2.one 7 Z)) Z (Qa (Ya Tryz.underlying68 Z (hd9.ext E).len) Z (Qa (Yf Z Z) Z (Qd (Qs Z (fun hc6=>?_) (fun hc6=>?_))))))))))
    ·have hc6n : i < x.dones.length:=by first | (have h:=of_decide_eq_true hc6;omega) | (have h:=hc6;simp at h;omega)
     refine Qn (Qf (Q0 (Qf (Qf (Qh [true,true,true,true,true,true,false,true] Z Z (Qa (Qb Gk Z) Z (Qa (Qj A0 Z (h2.one 7 Z)) Z (Qa (Qc Z) Z ?_))))))))
     have hi3 : i < x.dones.length:=(by first | assumption | omega | (simp only [List.length_set];first | assumption | omega))
     refine Qa (Q1 (i:=i) Cc Z Z (hd9.rd.ext E) hi3) Z (Qa (Qz V9 Z) Z (Qa (Qj Yo Z (((hd9.rd.ext E).get hi3).one 0 Z)) Z (Qv Tryz.call93 Z (s_l01In ((x.dones[i]'hi3).epoch) 0 3 _ ) Z (fun _ w14 e9 hv=>?_))))
     subst hv
     replace E:=E.trans e9;replace h1:=h1.ext e9;replace h2:=h2.ext e9
     have z13:=e9.size
     refine Qa (Yq Z) Z (Qd (Qs Z (fun hc7=>?_) (fun hc7=>?_)))
     ·refine Qf (Qh [true] Z Z (Qa (Qe Z) Z (Qd (Qw (Q2 (Y0 (Q2 (Ql Z Z E ?_))))))))
      exact bf fun h=>by simp only [Xc,Bool.and_eq_true] at h;obtain ⟨⟨⟨⟨⟨⟨⟨⟨⟨q1,q2⟩,q3⟩,q4⟩,q5⟩,q6⟩,q7⟩,q8⟩,q9⟩,q10⟩:=h;have:=Ho q10 (by assumption);rw [Gx (by assumption)] at this;simp only [hc7,Bool.true_or] at this;cases this
     ·refine Qn (Qf (Qh [true] Z Z (Qa (Qe Z) Z (Qd (Q0 (Ym (fun (j : Nat)=>[(3,.pointer (some ⟨b2,0,none⟩)),(4,.bool false),(8,.int .i64 ((i : Nat) : Int)),(9,.int .i64 ((j : Nat) : Int))]) (fun (j : Nat) w'=>Ext w w' ∧ w14.heap.size ≤ w'.heap.size ∧ Blk w' b1 ([o1,.int .i64 g.workers,.int .i64 g.cap]) ∧ Blk w' b2 ([o2,o3,o4,o5,o6,o7,o8,o9]) ∧ j ≤ i ∧ (x.dones.take j).any (fun d=>d.epoch == (x.dones[i]'hi3).epoch) = false) (fun (j : Nat)=>i - j) 0 ⟨Z,Z,Z,Z,trivial⟩ ⟨E,Nat.le_refl _,h1,h2,Nat.zero_le _,Z⟩ ?_))))))
      clear E h1 h2
      rintro j w15 ⟨E,z14,h1,h2,hk,hJ⟩
      refine Qf (Qf (Qh [true,true,true] Z Z (Qa (Qc Z) Z (Qa (Qc Z) Z (Qa (Yf Z Z) Z (Qd (Qs Z (fun hc8=>?_) (fun hc8=>?_))))))))
      ·have hc8n : j < i:=by first | (have h:=of_decide_eq_true hc8;omega) | (have h:=hc8;simp at h;omega)
       refine Qn (Qf (Q0 (Qf (Xj Xi [(0,true),(1,true),(2,true),(3,true),(4,true),(5,true),(6,true),(7,true),(8,true),(9,true),(10,true),(11,true),(12,true)] (by decide +kernel) Z (fun w16 e10=>?_)))))
       replace E:=E.trans e10;replace h1:=h1.ext e10;replace h2:=h2.ext e10
       have z15:=e10.size
       refine Qa (Qb Gk Z) Z (Qa (Qj A0 Z (h2.one 7 Z)) Z (Qa (Qc Z) Z ?_))
       have hi4 : j < x.dones.length:=(by first | assumption | omega | (simp only [List.length_set];first | assumption | omega))
       refine Qa (Q1 (i:=j) Cc Z Z (hd9.rd.ext E) hi4) Z (Qa (Qz V9 Z) Z (Qa (Qj Yo Z (((hd9.rd.ext E).get hi4).one 0 Z)) Z (Qa (Qb Gk Z) Z (Qa (Qj A0 Z (h2.one 7 Z)) Z (Qa (Qc Z) Z (Qa (Q1 (i:=i) Cc Z Z (hd9.rd.ext E) hi3) Z (Qa (Qz V9 Z) Z (Qa (Qj Yo Z (((hd9.rd.ext E).get hi3).one 0 Z)) Z (Qa (Y6 Z Z) Z (Qd (Qs Z (fun hc9=>?_) (fun hc9=>?_))))))))))))
       ·refine Qf (Qh [true] Z Z (Qa (Qe Z) Z (Qd (Qw (Q2 (Y0 (Q2 (Q2 (Y0 (Q2 (Ql Z Z E ?_)))))))))))
        exact bf fun h=>by simp only [Xc,Bool.and_eq_true] at h;obtain ⟨⟨⟨⟨⟨⟨⟨⟨⟨q1,q2⟩,q3⟩,q4⟩,q5⟩,q6⟩,q7⟩,q8⟩,q9⟩,q10⟩:=h;have:=Ho (j:=i) q10 (by omega);exact done_n this (by omega) (by assumption)
       ·refine Qn (Q4 (Yr (Qh [true,true,true] Z Z (Qa (Qc Z) Z (Qa (Q8 Z Z (Yt hc8n (by first | assumption | (unfold maxLen;omega)))) Z (Qa (Qe Z) Z (Qd (Q4 (Yc (j + 1) (by omega) ⟨Z,Z,Z,Z,trivial⟩ ⟨E,(by omega),h1,h2,(by omega),Du hJ (by omega) (by assumption)⟩)))))))))
      ·have hc8n : ¬ j < i:=by first | (have h:=of_decide_eq_false hc8;omega) | (have h:=hc8;simp at h;omega)
       refine Yn (Q5 (Q3 ?_))
       refine Q4 (Yr (Qh [true,true,true] Z Z (Qa (Qc Z) Z (Qa (Q8 Z Z (Yt hc6n (hd9.ext E).1.1)) Z (Qa (Qe Z) Z (Qd (Q4 (Yc (i + 1) (by omega) ⟨Z,Z,Z,trivial⟩ ⟨E,(by omega),h1,h2,(by omega),(Bb hI3 (done_s (h1:=hi3) (by assumption) hJ (by omega)))⟩))))))))
    ·have hc6n : ¬ i < x.dones.length:=by first | (have h:=of_decide_eq_false hc6;omega) | (have h:=hc6;simp at h;omega)
     refine Yn (Q5 (Q3 ?_))
     refine Qf (Qh [true] Z Z (Qa (Qe Z) Z (Qd (Qw (Ql Z Z E ?_)))))
     exact wk_yes2 hc1 (Cq hI1 (by omega)) (He hI2 (by have:=wk_len hc1;omega)) (Cq hI3 (by omega))

set_option maxRecDepth 20000 in
theorem c_copyNode (cx : List Value) (x : Node) (w : World) (hx : Dat.R w 0 w.heap.size cx x) (hb : x.outs.length ≤ 1048576) : Ct Tryz.prog 106 [.agg cx.toArray] w (fun v w'=>∃ cs,v = .agg cs.toArray ∧ Own1.O w' w.heap.size w'.heap.size cs x):=by
 refine Yh Tryz.func106 Z Tryz.ntmps106 Z ?_
 obtain ⟨o1,rfl,hd1⟩:=Node.op hx
 refine Q7 [(0,.agg [.int .i64 x.kind,.int .i64 x.a,.int .i64 x.b,o1].toArray)] ⟨Z,trivial⟩ ?_
 have E : Ext w w:=Ext.refl w
 refine Qf (Qh [false,false] Z Z (Y1 Z Z (fun b1 w1 e1 s1 h1=>?_)))
 have g_b1 : w.heap.size ≤ b1:=by have:=E.size;omega
 have y_b1:=h1.lt
 replace E:=E.trans e1
 have z1:=e1.size
 refine Yk Xo Z (fun b2 w2 e2 s2 h2=>?_)
 have g_b2 : w.heap.size ≤ b2:=by have:=E.size;omega
 have y_b2:=h2.lt
 replace E:=E.trans e2;replace h1:=h1.ext e2
 have z2:=e2.size
 refine Qd (Qf (Qh [true,true,false,true,false] Z Z (Qa (Qb Y8 Z) Z (Qa (Qj Ke Z (h1.one 3 Z)) Z (K8 Uv Z Z (Own.nil w2 w2.heap.size w2.heap.size 1) (RdS.src (hd1.rd.ext E)) (Xe _) (by simp only [Yb,List.length_nil];simp only [Enc.sz];omega) (by decide) (by omega) (by omega) Z Z (fun v1 w3 m1 ho1=>?_))))))
 replace E:=E.step m1 (fun g hg=>by have:=Own.blk (Own.nil w2 w2.heap.size w2.heap.size 1) g hg;omega);replace h1:=h1.mod m1 (fun g hg=>by have:=Own.blk (Own.nil w2 w2.heap.size w2.heap.size 1) g hg;omega);replace h2:=h2.mod m1 (fun g hg=>by have:=Own.blk (Own.nil w2 w2.heap.size w2.heap.size 1) g hg;omega)
 have z3:=m1.size
 refine Qa (Qb Y8 Z) Z (Yj (cs':=[.int .i64 x.kind,.int .i64 x.a,.int .i64 x.b,v1]) Ke Z Z ho1.one h1 (Nat.le_of_ble_eq_true Z) Z (fun w4 m2 h1'=>?_))
 replace h1:=h1'
 replace E:=E.step m2 (fun g hg=>by cases hg;omega);replace h2:=h2.mod m2 (fun g hg=>by cases hg;omega);replace ho1:=ho1.mod m2 (fun g hg=>by cases hg;omega)
 have z4:=m2.size
 refine Qd (Qf (Qh [true,false] Z Z (Qa (Qt Xo Z h1.at Z) Z (Q6 (cs':=[.int .i64 x.kind,.int .i64 x.a,.int .i64 x.b,v1]) Xo Z Z Z (Qk Z (Qk Z (Qk Z (Qk ho1.one Z)))) h2 (Nat.le_of_ble_eq_true Z) Z (fun w5 m3 h2'=>?_)))))
 replace h2:=h2'
 replace E:=E.step m3 (fun g hg=>by cases hg;omega);replace h1:=h1.mod m3 (fun g hg=>by cases hg;omega);replace ho1:=ho1.mod m3 (fun g hg=>by cases hg;omega)
 have z5:=m3.size
 refine Qd (Qw (Kk Z Z (Yi Xo h2.at Z) E ?_))
 exact ⟨_,Z,Node.mkO (⟨x.kind,x.a,x.b,[] ++ x.outs⟩ : Node) ⟨trivial,trivial⟩ (Own.widen ho1 (by omega) (by omega))⟩

set_option maxRecDepth 20000 in
theorem s_NodeOf (cg : List Value) (g : Graph) (op : Int) (w : World) (hg : Dat.R w 0 w.heap.size cg g) (hb : Xa g ≤ 1048576) : Ct Tryz.prog 94 [.agg cg.toArray,.int .i64 op] w (fun v w'=>∃ c0,v = .tuple [.agg c0.toArray,.bool ((Qr g op).2)].toArray ∧ Own1.O w' w.heap.size w'.heap.size c0 ((Qr g op).1)):=by
 refine Yh Tryz.func94 Z Tryz.ntmps94 Z ?_
 obtain ⟨o1,rfl,hd1⟩:=Graph.op hg
 refine Q7 [(0,.agg [o1,.int .i64 g.workers,.int .i64 g.cap].toArray),(1,.int .i64 op)] ⟨Z,Z,trivial⟩ ?_
 have E : Ext w w:=Ext.refl w
 refine Qf (Qh [false,false,true] Z Z (Y1 Z Z (fun b1 w1 e1 s1 h1=>?_)))
 have g_b1 : w.heap.size ≤ b1:=by have:=E.size;omega
 have y_b1:=h1.lt
 replace E:=E.trans e1
 have z1:=e1.size
 refine Yk Xo Z (fun b2 w2 e2 s2 h2=>?_)
 have g_b2 : w.heap.size ≤ b2:=by have:=E.size;omega
 have y_b2:=h2.lt
 replace E:=E.trans e2;replace h1:=h1.ext e2
 have z2:=e2.size
 refine Qa (Qe Z) Z (Qd (Qf (Qf (Qh [true,true,true,true,true,false,true] Z Z (Qa (Qc Z) Z (Qa (Qb Kd Z) Z (Qa (Qj Gc Z (h1.one 0 Z)) Z (Qa (Ya Tryz.underlying32 Z (hd1.ext E).len) Z (Qa (Uu Z Z Z) Z (Qv Tryz.call93 Z (s_l01In op 0 (IntKind.i64.wrap (((g.nodes.length : Nat) : Int) - 1)) _ ) Z (fun _ w3 e3 hv=>?_)))))))))))
 subst hv
 replace E:=E.trans e3;replace h1:=h1.ext e3;replace h2:=h2.ext e3
 have z3:=e3.size
 refine Qa (Yq Z) Z (Qd (Qs Z (fun hc1=>?_) (fun hc1=>?_)))
 ·rw [isN_w hd1.1.1] at hc1
  refine Qf (Qh [true,false,true] Z Z ?_)
  have hbl1 : ∀ w,(Instr.build 139 ([]).toArray).run Tryz.prog w = .ok (.agg [.int .i64 0,.int .i64 0,.int .i64 0,.slice none 0 0].toArray) w:=by clear E;intro w;kernel_rfl
  refine Qa (Gz [.int .i64 0,.int .i64 0,.int .i64 0,.slice none 0 0] Z hbl1) Z (Q6 (cs':=[.int .i64 0,.int .i64 0,.int .i64 0,.slice none 0 0]) Xo Z Z Z Z h2 (Nat.le_of_ble_eq_true Z) Z (fun w4 m1 h2'=>?_))
  replace h2:=h2'
  replace E:=E.step m1 (fun g hg=>by cases hg;omega);replace h1:=h1.mod m1 (fun g hg=>by cases hg;omega)
  have z4:=m1.size
  refine Qa (Qe Z) Z (Qd (Qw (Y5 (l:=[.cell 4 139,.tmp 5]) (vs:=[.agg [.int .i64 0,.int .i64 0,.int .i64 0,.slice none 0 0].toArray,.bool false]) Z ⟨.cell Z (Yi Xo h2.at Z),.tmp Z,trivial⟩ Z E ?_)))
  rw [nodeOf_no (by simpa [Y9] using hc1)]
  exact ⟨_,Z,(Node.mkO (⟨0,0,0,[]⟩ : Node) ⟨trivial,trivial⟩ (Own.nil _ _ _ _))⟩
 ·rw [isN_w hd1.1.1] at hc1
  have hop:=Vx (by simpa [Y9] using hc1)
  refine Qn (Qf (Qh [true,true,true,true,true,false,false] Z Z (Qa (Qb Kd Z) Z (Qa (Qj Gc Z (h1.one 0 Z)) Z (Qa (Qc Z) Z ?_)))))
  have hi1 : (Int.toNat op) < g.nodes.length:=(by first | assumption | omega | (simp only [List.length_set];first | assumption | omega))
  obtain ⟨_,hr1,ha1⟩:=RdD.get hd1 hi1
  obtain ⟨o2,rfl,hd2⟩:=Node.op hr1
  replace ha1 : At w (Xf o1) (Xm o1 + (Int.toNat op) * 4) [.int .i64 ((g.nodes[(Int.toNat op)]'hi1).kind),.int .i64 ((g.nodes[(Int.toNat op)]'hi1).a),.int .i64 ((g.nodes[(Int.toNat op)]'hi1).b),o2]:=ha1
  refine Qa (U3 (i:=(Int.toNat op)) Gv Z Z (hd1.ext E).1 (by omega) hi1) Z (Qa (Qt Xo Z (ha1.ext E) Z) Z (Yk Xo Z (fun b3 w5 e4 s3 h3=>?_)))
  have g_b3 : w.heap.size ≤ b3:=by have:=E.size;omega
  have y_b3:=h3.lt
  replace E:=E.trans e4;replace h1:=h1.ext e4;replace h2:=h2.ext e4
  have z5:=e4.size
  refine Q6 (cs':=[.int .i64 ((g.nodes[(Int.toNat op)]'hi1).kind),.int .i64 ((g.nodes[(Int.toNat op)]'hi1).a),.int .i64 ((g.nodes[(Int.toNat op)]'hi1).b),o2]) Xo Z Z Z (Qk Z (Qk Z (Qk Z (Qk (RdD.one (hd2.ext E)) Z)))) h3 (Nat.le_of_ble_eq_true Z) Z (fun w6 m2 h3'=>?_)
  replace h3:=h3'
  replace E:=E.step m2 (fun g hg=>by cases hg;omega);replace h1:=h1.mod m2 (fun g hg=>by cases hg;omega);replace h2:=h2.mod m2 (fun g hg=>by cases hg;omega)
  have z6:=m2.size
  refine Qd (Qf (Qh [false,true,true,false,true,false] Z Z (Yz (vs:=[]) (css:=[]) Uv Z Z trivial Z Z (fun b4 w7 e5 s4 h4=>?_))))
  replace h4 : Blk w7 b4 []:=h4
  have g_b4 : w.heap.size ≤ b4:=by have:=E.size;omega
  have y_b4:=h4.lt
  replace E:=E.trans e5;replace h1:=h1.ext e5;replace h2:=h2.ext e5;replace h3:=h3.ext e5
  have z7:=e5.size
  refine Qa (Qb Y8 Z) Z (Qa (Qj Ke Z (h3.one 3 Z)) Z (K8 Uv Z Z (Own.ofBlk (lo:=b4) (hi:=b4 + 1) (sz:=1) h4 (Nat.le_refl _) (Nat.lt_succ_self _) (by simp) (by simp [maxLen])) (RdS.src (hd2.rd.ext E)) (Xe _) (by have h:=outs_le hb (List.getElem_mem (l:=g.nodes) (n:=Int.toNat op) (by omega));rw [Yb];simp only [List.length_nil,show Enc.sz Int = 1 from Z];omega) (by decide) (by omega) (by omega) Z Z (fun v1 w8 m3 ho1=>?_)))
  replace E:=E.step m3 (fun g hg=>by have:=Own.blk (Own.ofBlk (lo:=b4) (hi:=b4 + 1) (sz:=1) h4 (Nat.le_refl _) (Nat.lt_succ_self _) (by simp) (by simp [maxLen])) g hg;omega);replace h1:=h1.mod m3 (fun g hg=>by have:=Own.blk (Own.ofBlk (lo:=b4) (hi:=b4 + 1) (sz:=1) h4 (Nat.le_refl _) (Nat.lt_succ_self _) (by simp) (by simp [maxLen])) g hg;omega);replace h2:=h2.mod m3 (fun g hg=>by have:=Own.blk (Own.ofBlk (lo:=b4) (hi:=b4 + 1) (sz:=1) h4 (Nat.le_refl _) (Nat.lt_succ_self _) (by simp) (by simp [maxLen])) g hg;omega);replace h3:=h3.mod m3 (fun g hg=>by have:=Own.blk (Own.ofBlk (lo:=b4) (hi:=b4 + 1) (sz:=1) h4 (Nat.le_refl _) (Nat.lt_succ_self _) (by simp) (by simp [maxLen])) g hg;omega)
  have z8:=m3.size
  refine Qa (Qb Y8 Z) Z (Yj (cs':=[.int .i64 ((g.nodes[(Int.toNat op)]'hi1).kind),.int .i64 ((g.nodes[(Int.toNat op)]'hi1).a),.int .i64 ((g.nodes[(Int.toNat op)]'hi1).b),v1]) Ke Z Z ho1.one h3 (Nat.le_of_ble_eq_true Z) Z (fun w9 m4 h3'=>?_))
  replace h3:=h3'
  replace E:=E.step m4 (fun g hg=>by cases hg;omega);replace h1:=h1.mod m4 (fun g hg=>by cases hg;omega);replace h2:=h2.mod m4 (fun g hg=>by cases hg;omega);replace ho1:=ho1.mod m4 (fun g hg=>by cases hg;omega)
  have z9:=m4.size
  refine Qd (Qf (Qh [true,false,true] Z Z (Qa (Qt Xo Z h3.at Z) Z (Q6 (cs':=[.int .i64 ((g.nodes[(Int.toNat op)]'hi1).kind),.int .i64 ((g.nodes[(Int.toNat op)]'hi1).a),.int .i64 ((g.nodes[(Int.toNat op)]'hi1).b),v1]) Xo Z Z Z (Qk Z (Qk Z (Qk Z (Qk ho1.one Z)))) h2 (Nat.le_of_ble_eq_true Z) Z (fun w10 m5 h2'=>?_)))))
  replace h2:=h2'
  replace E:=E.step m5 (fun g hg=>by cases hg;omega);replace h1:=h1.mod m5 (fun g hg=>by cases hg;omega);replace h3:=h3.mod m5 (fun g hg=>by cases hg;omega);replace ho1:=ho1.mod m5 (fun g hg=>by cases hg;omega)
  have z10:=m5.size
  refine Qa (Qe Z) Z (Qd (Qw (Y5 (l:=[.cell 4 139,.tmp 5]) (vs:=[.agg [.int .i64 ((g.nodes[(Int.toNat op)]'hi1).kind),.int .i64 ((g.nodes[(Int.toNat op)]'hi1).a),.int .i64 ((g.nodes[(Int.toNat op)]'hi1).b),v1].toArray,.bool true]) Z ⟨.cell Z (Yi Xo h2.at Z),.tmp Z,trivial⟩ Z E ?_)))
  rw [De (by assumption) ]
  exact ⟨_,Z,(Node.mkO (⟨(g.nodes[(Int.toNat op)]'hi1).kind,(g.nodes[(Int.toNat op)]'hi1).a,(g.nodes[(Int.toNat op)]'hi1).b,[] ++ ((g.nodes[(Int.toNat op)]'hi1).outs)⟩ : Node) ⟨trivial,trivial⟩ (Own.widen ho1 (by omega) (by omega)))⟩

end Go.Proofs.YtaangeddnfnhdaaGreat
