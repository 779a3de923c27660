/- What the functions that the laws call come to: a contract each; no condition. -/
import Derived.Test.YtbnoffhbponglaaGreatFns2
namespace Go.Proofs.YtbnoffhbponglaaGreat
open Go Go.Proofs.YtbnoffhbponglaaGreat.X Go.Proofs
set_option maxHeartbeats 4000000 in
set_option maxRecDepth 20000 in
theorem c_GraphOk (cg : List Value) (g : Graph) (w : World) (hg : Dat.R w 0 w.heap.size cg g) : Ct Tryz.prog 63 [.agg cg.toArray] w (fun v _ => v = .bool (Xv g)) := by
 refine Yj Tryz.func63 Z Tryz.ntmps63 Z ?_
 obtain ⟨o1, rfl, hd1⟩ := Graph.op hg
 refine Q7 [(0, .agg [o1, .int .i64 g.workers, .int .i64 g.cap].toArray)] ⟨Z, trivial⟩ ?_
 have E : Ext w w := Ext.refl w
 refine Qf (Qh [false, true] Z Z (Yx Z Z (fun b1 w1 e1 s1 h1 => ?_)))
 have g_b1 : w.heap.size ≤ b1 := by have := E.size; omega
 have y_b1 := h1.lt
 replace E := E.trans e1
 have z1 := e1.size
 refine Qa (Qg Z) Z (Qd (Qf (Qf (Qh [true, true, true, false, true, true, true, true, false, true, true, true, true, true, false, true, true] Z Z (Qa (Qb Xp Z) Z (Qa (Qi sc32 Z (h1.one 0 Z)) Z (Qa (Q4 Tryz.underlying32 Z (hd1.ext E).len) Z (Q0 Tryz.call62 Z (c_within ((g.nodes.length : Nat) : Int) 1 8 _ ) Z (fun _ w2 e2 hv => ?_)))))))))
 subst hv
 replace E := E.trans e2; replace h1 := h1.ext e2
 have z2 := e2.size
 refine Qa (Yn Z) Z (Qa (Qe Z) Z (Yz 11 [(0, .agg [o1, .int .i64 g.workers, .int .i64 g.cap].toArray), (1, .pointer (some ⟨b1, 0, none⟩)), (2, .bool false), (24, .bool (((!(Yo ((g.nodes.length : Nat) : Int) 1 8)) || (!(Yo g.workers 1 4))) || (!(Yo g.cap 1 4))))] (fun w' => Ext w w' ∧ w2.heap.size ≤ w'.heap.size ∧ Blk w' b1 ([o1, .int .i64 g.workers, .int .i64 g.cap])) ?_ ?_))
 ·refine Ym (gd := 13) Z Z (fun hg1 => ?_) (fun hg1 => ?_)
  ·refine Qc Z Z Z Z (Qc Z Z Z Z ?_)
   refine Yv Z Z Z Z ?_
   refine Qc Z Z Z Z (Qa (Qr Z Z) Z (Qa (Qe Z) Z (Qc Z Z Z Z (Qc Z Z Z Z ?_))))
   refine Yv Z Z Z Z ?_
   refine Qc Z Z Z Z (Qa (Qr Z Z) Z (Qo ⟨Z, Z, Z, congrArg (fun b => some (Value.bool b)) (show true = (((!(Yo ((g.nodes.length : Nat) : Int) 1 8)) || (!(Yo g.workers 1 4))) || (!(Yo g.cap 1 4))) by first | (rw [hg1] <;> rfl) | (simp [hg1]; done) | (simp only [Qn] <;> simp)), trivial⟩ ⟨E, (by omega), h1⟩))
  ·refine Qk Z Z (Qb fl34_1 Z) Z (Qk Z Z (Qi Yk Z (h1.one 1 Z)) Z ?_)
   refine Xf Z Z ?_
   refine Q0 Tryz.call62 Z (c_within g.workers 1 4 _ ) Z (fun _ w4 e3 hv => ?_)
   subst hv
   replace E := E.trans e3; replace h1 := h1.ext e3
   have z3 := e3.size
   refine Qk Z Z (Yn Z) Z (Qa (Qs Z Z) Z (Qa (Qe Z) Z ?_))
   refine Ym (gd := 19) Z Z (fun hg2 => ?_) (fun hg2 => ?_)
   ·refine Qc Z Z Z Z (Qc Z Z Z Z ?_)
    refine Yv Z Z Z Z ?_
    refine Qc Z Z Z Z (Qa (Qr Z Z) Z (Qo ⟨Z, Z, Z, congrArg (fun b => some (Value.bool b)) (show true = (((!(Yo ((g.nodes.length : Nat) : Int) 1 8)) || (!(Yo g.workers 1 4))) || (!(Yo g.cap 1 4))) by first | (rw [hg1, hg2] <;> rfl) | (simp [hg1, hg2]; done) | (simp only [Qn] <;> simp)), trivial⟩ ⟨E, (by omega), h1⟩))
   ·refine Qk Z Z (Qb fl34_2 Z) Z (Qk Z Z (Qi Yk Z (h1.one 2 Z)) Z ?_)
    refine Xf Z Z ?_
    refine Q0 Tryz.call62 Z (c_within g.cap 1 4 _ ) Z (fun _ w5 e4 hv => ?_)
    subst hv
    replace E := E.trans e4; replace h1 := h1.ext e4
    have z4 := e4.size
    refine Qk Z Z (Yn Z) Z (Qa (Qs Z Z) Z (Qo ⟨Z, Z, Z, congrArg (fun b => some (Value.bool b)) (show (!(Yo g.cap 1 4)) = (((!(Yo ((g.nodes.length : Nat) : Int) 1 8)) || (!(Yo g.workers 1 4))) || (!(Yo g.cap 1 4))) by first | (rw [hg1, hg2] <;> rfl) | (simp [hg1, hg2]; done) | (simp only [Qn] <;> simp)), trivial⟩ ⟨E, (by omega), h1⟩))
 clear E h1
 rintro w3 ⟨E, z5, h1⟩
 refine Qd (Qu Z (fun hc1 => ?_) (fun hc1 => ?_))
 ·refine Qf (Qh [true] Z Z (Qa (Qg Z) Z (Qd (Qw (Qm Z Z E ?_)))))
  exact graph_h (by assumption)
 ·refine Qp (Qf (Qf (Qh [true, true, true, true] Z Z (Qa (Qb Xp Z) Z (Qa (Qi sc32 Z (h1.one 0 Z)) Z (Qa (Q4 Tryz.underlying32 Z (hd1.ext E).len) Z (Qa (Qe Z) Z (Qd (Qy (Yh (fun (i : Nat) => [(1, .pointer (some ⟨b1, 0, none⟩)), (2, .bool false), (26, o1), (27, .int .i64 ((g.nodes.length : Nat) : Int)), (28, .int .i64 ((i : Nat) : Int))]) (fun (i : Nat) w' => Ext w w' ∧ w3.heap.size ≤ w'.heap.size ∧ Blk w' b1 ([o1, .int .i64 g.workers, .int .i64 g.cap]) ∧ i ≤ g.nodes.length ∧ (∀ j, j < i → nodeAtOk g j (List.getD g.nodes j default) = true)) (fun (i : Nat) => g.nodes.length - i) 0 ⟨Z, Z, Z, Z, Z, trivial⟩ ⟨E, Nat.le_refl _, h1, Nat.zero_le _, (fun j hj => by omega)⟩ ?_))))))))))
  clear E h1
  rintro i w6 ⟨E, z6, h1, hle, hp⟩
  refine Qf (Qh [true] Z Z (Qa (Yb Z Z) Z (Qd (Qf (Qu Z (fun hc2 => ?_) (fun hc2 => ?_))))))
  ·have hc2n : i < g.nodes.length := by first | (have h := of_decide_eq_true hc2; omega) | (have h := hc2; simp at h; omega)
   refine Qp (Qf (Qy (Qf (Qh [true, true, true, false, true, false] Z Z (Qa (Qe Z) Z ?_)))))
   have hi1 : i < g.nodes.length := (by first | assumption | omega | (simp only [List.length_set]; first | assumption | omega))
   obtain ⟨_, hr1, ha1⟩ := RdD.get hd1 hi1
   obtain ⟨o2, rfl, hd2⟩ := Node.op hr1
   replace ha1 : At w (Xm o1) (Xl o1 + i * 4) [.int .i64 ((g.nodes[i]'hi1).kind), .int .i64 ((g.nodes[i]'hi1).a), .int .i64 ((g.nodes[i]'hi1).b), o2] := ha1
   refine Qa (Qv (i := i) sl32 Z Z (hd1.ext E).1 hi1) Z (Qa (Q1 Xz Z (ha1.ext E) Z) Z (Yu Xz Z (fun b2 w7 e5 s2 h2 => ?_)))
   have g_b2 : w.heap.size ≤ b2 := by have := E.size; omega
   have y_b2 := h2.lt
   replace E := E.trans e5; replace h1 := h1.ext e5
   have z7 := e5.size
   refine Qa (Qg Z) Z (Ya (cs' := [.int .i64 ((g.nodes[i]'hi1).kind), .int .i64 ((g.nodes[i]'hi1).a), .int .i64 ((g.nodes[i]'hi1).b), o2]) Xz Z Z Z (Ql Z (Ql Z (Ql Z (Ql (RdD.one (hd2.ext E)) Z)))) h2 (Nat.le_of_ble_eq_true Z) Z (fun w8 m1 h2' => ?_))
   replace h2 := h2'
   replace E := E.step m1 (fun g hg => by cases hg; omega); replace h1 := h1.mod m1 (fun g hg => by cases hg; omega)
   have z8 := m1.size
   refine Qd (Qf (Qf (Qh [true, false, true, true, true, true, true, true, true, true, true] Z Z (Qa (Q1 Xz Z h2.at Z) Z (Q0 Tryz.call110 Z (c_NodeOk [.int .i64 ((g.nodes[i]'hi1).kind), .int .i64 ((g.nodes[i]'hi1).a), .int .i64 ((g.nodes[i]'hi1).b), o2] (g.nodes[i]'hi1) _ (Node.mkR (g.nodes[i]'hi1) (RdD.any (hd2.ext E)))) Z (fun _ w9 e6 hv => ?_))))))
   subst hv
   replace E := E.trans e6; replace h1 := h1.ext e6; replace h2 := h2.ext e6
   have z9 := e6.size
   refine Qa (Yn Z) Z (Qa (Qe Z) Z (Yz 7 [(1, .pointer (some ⟨b1, 0, none⟩)), (2, .bool false), (3, .int .i64 ((i : Nat) : Int)), (4, .pointer (some ⟨b2, 0, none⟩)), (26, o1), (27, .int .i64 ((g.nodes.length : Nat) : Int)), (28, .int .i64 ((i : Nat) : Int)), (29, .bool (decide (((i : Nat) : Int) < ((g.nodes.length : Nat) : Int)))), (30, .int .i64 ((i : Nat) : Int)), (31, .pointer (some ⟨Xm o1, Xl o1 + i * 4, none⟩)), (32, .agg [.int .i64 ((g.nodes[i]'hi1).kind), .int .i64 ((g.nodes[i]'hi1).a), .int .i64 ((g.nodes[i]'hi1).b), o2].toArray), (43, .bool ((!(nodeOk (g.nodes[i]'hi1))) || (!((((g.nodes[i]'hi1).kind) == 1) == (((i : Nat) : Int) == 0)))))] (fun w' => w9 = w') ?_ ?_))
   ·refine Ym (gd := 36) Z Z (fun hg3 => ?_) (fun hg3 => ?_)
    ·refine Qc Z Z Z Z (Qc Z Z Z Z (Qc Z Z Z Z (Qc Z Z Z Z (Qc Z Z Z Z (Qc Z Z Z Z (Qa (Qr Z Z) Z (Qo ⟨Z, Z, Z, Z, Z, Z, Z, Z, Z, Z, Z, congrArg (fun b => some (Value.bool b)) (show true = ((!(nodeOk (g.nodes[i]'hi1))) || (!((((g.nodes[i]'hi1).kind) == 1) == (((i : Nat) : Int) == 0)))) by first | (rw [hg3] <;> rfl) | (simp [hg3]; done) | (simp only [Qn] <;> simp)), trivial⟩ Z)))))))
    ·refine Qk Z Z (Qb Y3 Z) Z (Qk Z Z (Qi Yk Z (h2.one 0 Z)) Z (Qk Z Z (Yw Z Z) Z (Qk Z Z (Qe Z) Z (Qk Z Z (Yw Z Z) Z (Qk Z Z (Ki (Tryz.underlying4) Z Z) Z (Qa (Qs Z Z) Z (Qo ⟨Z, Z, Z, Z, Z, Z, Z, Z, Z, Z, Z, congrArg (fun b => some (Value.bool b)) (show (!((((g.nodes[i]'hi1).kind) == 1) == (((i : Nat) : Int) == 0))) = ((!(nodeOk (g.nodes[i]'hi1))) || (!((((g.nodes[i]'hi1).kind) == 1) == (((i : Nat) : Int) == 0)))) by first | (rw [hg3] <;> rfl) | (simp [hg3]; done) | (simp only [Qn] <;> simp)), trivial⟩ Z)))))))
   rintro _ rfl
   refine Qd (Qu Z (fun hc3 => ?_) (fun hc3 => ?_))
   ·refine Qf (Qh [true] Z Z (Qa (Qg Z) Z (Qd (Qw (Qx (Yg (Qx (Qm Z Z E ?_))))))))
    exact graph_a (by assumption)
   ·refine Qp (Qf (Qh [true, true, true, true] Z Z (Qa (Qb Q6 Z) Z (Qa (Qi Yy Z (h2.one 3 Z)) Z (Qa (Q4 Tryz.underlying68 Z (hd2.ext E).len) Z (Qa (Qe Z) Z (Qd (Qy (Yh (fun (k : Nat) => [(1, .pointer (some ⟨b1, 0, none⟩)), (2, .bool false), (3, .int .i64 ((i : Nat) : Int)), (4, .pointer (some ⟨b2, 0, none⟩)), (26, o1), (27, .int .i64 ((g.nodes.length : Nat) : Int)), (28, .int .i64 ((i : Nat) : Int)), (45, o2), (46, .int .i64 ((((g.nodes[i]'hi1).outs).length : Nat) : Int)), (47, .int .i64 ((k : Nat) : Int))]) (fun (k : Nat) w' => Ext w w' ∧ w9.heap.size ≤ w'.heap.size ∧ Blk w' b1 ([o1, .int .i64 g.workers, .int .i64 g.cap]) ∧ Blk w' b2 [.int .i64 ((g.nodes[i]'hi1).kind), .int .i64 ((g.nodes[i]'hi1).a), .int .i64 ((g.nodes[i]'hi1).b), o2] ∧ k ≤ (g.nodes[i]'hi1).outs.length ∧ ((g.nodes[i]'hi1).outs.take k).all (fun to => !edgeBad g i (g.nodes[i]'hi1) to) = true) (fun (k : Nat) => (g.nodes[i]'hi1).outs.length - k) 0 ⟨Z, Z, Z, Z, Z, Z, Z, Z, Z, Z, trivial⟩ ⟨E, Nat.le_refl _, h1, h2, Nat.zero_le _, Z⟩ ?_)))))))))
    clear E h1 h2
    rintro k w11 ⟨E, z10, h1, h2, hk, hI⟩
    refine Qf (Qh [true] Z Z (Qa (Yb Z Z) Z (Qd (Qf (Qu Z (fun hc4 => ?_) (fun hc4 => ?_))))))
    ·have hc4n : k < ((g.nodes[i]'hi1).outs).length := by first | (have h := of_decide_eq_true hc4; omega) | (have h := hc4; simp at h; omega)
     refine Qp (Qf (Qy (Qf (Qh [true, true, true] Z Z ?_))))
     have hi2 : k < ((g.nodes[i]'hi1).outs).length := (by first | assumption | omega | (simp only [List.length_set]; first | assumption | omega))
     refine Qa (Qv (i := k) Y5 Z Z (hd2.rd.ext E) hi2) Z (Qa (Qi Yk Z (((hd2.rd.ext E).get hi2).one 0 Z)) Z (Qa (Qg Z) Z (Qd (Qf (Qf (Qh [true, true, true, true, true] Z Z (Qa (Qe Z) Z (Qa (Qb Xp Z) Z (Qa (Qi sc32 Z (h1.one 0 Z)) Z (Qa (Q4 Tryz.underlying32 Z (hd1.ext E).len) Z (Qa (R_geq Z Z) Z (Qd (Qu Z (fun hc5 => ?_) (fun hc5 => ?_))))))))))))))
     ·refine Qf (Qh [true] Z Z (Qa (Qg Z) Z (Qd (Qw (Qx (Yg (Qx (Qx (Yg (Qx (Qm Z Z E ?_)))))))))))
      exact graph_e (edge_a (by assumption))
     ·have hto := graph_to (h1 := hi1) (h2 := hi2) (by assumption)
      have htl := Int.not_le.1 (of_decide_eq_false hc5)
      refine Qp (Qf (Qh [true, true, true, true, true, true, true] Z Z (Qa (Qb Xp Z) Z (Qa (Qi sc32 Z (h1.one 0 Z)) Z (Qa (Qe Z) Z ?_)))))
      have hi3 : (Int.toNat (((g.nodes[i]'hi1).outs)[k]'hi2)) < g.nodes.length := (by first | assumption | omega | (simp only [List.length_set]; first | assumption | omega))
      obtain ⟨_, hr2, ha2⟩ := RdD.get hd1 hi3
      obtain ⟨o3, rfl, hd3⟩ := Node.op hr2
      replace ha2 : At w (Xm o1) (Xl o1 + (Int.toNat (((g.nodes[i]'hi1).outs)[k]'hi2)) * 4) [.int .i64 ((g.nodes[(Int.toNat (((g.nodes[i]'hi1).outs)[k]'hi2))]'hi3).kind), .int .i64 ((g.nodes[(Int.toNat (((g.nodes[i]'hi1).outs)[k]'hi2))]'hi3).a), .int .i64 ((g.nodes[(Int.toNat (((g.nodes[i]'hi1).outs)[k]'hi2))]'hi3).b), o3] := ha2
      refine Qa (R_indexZ (i := (Int.toNat (((g.nodes[i]'hi1).outs)[k]'hi2))) sl32 Z Z (hd1.ext E).1 (by omega) hi3) Z (Qa (Qz Y3 Z) Z (Qa (Qi Yk Z ((ha2.ext E).one 0 Z)) Z (Qa (Qg Z) Z (Qd (Qf (Qh [true, true, true, true, true, true, true, true, true, true, true, true, true, true, true, true, true, true, true, true, true, true, true, true, true, true] Z Z (Qa (Qb Y3 Z) Z (Qa (Qi Yk Z (h2.one 0 Z)) Z (Qa (Yw Z Z) Z (Qa (Qe Z) Z (Yz 22 [(1, .pointer (some ⟨b1, 0, none⟩)), (2, .bool false), (3, .int .i64 ((i : Nat) : Int)), (4, .pointer (some ⟨b2, 0, none⟩)), (6, .int .i64 (((g.nodes[i]'hi1).outs)[k]'hi2)), (7, .int .i64 ((g.nodes[(Int.toNat (((g.nodes[i]'hi1).outs)[k]'hi2))]'hi3).kind)), (26, o1), (27, .int .i64 ((g.nodes.length : Nat) : Int)), (28, .int .i64 ((i : Nat) : Int)), (45, o2), (46, .int .i64 ((((g.nodes[i]'hi1).outs).length : Nat) : Int)), (47, .int .i64 ((k : Nat) : Int)), (48, .bool (decide (((k : Nat) : Int) < ((((g.nodes[i]'hi1).outs).length : Nat) : Int)))), (49, .pointer (some ⟨Xm o2, Xl o2 + k * 1, none⟩)), (50, .int .i64 (((g.nodes[i]'hi1).outs)[k]'hi2)), (51, .int .i64 (((g.nodes[i]'hi1).outs)[k]'hi2)), (52, .pointer (some ⟨b1, 0, none⟩)), (53, o1), (54, .int .i64 ((g.nodes.length : Nat) : Int)), (55, .bool (decide (((g.nodes.length : Nat) : Int) ≤ (((g.nodes[i]'hi1).outs)[k]'hi2)))), (56, .pointer (some ⟨b1, 0, none⟩)), (57, o1), (58, .int .i64 (((g.nodes[i]'hi1).outs)[k]'hi2)), (59, .pointer (some ⟨Xm o1, Xl o1 + (Int.toNat (((g.nodes[i]'hi1).outs)[k]'hi2)) * 4, none⟩)), (60, .pointer (some ⟨(Xm o1), Xl o1 + (Int.toNat (((g.nodes[i]'hi1).outs)[k]'hi2)) * 4 + 0, none⟩)), (61, .int .i64 ((g.nodes[(Int.toNat (((g.nodes[i]'hi1).outs)[k]'hi2))]'hi3).kind)), (87, .bool (((((g.nodes[i]'hi1).kind) == 7) && ((decide (((i : Nat) : Int) < (((g.nodes[i]'hi1).outs)[k]'hi2))) || ((((g.nodes[(Int.toNat (((g.nodes[i]'hi1).outs)[k]'hi2))]'hi3).kind) != 5) && (((g.nodes[(Int.toNat (((g.nodes[i]'hi1).outs)[k]'hi2))]'hi3).kind) != 6)))) || ((((g.nodes[i]'hi1).kind) != 7) && (decide ((((g.nodes[i]'hi1).outs)[k]'hi2) ≤ ((i : Nat) : Int))))))] (fun w' => w11 = w') ?_ ?_)))))))))))
      ·refine Ym (gd := 65) Z Z (fun hg4 => ?_) (fun hg4 => ?_)
       ·refine Qk Z Z (Qe Z) Z (Qk Z Z (Qe Z) Z (Qk Z Z (Xc Z Z) Z (Qk Z Z (Qe Z) Z ?_)))
        refine Ym (gd := 69) Z Z (fun hg5 => ?_) (fun hg5 => ?_)
        ·refine Qc Z Z Z Z (Qc Z Z Z Z (Qc Z Z Z Z (Qt Z Z Z (Qt Z Z Z (Qc Z Z Z Z (Qk Z Z (Qr Z Z) Z (Qa (Qr Z Z) Z (Qa (Qe Z) Z (Qc Z Z Z Z (Qc Z Z Z Z (Qc Z Z Z Z (Qc Z Z Z Z (Qt Z Z Z (Qt Z Z Z (Qt Z Z Z (Qc Z Z Z Z (Qa (Qr Z Z) Z (Qo ⟨Z, Z, Z, Z, Z, Z, Z, Z, Z, Z, Z, Z, Z, Z, Z, Z, Z, Z, Z, Z, Z, Z, Z, Z, Z, Z, congrArg (fun b => some (Value.bool b)) (show true = (((((g.nodes[i]'hi1).kind) == 7) && ((decide (((i : Nat) : Int) < (((g.nodes[i]'hi1).outs)[k]'hi2))) || ((((g.nodes[(Int.toNat (((g.nodes[i]'hi1).outs)[k]'hi2))]'hi3).kind) != 5) && (((g.nodes[(Int.toNat (((g.nodes[i]'hi1).outs)[k]'hi2))]'hi3).kind) != 6)))) || ((((g.nodes[i]'hi1).kind) != 7) && (decide ((((g.nodes[i]'hi1).outs)[k]'hi2) ≤ ((i : Nat) : Int))))) by first | (rw [hg4, hg5] <;> rfl) | (simp [hg4, hg5]; done) | (simp only [Qn] <;> simp)), trivial⟩ Z))))))))))))))))))
        ·refine Qk Z Z (Qe Z) Z (Qk Z Z (Yr Z Z) Z (Qk Z Z (Qe Z) Z ?_))
         refine Ym (gd := 72) Z Z (fun hg6 => ?_) (fun hg6 => ?_)
         ·refine Qk Z Z (Qe Z) Z (Qk Z Z (Yr Z Z) Z (Qk Z Z (Qr Z Z) Z (Qk Z Z (Qs Z Z) Z (Qa (Qr Z Z) Z (Qa (Qe Z) Z ?_)))))
          refine Ym (gd := 78) Z Z (fun hg7 => ?_) (fun hg7 => ?_)
          ·refine Qc Z Z Z Z (Qc Z Z Z Z (Qc Z Z Z Z (Qc Z Z Z Z (Qt Z Z Z (Qt Z Z Z (Qt Z Z Z (Qc Z Z Z Z (Qa (Qr Z Z) Z (Qo ⟨Z, Z, Z, Z, Z, Z, Z, Z, Z, Z, Z, Z, Z, Z, Z, Z, Z, Z, Z, Z, Z, Z, Z, Z, Z, Z, congrArg (fun b => some (Value.bool b)) (show true = (((((g.nodes[i]'hi1).kind) == 7) && ((decide (((i : Nat) : Int) < (((g.nodes[i]'hi1).outs)[k]'hi2))) || ((((g.nodes[(Int.toNat (((g.nodes[i]'hi1).outs)[k]'hi2))]'hi3).kind) != 5) && (((g.nodes[(Int.toNat (((g.nodes[i]'hi1).outs)[k]'hi2))]'hi3).kind) != 6)))) || ((((g.nodes[i]'hi1).kind) != 7) && (decide ((((g.nodes[i]'hi1).outs)[k]'hi2) ≤ ((i : Nat) : Int))))) by first | (rw [hg4, hg5, hg6, hg7] <;> rfl) | (simp [hg4, hg5, hg6, hg7]; done) | (simp only [Qn] <;> simp)), trivial⟩ Z)))))))))
          ·refine Qk Z Z (Qb Y3 Z) Z (Qk Z Z (Qi Yk Z (h2.one 0 Z)) Z (Qk Z Z (Yr Z Z) Z (Qk Z Z (Qe Z) Z ?_)))
           refine Ym (gd := 82) Z Z (fun hg8 => ?_) (fun hg8 => ?_)
           ·refine Qk Z Z (Qe Z) Z (Qk Z Z (Qe Z) Z (Qk Z Z (R_leq Z Z) Z (Qk Z Z (Qr Z Z) Z (Qa (Qs Z Z) Z (Qo ⟨Z, Z, Z, Z, Z, Z, Z, Z, Z, Z, Z, Z, Z, Z, Z, Z, Z, Z, Z, Z, Z, Z, Z, Z, Z, Z, congrArg (fun b => some (Value.bool b)) (show (decide ((((g.nodes[i]'hi1).outs)[k]'hi2) ≤ ((i : Nat) : Int))) = (((((g.nodes[i]'hi1).kind) == 7) && ((decide (((i : Nat) : Int) < (((g.nodes[i]'hi1).outs)[k]'hi2))) || ((((g.nodes[(Int.toNat (((g.nodes[i]'hi1).outs)[k]'hi2))]'hi3).kind) != 5) && (((g.nodes[(Int.toNat (((g.nodes[i]'hi1).outs)[k]'hi2))]'hi3).kind) != 6)))) || ((((g.nodes[i]'hi1).kind) != 7) && (decide ((((g.nodes[i]'hi1).outs)[k]'hi2) ≤ ((i : Nat) : Int))))) by first | (rw [hg4, hg5, hg6, hg7, hg8] <;> rfl) | (simp [hg4, hg5, hg6, hg7, hg8]; done) | (simp only [Qn] <;> simp)), trivial⟩ Z)))))
           ·refine Qc Z Z Z Z (Qc Z Z Z Z (Qc Z Z Z Z (Qk Z Z (Qs Z Z) Z (Qa (Qs Z Z) Z (Qo ⟨Z, Z, Z, Z, Z, Z, Z, Z, Z, Z, Z, Z, Z, Z, Z, Z, Z, Z, Z, Z, Z, Z, Z, Z, Z, Z, congrArg (fun b => some (Value.bool b)) (show false = (((((g.nodes[i]'hi1).kind) == 7) && ((decide (((i : Nat) : Int) < (((g.nodes[i]'hi1).outs)[k]'hi2))) || ((((g.nodes[(Int.toNat (((g.nodes[i]'hi1).outs)[k]'hi2))]'hi3).kind) != 5) && (((g.nodes[(Int.toNat (((g.nodes[i]'hi1).outs)[k]'hi2))]'hi3).kind) != 6)))) || ((((g.nodes[i]'hi1).kind) != 7) && (decide ((((g.nodes[i]'hi1).outs)[k]'hi2) ≤ ((i : Nat) : Int))))) by first | (rw [hg4, hg5, hg6, hg7, hg8] <;> rfl) | (simp [hg4, hg5, hg6, hg7, hg8]; done) | (simp only [Qn] <;> simp)), trivial⟩ Z)))))
         ·refine Qc Z Z Z Z (Qc Z Z Z Z (Qk Z Z (Qs Z Z) Z (Qk Z Z (Qs Z Z) Z (Qa (Qr Z Z) Z (Qa (Qe Z) Z (Qk Z Z (Qb Y3 Z) Z (Qk Z Z (Qi Yk Z (h2.one 0 Z)) Z (Qk Z Z (Yr Z Z) Z (Qk Z Z (Qe Z) Z ?_)))))))))
          refine Ym (gd := 82) Z Z (fun hg9 => ?_) (fun hg9 => ?_)
          ·refine Qk Z Z (Qe Z) Z (Qk Z Z (Qe Z) Z (Qk Z Z (R_leq Z Z) Z (Qk Z Z (Qr Z Z) Z (Qa (Qs Z Z) Z (Qo ⟨Z, Z, Z, Z, Z, Z, Z, Z, Z, Z, Z, Z, Z, Z, Z, Z, Z, Z, Z, Z, Z, Z, Z, Z, Z, Z, congrArg (fun b => some (Value.bool b)) (show (decide ((((g.nodes[i]'hi1).outs)[k]'hi2) ≤ ((i : Nat) : Int))) = (((((g.nodes[i]'hi1).kind) == 7) && ((decide (((i : Nat) : Int) < (((g.nodes[i]'hi1).outs)[k]'hi2))) || ((((g.nodes[(Int.toNat (((g.nodes[i]'hi1).outs)[k]'hi2))]'hi3).kind) != 5) && (((g.nodes[(Int.toNat (((g.nodes[i]'hi1).outs)[k]'hi2))]'hi3).kind) != 6)))) || ((((g.nodes[i]'hi1).kind) != 7) && (decide ((((g.nodes[i]'hi1).outs)[k]'hi2) ≤ ((i : Nat) : Int))))) by first | (rw [hg4, hg5, hg6, hg9] <;> rfl) | (simp [hg4, hg5, hg6, hg9]; done) | (simp only [Qn] <;> simp)), trivial⟩ Z)))))
          ·refine Qc Z Z Z Z (Qc Z Z Z Z (Qc Z Z Z Z (Qk Z Z (Qs Z Z) Z (Qa (Qs Z Z) Z (Qo ⟨Z, Z, Z, Z, Z, Z, Z, Z, Z, Z, Z, Z, Z, Z, Z, Z, Z, Z, Z, Z, Z, Z, Z, Z, Z, Z, congrArg (fun b => some (Value.bool b)) (show false = (((((g.nodes[i]'hi1).kind) == 7) && ((decide (((i : Nat) : Int) < (((g.nodes[i]'hi1).outs)[k]'hi2))) || ((((g.nodes[(Int.toNat (((g.nodes[i]'hi1).outs)[k]'hi2))]'hi3).kind) != 5) && (((g.nodes[(Int.toNat (((g.nodes[i]'hi1).outs)[k]'hi2))]'hi3).kind) != 6)))) || ((((g.nodes[i]'hi1).kind) != 7) && (decide ((((g.nodes[i]'hi1).outs)[k]'hi2) ≤ ((i : Nat) : Int))))) by first | (rw [hg4, hg5, hg6, hg9] <;> rfl) | (simp [hg4, hg5, hg6, hg9]; done) | (simp only [Qn] <;> simp)), trivial⟩ Z)))))
       ·refine Qc Z Z Z Z (Qc Z Z Z Z (Qc Z Z Z Z (Qc Z Z Z Z (Qt Z Z Z (Qt Z Z Z (Qt Z Z Z (Qt Z Z Z (Qt Z Z Z (Qt Z Z Z (Qc Z Z Z Z (Qa (Qs Z Z) Z (Qa (Qe Z) Z (Qk Z Z (Qb Y3 Z) Z (Qk Z Z (Qi Yk Z (h2.one 0 Z)) Z (Qk Z Z (Yr Z Z) Z (Qk Z Z (Qe Z) Z ?_))))))))))))))))
        refine Ym (gd := 82) Z Z (fun hg10 => ?_) (fun hg10 => ?_)
        ·refine Qk Z Z (Qe Z) Z (Qk Z Z (Qe Z) Z (Qk Z Z (R_leq Z Z) Z (Qk Z Z (Qr Z Z) Z (Qa (Qs Z Z) Z (Qo ⟨Z, Z, Z, Z, Z, Z, Z, Z, Z, Z, Z, Z, Z, Z, Z, Z, Z, Z, Z, Z, Z, Z, Z, Z, Z, Z, congrArg (fun b => some (Value.bool b)) (show (decide ((((g.nodes[i]'hi1).outs)[k]'hi2) ≤ ((i : Nat) : Int))) = (((((g.nodes[i]'hi1).kind) == 7) && ((decide (((i : Nat) : Int) < (((g.nodes[i]'hi1).outs)[k]'hi2))) || ((((g.nodes[(Int.toNat (((g.nodes[i]'hi1).outs)[k]'hi2))]'hi3).kind) != 5) && (((g.nodes[(Int.toNat (((g.nodes[i]'hi1).outs)[k]'hi2))]'hi3).kind) != 6)))) || ((((g.nodes[i]'hi1).kind) != 7) && (decide ((((g.nodes[i]'hi1).outs)[k]'hi2) ≤ ((i : Nat) : Int))))) by first | (rw [hg4, hg10] <;> rfl) | (simp [hg4, hg10]; done) | (simp only [Qn] <;> simp)), trivial⟩ Z)))))
        ·refine Qc Z Z Z Z (Qc Z Z Z Z (Qc Z Z Z Z (Qk Z Z (Qs Z Z) Z (Qa (Qs Z Z) Z (Qo ⟨Z, Z, Z, Z, Z, Z, Z, Z, Z, Z, Z, Z, Z, Z, Z, Z, Z, Z, Z, Z, Z, Z, Z, Z, Z, Z, congrArg (fun b => some (Value.bool b)) (show false = (((((g.nodes[i]'hi1).kind) == 7) && ((decide (((i : Nat) : Int) < (((g.nodes[i]'hi1).outs)[k]'hi2))) || ((((g.nodes[(Int.toNat (((g.nodes[i]'hi1).outs)[k]'hi2))]'hi3).kind) != 5) && (((g.nodes[(Int.toNat (((g.nodes[i]'hi1).outs)[k]'hi2))]'hi3).kind) != 6)))) || ((((g.nodes[i]'hi1).kind) != 7) && (decide ((((g.nodes[i]'hi1).outs)[k]'hi2) ≤ ((i : Nat) : Int))))) by first | (rw [hg4, hg10] <;> rfl) | (simp [hg4, hg10]; done) | (simp only [Qn] <;> simp)), trivial⟩ Z)))))
      rintro _ rfl
      refine Qd (Qu Z (fun hc6 => ?_) (fun hc6 => ?_))
      ·refine Qf (Qh [true] Z Z (Qa (Qg Z) Z (Qd (Qw (Qx (Yg (Qx (Qx (Yg (Qx (Qm Z Z E ?_)))))))))))
       exact graph_e (edge_b (congrArg Node.kind (getD_at _)).symm (by assumption))
      ·refine Qp (Q5 (Yt (Qh [true, true] Z Z (Qa (Q8 Z Z (Yq hc4n (hd2.ext E).1.1)) Z (Qa (Qe Z) Z (Qd (Q5 (Q9 (k + 1) (by omega) ⟨Z, Z, Z, Z, Z, Z, Z, Z, Z, Z, trivial⟩ ⟨E, (by omega), h1, h2, (by omega), Y4 hI (by assumption) (edge_n (congrArg Node.kind (getD_at _)).symm (by assumption) (by assumption))⟩))))))))
    ·have hc4n : ¬ k < ((g.nodes[i]'hi1).outs).length := by first | (have h := of_decide_eq_false hc4; omega) | (have h := hc4; simp at h; omega)
     refine Yi (Q3 (Q2 ?_))
     refine Q5 (Yt (Qh [true, true] Z Z (Qa (Q8 Z Z (Yq hc2n (hd1.ext E).1.1)) Z (Qa (Qe Z) Z (Qd (Q5 (Q9 (i + 1) (by omega) ⟨Z, Z, Z, Z, Z, trivial⟩ ⟨E, (by omega), h1, (by omega), graph_s (h1 := hi1) (by assumption) hI (by omega) hp⟩)))))))
  ·have hc2n : ¬ i < g.nodes.length := by first | (have h := of_decide_eq_false hc2; omega) | (have h := hc2; simp at h; omega)
   refine Yi (Q3 (Q2 ?_))
   refine Qf (Qh [true] Z Z (Qa (Qg Z) Z (Qd (Qw (Qm Z Z E ?_)))))
   exact graph_y (by assumption) hp (by omega)

set_option maxHeartbeats 4000000 in
set_option maxRecDepth 20000 in
theorem s_GraphOk (cg : List Value) (g : Graph) (w : World) (hg : Dat.R w 0 w.heap.size cg g) : Ct Tryz.prog 95 [.agg cg.toArray] w (fun v _ => v = .bool (Xv g)) := by
 refine Yj Tryz.func95 Z Tryz.ntmps95 Z ?_
 obtain ⟨o1, rfl, hd1⟩ := Graph.op hg
 refine Q7 [(0, .agg [o1, .int .i64 g.workers, .int .i64 g.cap].toArray)] ⟨Z, trivial⟩ ?_
 have E : Ext w w := Ext.refl w
 refine Qf (Qh [false, true] Z Z (Yx Z Z (fun b1 w1 e1 s1 h1 => ?_)))
 have g_b1 : w.heap.size ≤ b1 := by have := E.size; omega
 have y_b1 := h1.lt
 replace E := E.trans e1
 have z1 := e1.size
 refine Qa (Qg Z) Z (Qd (Qf (Qf (Qh [true, true, true, false, true, true, true, true, false, true, true, true, true, true, false, true, true] Z Z (Qa (Qb Xp Z) Z (Qa (Qi sc32 Z (h1.one 0 Z)) Z (Qa (Q4 Tryz.underlying32 Z (hd1.ext E).len) Z (Q0 Tryz.call99 Z (s_l01In ((g.nodes.length : Nat) : Int) 1 8 _ ) Z (fun _ w2 e2 hv => ?_)))))))))
 subst hv
 replace E := E.trans e2; replace h1 := h1.ext e2
 have z2 := e2.size
 refine Qa (Yn Z) Z (Qa (Qe Z) Z (Yz 11 [(0, .agg [o1, .int .i64 g.workers, .int .i64 g.cap].toArray), (1, .pointer (some ⟨b1, 0, none⟩)), (2, .bool false), (24, .bool (((!(Yo ((g.nodes.length : Nat) : Int) 1 8)) || (!(Yo g.workers 1 4))) || (!(Yo g.cap 1 4))))] (fun w' => Ext w w' ∧ w2.heap.size ≤ w'.heap.size ∧ Blk w' b1 ([o1, .int .i64 g.workers, .int .i64 g.cap])) ?_ ?_))
 ·refine Ym (gd := 13) Z Z (fun hg1 => ?_) (fun hg1 => ?_)
  ·refine Qc Z Z Z Z (Qc Z Z Z Z ?_)
   refine Yv Z Z Z Z ?_
   refine Qc Z Z Z Z (Qa (Qr Z Z) Z (Qa (Qe Z) Z (Qc Z Z Z Z (Qc Z Z Z Z ?_))))
   refine Yv Z Z Z Z ?_
   refine Qc Z Z Z Z (Qa (Qr Z Z) Z (Qo ⟨Z, Z, Z, congrArg (fun b => some (Value.bool b)) (show true = (((!(Yo ((g.nodes.length : Nat) : Int) 1 8)) || (!(Yo g.workers 1 4))) || (!(Yo g.cap 1 4))) by first | (rw [hg1] <;> rfl) | (simp [hg1]; done) | (simp only [Qn] <;> simp)), trivial⟩ ⟨E, (by omega), h1⟩))
  ·refine Qk Z Z (Qb fl34_1 Z) Z (Qk Z Z (Qi Yk Z (h1.one 1 Z)) Z ?_)
   refine Xf Z Z ?_
   refine Q0 Tryz.call99 Z (s_l01In g.workers 1 4 _ ) Z (fun _ w4 e3 hv => ?_)
   subst hv
   replace E := E.trans e3; replace h1 := h1.ext e3
   have z3 := e3.size
   refine Qk Z Z (Yn Z) Z (Qa (Qs Z Z) Z (Qa (Qe Z) Z ?_))
   refine Ym (gd := 19) Z Z (fun hg2 => ?_) (fun hg2 => ?_)
   ·refine Qc Z Z Z Z (Qc Z Z Z Z ?_)
    refine Yv Z Z Z Z ?_
    refine Qc Z Z Z Z (Qa (Qr Z Z) Z (Qo ⟨Z, Z, Z, congrArg (fun b => some (Value.bool b)) (show true = (((!(Yo ((g.nodes.length : Nat) : Int) 1 8)) || (!(Yo g.workers 1 4))) || (!(Yo g.cap 1 4))) by first | (rw [hg1, hg2] <;> rfl) | (simp [hg1, hg2]; done) | (simp only [Qn] <;> simp)), trivial⟩ ⟨E, (by omega), h1⟩))
   ·refine Qk Z Z (Qb fl34_2 Z) Z (Qk Z Z (Qi Yk Z (h1.one 2 Z)) Z ?_)
    refine Xf Z Z ?_
    refine Q0 Tryz.call99 Z (s_l01In g.cap 1 4 _ ) Z (fun _ w5 e4 hv => ?_)
    subst hv
    replace E := E.trans e4; replace h1 := h1.ext e4
    have z4 := e4.size
    refine Qk Z Z (Yn Z) Z (Qa (Qs Z Z) Z (Qo ⟨Z, Z, Z, congrArg (fun b => some (Value.bool b)) (show (!(Yo g.cap 1 4)) = (((!(Yo ((g.nodes.length : Nat) : Int) 1 8)) || (!(Yo g.workers 1 4))) || (!(Yo g.cap 1 4))) by first | (rw [hg1, hg2] <;> rfl) | (simp [hg1, hg2]; done) | (simp only [Qn] <;> simp)), trivial⟩ ⟨E, (by omega), h1⟩))
 clear E h1
 rintro w3 ⟨E, z5, h1⟩
 refine Qd (Qu Z (fun hc1 => ?_) (fun hc1 => ?_))
 ·refine Qf (Qh [true] Z Z (Qa (Qg Z) Z (Qd (Qw (Qm Z Z E ?_)))))
  exact graph_h (by assumption)
 ·refine Qp (Qf (Qf (Qh [true] Z Z (Qa (Qg Z) Z (Qd (Qy (Yh (fun (i : Nat) => [(1, .pointer (some ⟨b1, 0, none⟩)), (2, .bool false), (3, .int .i64 ((i : Nat) : Int))]) (fun (i : Nat) w' => Ext w w' ∧ w3.heap.size ≤ w'.heap.size ∧ Blk w' b1 ([o1, .int .i64 g.workers, .int .i64 g.cap]) ∧ i ≤ g.nodes.length ∧ (∀ j, j < i → nodeAtOk g j (List.getD g.nodes j default) = true)) (fun (i : Nat) => g.nodes.length - i) 0 ⟨Z, Z, Z, trivial⟩ ⟨E, Nat.le_refl _, h1, Nat.zero_le _, (fun j hj => by omega)⟩ ?_)))))))
  clear E h1
  rintro i w6 ⟨E, z6, h1, hle, hp⟩
  refine Qf (Qf (Qh [true, true, true, true, true] Z Z (Qa (Qe Z) Z (Qa (Qb Xp Z) Z (Qa (Qi sc32 Z (h1.one 0 Z)) Z (Qa (Q4 Tryz.underlying32 Z (hd1.ext E).len) Z (Qa (Yb Z Z) Z (Qd (Qu Z (fun hc2 => ?_) (fun hc2 => ?_))))))))))
  ·have hc2n : i < g.nodes.length := by first | (have h := of_decide_eq_true hc2; omega) | (have h := hc2; simp at h; omega)
   refine Qp (Qf (Qy (Qf (Qh [true, true, true, true, true, false, false] Z Z (Qa (Qb Xp Z) Z (Qa (Qi sc32 Z (h1.one 0 Z)) Z (Qa (Qe Z) Z ?_)))))))
   have hi1 : i < g.nodes.length := (by first | assumption | omega | (simp only [List.length_set]; first | assumption | omega))
   obtain ⟨_, hr1, ha1⟩ := RdD.get hd1 hi1
   obtain ⟨o2, rfl, hd2⟩ := Node.op hr1
   replace ha1 : At w (Xm o1) (Xl o1 + i * 4) [.int .i64 ((g.nodes[i]'hi1).kind), .int .i64 ((g.nodes[i]'hi1).a), .int .i64 ((g.nodes[i]'hi1).b), o2] := ha1
   refine Qa (Qv (i := i) sl32 Z Z (hd1.ext E).1 hi1) Z (Qa (Q1 Xz Z (ha1.ext E) Z) Z (Yu Xz Z (fun b2 w7 e5 s2 h2 => ?_)))
   have g_b2 : w.heap.size ≤ b2 := by have := E.size; omega
   have y_b2 := h2.lt
   replace E := E.trans e5; replace h1 := h1.ext e5
   have z7 := e5.size
   refine Ya (cs' := [.int .i64 ((g.nodes[i]'hi1).kind), .int .i64 ((g.nodes[i]'hi1).a), .int .i64 ((g.nodes[i]'hi1).b), o2]) Xz Z Z Z (Ql Z (Ql Z (Ql Z (Ql (RdD.one (hd2.ext E)) Z)))) h2 (Nat.le_of_ble_eq_true Z) Z (fun w8 m1 h2' => ?_)
   replace h2 := h2'
   replace E := E.step m1 (fun g hg => by cases hg; omega); replace h1 := h1.mod m1 (fun g hg => by cases hg; omega)
   have z8 := m1.size
   refine Qd (Qf (Qf (Qh [true, false, true, true, true, true, true, true, true, true, true] Z Z (Qa (Q1 Xz Z h2.at Z) Z (Q0 Tryz.call120 Z (s_NodeOk [.int .i64 ((g.nodes[i]'hi1).kind), .int .i64 ((g.nodes[i]'hi1).a), .int .i64 ((g.nodes[i]'hi1).b), o2] (g.nodes[i]'hi1) _ (Node.mkR (g.nodes[i]'hi1) (RdD.any (hd2.ext E)))) Z (fun _ w9 e6 hv => ?_))))))
   subst hv
   replace E := E.trans e6; replace h1 := h1.ext e6; replace h2 := h2.ext e6
   have z9 := e6.size
   refine Qa (Yn Z) Z (Qa (Qe Z) Z (Yz 7 [(1, .pointer (some ⟨b1, 0, none⟩)), (2, .bool false), (3, .int .i64 ((i : Nat) : Int)), (4, .pointer (some ⟨b2, 0, none⟩)), (25, .int .i64 ((i : Nat) : Int)), (26, .pointer (some ⟨b1, 0, none⟩)), (27, o1), (28, .int .i64 ((g.nodes.length : Nat) : Int)), (29, .bool (decide (((i : Nat) : Int) < ((g.nodes.length : Nat) : Int)))), (32, .pointer (some ⟨b1, 0, none⟩)), (33, o1), (34, .int .i64 ((i : Nat) : Int)), (35, .pointer (some ⟨Xm o1, Xl o1 + i * 4, none⟩)), (36, .agg [.int .i64 ((g.nodes[i]'hi1).kind), .int .i64 ((g.nodes[i]'hi1).a), .int .i64 ((g.nodes[i]'hi1).b), o2].toArray), (47, .bool ((!(nodeOk (g.nodes[i]'hi1))) || (!((((g.nodes[i]'hi1).kind) == 1) == (((i : Nat) : Int) == 0)))))] (fun w' => w9 = w') ?_ ?_))
   ·refine Ym (gd := 40) Z Z (fun hg3 => ?_) (fun hg3 => ?_)
    ·refine Qc Z Z Z Z (Qc Z Z Z Z (Qc Z Z Z Z (Qc Z Z Z Z (Qc Z Z Z Z (Qc Z Z Z Z (Qa (Qr Z Z) Z (Qo ⟨Z, Z, Z, Z, Z, Z, Z, Z, Z, Z, Z, Z, Z, Z, congrArg (fun b => some (Value.bool b)) (show true = ((!(nodeOk (g.nodes[i]'hi1))) || (!((((g.nodes[i]'hi1).kind) == 1) == (((i : Nat) : Int) == 0)))) by first | (rw [hg3] <;> rfl) | (simp [hg3]; done) | (simp only [Qn] <;> simp)), trivial⟩ Z)))))))
    ·refine Qk Z Z (Qb Y3 Z) Z (Qk Z Z (Qi Yk Z (h2.one 0 Z)) Z (Qk Z Z (Yw Z Z) Z (Qk Z Z (Qe Z) Z (Qk Z Z (Yw Z Z) Z (Qk Z Z (Ki (Tryz.underlying4) Z Z) Z (Qa (Qs Z Z) Z (Qo ⟨Z, Z, Z, Z, Z, Z, Z, Z, Z, Z, Z, Z, Z, Z, congrArg (fun b => some (Value.bool b)) (show (!((((g.nodes[i]'hi1).kind) == 1) == (((i : Nat) : Int) == 0))) = ((!(nodeOk (g.nodes[i]'hi1))) || (!((((g.nodes[i]'hi1).kind) == 1) == (((i : Nat) : Int) == 0)))) by first | (rw [hg3] <;> rfl) | (simp [hg3]; done) | (simp only [Qn] <;> simp)), trivial⟩ Z)))))))
   rintro _ rfl
   refine Qd (Qu Z (fun hc3 => ?_) (fun hc3 => ?_))
   ·refine Qf (Qh [true] Z Z (Qa (Qg Z) Z (Qd (Qw (Qx (Yg (Qx (Qm Z Z E ?_))))))))
    exact graph_a (by assumption)
   ·refine Qp (Qf (Qh [true] Z Z (Qa (Qg Z) Z (Qd (Qy (Yh (fun (k : Nat) => [(1, .pointer (some ⟨b1, 0, none⟩)), (2, .bool false), (3, .int .i64 ((i : Nat) : Int)), (4, .pointer (some ⟨b2, 0, none⟩)), (5, .int .i64 ((k : Nat) : Int))]) (fun (k : Nat) w' => Ext w w' ∧ w9.heap.size ≤ w'.heap.size ∧ Blk w' b1 ([o1, .int .i64 g.workers, .int .i64 g.cap]) ∧ Blk w' b2 [.int .i64 ((g.nodes[i]'hi1).kind), .int .i64 ((g.nodes[i]'hi1).a), .int .i64 ((g.nodes[i]'hi1).b), o2] ∧ k ≤ (g.nodes[i]'hi1).outs.length ∧ ((g.nodes[i]'hi1).outs.take k).all (fun to => !edgeBad g i (g.nodes[i]'hi1) to) = true) (fun (k : Nat) => (g.nodes[i]'hi1).outs.length - k) 0 ⟨Z, Z, Z, Z, Z, trivial⟩ ⟨E, Nat.le_refl _, h1, h2, Nat.zero_le _, Z⟩ ?_))))))
    clear E h1 h2
    rintro k w11 ⟨E, z10, h1, h2, hk, hI⟩
    refine Qf (Qf (Qh [true, true, true, true, true] Z Z (Qa (Qe Z) Z (Qa (Qb Q6 Z) Z (Qa (Qi Yy Z (h2.one 3 Z)) Z (Qa (Q4 Tryz.underlying68 Z (hd2.ext E).len) Z (Qa (Yb Z Z) Z (Qd (Qu Z (fun hc4 => ?_) (fun hc4 => ?_))))))))))
    ·have hc4n : k < ((g.nodes[i]'hi1).outs).length := by first | (have h := of_decide_eq_true hc4; omega) | (have h := hc4; simp at h; omega)
     refine Qp (Qf (Qy (Qf (Qh [true, true, true, true, true, true] Z Z (Qa (Qb Q6 Z) Z (Qa (Qi Yy Z (h2.one 3 Z)) Z (Qa (Qe Z) Z ?_)))))))
     have hi2 : k < ((g.nodes[i]'hi1).outs).length := (by first | assumption | omega | (simp only [List.length_set]; first | assumption | omega))
     refine Qa (Qv (i := k) Y5 Z Z (hd2.rd.ext E) hi2) Z (Qa (Qi Yk Z (((hd2.rd.ext E).get hi2).one 0 Z)) Z (Qa (Qg Z) Z (Qd (Qf (Qf (Qh [true, true, true, true, true, true, true, true, true, true, true, true, true, true, true] Z Z (Qa (Qe Z) Z (Qa (Qb Xp Z) Z (Qa (Qi sc32 Z (h1.one 0 Z)) Z (Qa (Q4 Tryz.underlying32 Z (hd1.ext E).len) Z (Qa (R_geq Z Z) Z (Qa (Qe Z) Z (Yz 9 [(1, .pointer (some ⟨b1, 0, none⟩)), (2, .bool false), (3, .int .i64 ((i : Nat) : Int)), (4, .pointer (some ⟨b2, 0, none⟩)), (5, .int .i64 ((k : Nat) : Int)), (6, .int .i64 (((g.nodes[i]'hi1).outs)[k]'hi2)), (48, .int .i64 ((k : Nat) : Int)), (49, .pointer (some ⟨b2, 3, none⟩)), (50, o2), (51, .int .i64 ((((g.nodes[i]'hi1).outs).length : Nat) : Int)), (52, .bool (decide (((k : Nat) : Int) < ((((g.nodes[i]'hi1).outs).length : Nat) : Int)))), (55, .pointer (some ⟨b2, 3, none⟩)), (56, o2), (57, .int .i64 ((k : Nat) : Int)), (58, .pointer (some ⟨Xm o2, Xl o2 + k * 1, none⟩)), (59, .int .i64 (((g.nodes[i]'hi1).outs)[k]'hi2)), (74, .bool ((decide (((g.nodes.length : Nat) : Int) ≤ (((g.nodes[i]'hi1).outs)[k]'hi2))) || ((((g.nodes[i]'hi1).kind) != 7) && (decide ((((g.nodes[i]'hi1).outs)[k]'hi2) ≤ ((i : Nat) : Int))))))] (fun w' => w11 = w') ?_ ?_)))))))))))))
     ·refine Ym (gd := 65) Z Z (fun hg4 => ?_) (fun hg4 => ?_)
      ·refine Qc Z Z Z Z (Qc Z Z Z Z (Qc Z Z Z Z (Qc Z Z Z Z (Qt Z Z Z (Qt Z Z Z (Qt Z Z Z (Qc Z Z Z Z (Qa (Qr Z Z) Z (Qo ⟨Z, Z, Z, Z, Z, Z, Z, Z, Z, Z, Z, Z, Z, Z, Z, Z, congrArg (fun b => some (Value.bool b)) (show true = ((decide (((g.nodes.length : Nat) : Int) ≤ (((g.nodes[i]'hi1).outs)[k]'hi2))) || ((((g.nodes[i]'hi1).kind) != 7) && (decide ((((g.nodes[i]'hi1).outs)[k]'hi2) ≤ ((i : Nat) : Int))))) by first | (rw [hg4] <;> rfl) | (simp [hg4]; done) | (simp only [Qn] <;> simp)), trivial⟩ Z)))))))))
      ·have hto := graph_to (h1 := hi1) (h2 := hi2) (by assumption)
       have htl := Int.not_le.1 (of_decide_eq_false hg4)
       refine Qk Z Z (Qb Y3 Z) Z (Qk Z Z (Qi Yk Z (h2.one 0 Z)) Z (Qk Z Z (Yr Z Z) Z (Qk Z Z (Qe Z) Z ?_)))
       refine Ym (gd := 69) Z Z (fun hg5 => ?_) (fun hg5 => ?_)
       ·refine Qk Z Z (Qe Z) Z (Qk Z Z (Qe Z) Z (Qk Z Z (R_leq Z Z) Z (Qk Z Z (Qr Z Z) Z (Qa (Qs Z Z) Z (Qo ⟨Z, Z, Z, Z, Z, Z, Z, Z, Z, Z, Z, Z, Z, Z, Z, Z, congrArg (fun b => some (Value.bool b)) (show (decide ((((g.nodes[i]'hi1).outs)[k]'hi2) ≤ ((i : Nat) : Int))) = ((decide (((g.nodes.length : Nat) : Int) ≤ (((g.nodes[i]'hi1).outs)[k]'hi2))) || ((((g.nodes[i]'hi1).kind) != 7) && (decide ((((g.nodes[i]'hi1).outs)[k]'hi2) ≤ ((i : Nat) : Int))))) by first | (rw [hg4, hg5] <;> rfl) | (simp [hg4, hg5]; done) | (simp only [Qn] <;> simp)), trivial⟩ Z)))))
       ·refine Qc Z Z Z Z (Qc Z Z Z Z (Qc Z Z Z Z (Qk Z Z (Qs Z Z) Z (Qa (Qs Z Z) Z (Qo ⟨Z, Z, Z, Z, Z, Z, Z, Z, Z, Z, Z, Z, Z, Z, Z, Z, congrArg (fun b => some (Value.bool b)) (show false = ((decide (((g.nodes.length : Nat) : Int) ≤ (((g.nodes[i]'hi1).outs)[k]'hi2))) || ((((g.nodes[i]'hi1).kind) != 7) && (decide ((((g.nodes[i]'hi1).outs)[k]'hi2) ≤ ((i : Nat) : Int))))) by first | (rw [hg4, hg5] <;> rfl) | (simp [hg4, hg5]; done) | (simp only [Qn] <;> simp)), trivial⟩ Z)))))
     rintro _ rfl
     refine Qd (Qu Z (fun hc5 => ?_) (fun hc5 => ?_))
     ·refine Qf (Qh [true] Z Z (Qa (Qg Z) Z (Qd (Qw (Qx (Yg (Qx (Qx (Yg (Qx (Qm Z Z E ?_)))))))))))
      exact graph_e (edge_s1 (by assumption))
     ·have hto := graph_to (h1 := hi1) (h2 := hi2) (by assumption)
      have htl := edge_lt hc5
      refine Qp (Qf (Qh [true, true, true, true, true, true, true] Z Z (Qa (Qb Xp Z) Z (Qa (Qi sc32 Z (h1.one 0 Z)) Z (Qa (Qe Z) Z ?_)))))
      have hi3 : (Int.toNat (((g.nodes[i]'hi1).outs)[k]'hi2)) < g.nodes.length := (by first | assumption | omega | (simp only [List.length_set]; first | assumption | omega))
      obtain ⟨_, hr2, ha2⟩ := RdD.get hd1 hi3
      obtain ⟨o3, rfl, hd3⟩ := Node.op hr2
      replace ha2 : At w (Xm o1) (Xl o1 + (Int.toNat (((g.nodes[i]'hi1).outs)[k]'hi2)) * 4) [.int .i64 ((g.nodes[(Int.toNat (((g.nodes[i]'hi1).outs)[k]'hi2))]'hi3).kind), .int .i64 ((g.nodes[(Int.toNat (((g.nodes[i]'hi1).outs)[k]'hi2))]'hi3).a), .int .i64 ((g.nodes[(Int.toNat (((g.nodes[i]'hi1).outs)[k]'hi2))]'hi3).b), o3] := ha2
      refine Qa (R_indexZ (i := (Int.toNat (((g.nodes[i]'hi1).outs)[k]'hi2))) sl32 Z Z (hd1.ext E).1 (by omega) hi3) Z (Qa (Qz Y3 Z) Z (Qa (Qi Yk Z ((ha2.ext E).one 0 Z)) Z (Qa (Qg Z) Z (Qd (Qf (Qh [true, true, true, true, true, true, true, true, true, true, true, true, true, true, true, true] Z Z (Qa (Qb Y3 Z) Z (Qa (Qi Yk Z (h2.one 0 Z)) Z (Qa (Yw Z Z) Z (Qa (Qe Z) Z (Yz 12 [(1, .pointer (some ⟨b1, 0, none⟩)), (2, .bool false), (3, .int .i64 ((i : Nat) : Int)), (4, .pointer (some ⟨b2, 0, none⟩)), (5, .int .i64 ((k : Nat) : Int)), (6, .int .i64 (((g.nodes[i]'hi1).outs)[k]'hi2)), (7, .int .i64 ((g.nodes[(Int.toNat (((g.nodes[i]'hi1).outs)[k]'hi2))]'hi3).kind)), (48, .int .i64 ((k : Nat) : Int)), (49, .pointer (some ⟨b2, 3, none⟩)), (50, o2), (51, .int .i64 ((((g.nodes[i]'hi1).outs).length : Nat) : Int)), (52, .bool (decide (((k : Nat) : Int) < ((((g.nodes[i]'hi1).outs).length : Nat) : Int)))), (55, .pointer (some ⟨b2, 3, none⟩)), (56, o2), (57, .int .i64 ((k : Nat) : Int)), (58, .pointer (some ⟨Xm o2, Xl o2 + k * 1, none⟩)), (59, .int .i64 (((g.nodes[i]'hi1).outs)[k]'hi2)), (74, .bool ((decide (((g.nodes.length : Nat) : Int) ≤ (((g.nodes[i]'hi1).outs)[k]'hi2))) || ((((g.nodes[i]'hi1).kind) != 7) && (decide ((((g.nodes[i]'hi1).outs)[k]'hi2) ≤ ((i : Nat) : Int)))))), (75, .pointer (some ⟨b1, 0, none⟩)), (76, o1), (77, .int .i64 (((g.nodes[i]'hi1).outs)[k]'hi2)), (78, .pointer (some ⟨Xm o1, Xl o1 + (Int.toNat (((g.nodes[i]'hi1).outs)[k]'hi2)) * 4, none⟩)), (79, .pointer (some ⟨(Xm o1), Xl o1 + (Int.toNat (((g.nodes[i]'hi1).outs)[k]'hi2)) * 4 + 0, none⟩)), (80, .int .i64 ((g.nodes[(Int.toNat (((g.nodes[i]'hi1).outs)[k]'hi2))]'hi3).kind)), (96, .bool ((((g.nodes[i]'hi1).kind) == 7) && ((decide (((i : Nat) : Int) < (((g.nodes[i]'hi1).outs)[k]'hi2))) || ((((g.nodes[(Int.toNat (((g.nodes[i]'hi1).outs)[k]'hi2))]'hi3).kind) != 5) && (((g.nodes[(Int.toNat (((g.nodes[i]'hi1).outs)[k]'hi2))]'hi3).kind) != 6)))))] (fun w' => w11 = w') ?_ ?_)))))))))))
      ·refine Ym (gd := 84) Z Z (fun hg6 => ?_) (fun hg6 => ?_)
       ·refine Qk Z Z (Qe Z) Z (Qk Z Z (Qe Z) Z (Qk Z Z (Xc Z Z) Z (Qk Z Z (Qe Z) Z ?_)))
        refine Ym (gd := 88) Z Z (fun hg7 => ?_) (fun hg7 => ?_)
        ·refine Qc Z Z Z Z (Qc Z Z Z Z (Qc Z Z Z Z (Qt Z Z Z (Qt Z Z Z (Qc Z Z Z Z (Qk Z Z (Qr Z Z) Z (Qa (Qr Z Z) Z (Qo ⟨Z, Z, Z, Z, Z, Z, Z, Z, Z, Z, Z, Z, Z, Z, Z, Z, Z, Z, Z, Z, Z, Z, Z, Z, congrArg (fun b => some (Value.bool b)) (show true = ((((g.nodes[i]'hi1).kind) == 7) && ((decide (((i : Nat) : Int) < (((g.nodes[i]'hi1).outs)[k]'hi2))) || ((((g.nodes[(Int.toNat (((g.nodes[i]'hi1).outs)[k]'hi2))]'hi3).kind) != 5) && (((g.nodes[(Int.toNat (((g.nodes[i]'hi1).outs)[k]'hi2))]'hi3).kind) != 6)))) by first | (rw [hg6, hg7] <;> rfl) | (simp [hg6, hg7]; done) | (simp only [Qn] <;> simp)), trivial⟩ Z))))))))
        ·refine Qk Z Z (Qe Z) Z (Qk Z Z (Yr Z Z) Z (Qk Z Z (Qe Z) Z ?_))
         refine Ym (gd := 91) Z Z (fun hg8 => ?_) (fun hg8 => ?_)
         ·refine Qk Z Z (Qe Z) Z (Qk Z Z (Yr Z Z) Z (Qk Z Z (Qr Z Z) Z (Qk Z Z (Qs Z Z) Z (Qa (Qr Z Z) Z (Qo ⟨Z, Z, Z, Z, Z, Z, Z, Z, Z, Z, Z, Z, Z, Z, Z, Z, Z, Z, Z, Z, Z, Z, Z, Z, congrArg (fun b => some (Value.bool b)) (show (((g.nodes[(Int.toNat (((g.nodes[i]'hi1).outs)[k]'hi2))]'hi3).kind) != 6) = ((((g.nodes[i]'hi1).kind) == 7) && ((decide (((i : Nat) : Int) < (((g.nodes[i]'hi1).outs)[k]'hi2))) || ((((g.nodes[(Int.toNat (((g.nodes[i]'hi1).outs)[k]'hi2))]'hi3).kind) != 5) && (((g.nodes[(Int.toNat (((g.nodes[i]'hi1).outs)[k]'hi2))]'hi3).kind) != 6)))) by first | (rw [hg6, hg7, hg8] <;> rfl) | (simp [hg6, hg7, hg8]; done) | (simp only [Qn] <;> simp)), trivial⟩ Z)))))
         ·refine Qc Z Z Z Z (Qc Z Z Z Z (Qk Z Z (Qs Z Z) Z (Qk Z Z (Qs Z Z) Z (Qa (Qr Z Z) Z (Qo ⟨Z, Z, Z, Z, Z, Z, Z, Z, Z, Z, Z, Z, Z, Z, Z, Z, Z, Z, Z, Z, Z, Z, Z, Z, congrArg (fun b => some (Value.bool b)) (show false = ((((g.nodes[i]'hi1).kind) == 7) && ((decide (((i : Nat) : Int) < (((g.nodes[i]'hi1).outs)[k]'hi2))) || ((((g.nodes[(Int.toNat (((g.nodes[i]'hi1).outs)[k]'hi2))]'hi3).kind) != 5) && (((g.nodes[(Int.toNat (((g.nodes[i]'hi1).outs)[k]'hi2))]'hi3).kind) != 6)))) by first | (rw [hg6, hg7, hg8] <;> rfl) | (simp [hg6, hg7, hg8]; done) | (simp only [Qn] <;> simp)), trivial⟩ Z)))))
       ·refine Qc Z Z Z Z (Qc Z Z Z Z (Qc Z Z Z Z (Qc Z Z Z Z (Qt Z Z Z (Qt Z Z Z (Qt Z Z Z (Qt Z Z Z (Qt Z Z Z (Qt Z Z Z (Qc Z Z Z Z (Qa (Qs Z Z) Z (Qo ⟨Z, Z, Z, Z, Z, Z, Z, Z, Z, Z, Z, Z, Z, Z, Z, Z, Z, Z, Z, Z, Z, Z, Z, Z, congrArg (fun b => some (Value.bool b)) (show false = ((((g.nodes[i]'hi1).kind) == 7) && ((decide (((i : Nat) : Int) < (((g.nodes[i]'hi1).outs)[k]'hi2))) || ((((g.nodes[(Int.toNat (((g.nodes[i]'hi1).outs)[k]'hi2))]'hi3).kind) != 5) && (((g.nodes[(Int.toNat (((g.nodes[i]'hi1).outs)[k]'hi2))]'hi3).kind) != 6)))) by first | (rw [hg6] <;> rfl) | (simp [hg6]; done) | (simp only [Qn] <;> simp)), trivial⟩ Z))))))))))))
      rintro _ rfl
      refine Qd (Qu Z (fun hc6 => ?_) (fun hc6 => ?_))
      ·refine Qf (Qh [true] Z Z (Qa (Qg Z) Z (Qd (Qw (Qx (Yg (Qx (Qx (Yg (Qx (Qm Z Z E ?_)))))))))))
       exact graph_e (edge_s2 (congrArg Node.kind (getD_at _)).symm (by assumption))
      ·refine Qp (Q5 (Yt (Qh [true, true, true] Z Z (Qa (Qe Z) Z (Qa (Q8 Z Z (Yq hc4n (hd2.ext E).1.1)) Z (Qa (Qg Z) Z (Qd (Q5 (Q9 (k + 1) (by omega) ⟨Z, Z, Z, Z, Z, trivial⟩ ⟨E, (by omega), h1, h2, (by omega), Y4 hI (by assumption) (edge_sn (congrArg Node.kind (getD_at _)).symm (by assumption) (by assumption))⟩)))))))))
    ·have hc4n : ¬ k < ((g.nodes[i]'hi1).outs).length := by first | (have h := of_decide_eq_false hc4; omega) | (have h := hc4; simp at h; omega)
     refine Yi (Q3 (Q2 ?_))
     refine Q5 (Yt (Qh [true, true, true] Z Z (Qa (Qe Z) Z (Qa (Q8 Z Z (Yq hc2n (hd1.ext E).1.1)) Z (Qa (Qg Z) Z (Qd (Q5 (Q9 (i + 1) (by omega) ⟨Z, Z, Z, trivial⟩ ⟨E, (by omega), h1, (by omega), graph_s (h1 := hi1) (by assumption) hI (by omega) hp⟩))))))))
  ·have hc2n : ¬ i < g.nodes.length := by first | (have h := of_decide_eq_false hc2; omega) | (have h := hc2; simp at h; omega)
   refine Yi (Q3 (Q2 ?_))
   refine Qf (Qh [true] Z Z (Qa (Qg Z) Z (Qd (Qw (Qm Z Z E ?_)))))
   exact graph_y (by assumption) hp (by omega)

set_option maxRecDepth 20000 in
theorem c_toStamp (x : Stamp) (w : World)  : Ct Tryz.prog 136 [.agg (Enc.enc x).toArray] w (fun v _ => v = .agg (Enc.enc x).toArray) := by
 refine Yj Tryz.func136 Z Tryz.ntmps136 Z ?_
 refine Q7 [(0, .agg (Enc.enc x).toArray)] ⟨Z, trivial⟩ ?_
 have E : Ext w w := Ext.refl w
 refine Qf (Qh [false, false] Z Z (Yx Z Z (fun b1 w1 e1 s1 h1 => ?_)))
 have g_b1 : w.heap.size ≤ b1 := by have := E.size; omega
 have y_b1 := h1.lt
 replace E := E.trans e1
 have z1 := e1.size
 refine Yu st103 Z (fun b2 w2 e2 s2 h2 => ?_)
 have g_b2 : w.heap.size ≤ b2 := by have := E.size; omega
 have y_b2 := h2.lt
 replace E := E.trans e2; replace h1 := h1.ext e2
 have z2 := e2.size
 refine Qd (Qf (Qh [false] Z Z (Yu st103 Z (fun b3 w3 e3 s3 h3 => ?_))))
 have g_b3 : w.heap.size ≤ b3 := by have := E.size; omega
 have y_b3 := h3.lt
 replace E := E.trans e3; replace h1 := h1.ext e3; replace h2 := h2.ext e3
 have z3 := e3.size
 refine Qd (Qf (Qh [true, true, true, false] Z Z (Qa (Qb fl169_0 Z) Z (Qa (Qi Yk Z (h1.one 0 Z)) Z (Qa (Qb fl103_0 Z) Z (Ye (cs' := [.int .i64 x.epoch, .int .i64 0]) Yk Z Z Z h3 (Nat.le_of_ble_eq_true Z) Z (fun w4 m1 h3' => ?_)))))))
 replace h3 := h3'
 replace E := E.step m1 (fun g hg => by cases hg; omega); replace h1 := h1.mod m1 (fun g hg => by cases hg; omega); replace h2 := h2.mod m1 (fun g hg => by cases hg; omega)
 have z4 := m1.size
 refine Qd (Qf (Qh [true, true, true, false] Z Z (Qa (Qb fl169_1 Z) Z (Qa (Qi Yk Z (h1.one 1 Z)) Z (Qa (Qb fl103_1 Z) Z (Ye (cs' := [.int .i64 x.epoch, .int .i64 x.turn]) Yk Z Z Z h3 (Nat.le_of_ble_eq_true Z) Z (fun w5 m2 h3' => ?_)))))))
 replace h3 := h3'
 replace E := E.step m2 (fun g hg => by cases hg; omega); replace h1 := h1.mod m2 (fun g hg => by cases hg; omega); replace h2 := h2.mod m2 (fun g hg => by cases hg; omega)
 have z5 := m2.size
 refine Qd (Qf (Qh [true, false] Z Z (Qa (Q1 st103 Z h3.at Z) Z (Ya (cs' := [.int .i64 x.epoch, .int .i64 x.turn]) st103 Z Z Z Z h2 (Nat.le_of_ble_eq_true Z) Z (fun w6 m3 h2' => ?_)))))
 replace h2 := h2'
 replace E := E.step m3 (fun g hg => by cases hg; omega); replace h1 := h1.mod m3 (fun g hg => by cases hg; omega); replace h3 := h3.mod m3 (fun g hg => by cases hg; omega)
 have z6 := m3.size
 refine Qd (Qw (Xi Z Z (Ys st103 h2.at Z) E ?_))
 rfl

set_option maxRecDepth 20000 in
theorem c_toRecord (x : Record) (w : World)  : Ct Tryz.prog 123 [.agg (Enc.enc x).toArray] w (fun v _ => v = .agg (Enc.enc x).toArray) := by
 refine Yj Tryz.func123 Z Tryz.ntmps123 Z ?_
 refine Q7 [(0, .agg (Enc.enc x).toArray)] ⟨Z, trivial⟩ ?_
 have E : Ext w w := Ext.refl w
 refine Qf (Qh [false, false] Z Z (Yx Z Z (fun b1 w1 e1 s1 h1 => ?_)))
 have g_b1 : w.heap.size ≤ b1 := by have := E.size; omega
 have y_b1 := h1.lt
 replace E := E.trans e1
 have z1 := e1.size
 refine Yu Kg Z (fun b2 w2 e2 s2 h2 => ?_)
 have g_b2 : w.heap.size ≤ b2 := by have := E.size; omega
 have y_b2 := h2.lt
 replace E := E.trans e2; replace h1 := h1.ext e2
 have z2 := e2.size
 refine Qd (Qf (Qh [false] Z Z (Yu Kg Z (fun b3 w3 e3 s3 h3 => ?_))))
 have g_b3 : w.heap.size ≤ b3 := by have := E.size; omega
 have y_b3 := h3.lt
 replace E := E.trans e3; replace h1 := h1.ext e3; replace h2 := h2.ext e3
 have z3 := e3.size
 refine Qd (Qf (Qh [true, true, true, false] Z Z (Qa (Qb fl171_0 Z) Z (Qa (Qi Yk Z (h1.one 0 Z)) Z (Qa (Qb fl105_0 Z) Z (Ye (cs' := [.int .i64 x.op, .int .i64 0, .int .i64 0, .int .i64 0, .int .i64 0]) Yk Z Z Z h3 (Nat.le_of_ble_eq_true Z) Z (fun w4 m1 h3' => ?_)))))))
 replace h3 := h3'
 replace E := E.step m1 (fun g hg => by cases hg; omega); replace h1 := h1.mod m1 (fun g hg => by cases hg; omega); replace h2 := h2.mod m1 (fun g hg => by cases hg; omega)
 have z4 := m1.size
 refine Qd (Qf (Qh [true, true, false, true, false] Z Z (Qa (Qb fl171_1 Z) Z (Qa (Q1 st169 Z (h1.part 1 [.int .i64 x.stamp.epoch, .int .i64 x.stamp.turn] Z) Z) Z (Q0 Tryz.call136 Z (c_toStamp x.stamp _ ) Z (fun _ w5 e4 hv => ?_))))))
 subst hv
 replace E := E.trans e4; replace h1 := h1.ext e4; replace h2 := h2.ext e4; replace h3 := h3.ext e4
 have z5 := e4.size
 refine Qa (Qb X9 Z) Z (Ya (cs' := [.int .i64 x.op, .int .i64 x.stamp.epoch, .int .i64 x.stamp.turn, .int .i64 0, .int .i64 0]) st103 Z Z Z Z h3 (Nat.le_of_ble_eq_true Z) Z (fun w6 m2 h3' => ?_))
 replace h3 := h3'
 replace E := E.step m2 (fun g hg => by cases hg; omega); replace h1 := h1.mod m2 (fun g hg => by cases hg; omega); replace h2 := h2.mod m2 (fun g hg => by cases hg; omega)
 have z6 := m2.size
 refine Qd (Qf (Qh [true, true, true, false] Z Z (Qa (Qb fl171_2 Z) Z (Qa (Qi Yk Z (h1.one 3 Z)) Z (Qa (Qb fl105_2 Z) Z (Ye (cs' := [.int .i64 x.op, .int .i64 x.stamp.epoch, .int .i64 x.stamp.turn, .int .i64 x.key, .int .i64 0]) Yk Z Z Z h3 (Nat.le_of_ble_eq_true Z) Z (fun w7 m3 h3' => ?_)))))))
 replace h3 := h3'
 replace E := E.step m3 (fun g hg => by cases hg; omega); replace h1 := h1.mod m3 (fun g hg => by cases hg; omega); replace h2 := h2.mod m3 (fun g hg => by cases hg; omega)
 have z7 := m3.size
 refine Qd (Qf (Qh [true, true, true, false] Z Z (Qa (Qb fl171_3 Z) Z (Qa (Qi Yk Z (h1.one 4 Z)) Z (Qa (Qb fl105_3 Z) Z (Ye (cs' := [.int .i64 x.op, .int .i64 x.stamp.epoch, .int .i64 x.stamp.turn, .int .i64 x.key, .int .i64 x.val]) Yk Z Z Z h3 (Nat.le_of_ble_eq_true Z) Z (fun w8 m4 h3' => ?_)))))))
 replace h3 := h3'
 replace E := E.step m4 (fun g hg => by cases hg; omega); replace h1 := h1.mod m4 (fun g hg => by cases hg; omega); replace h2 := h2.mod m4 (fun g hg => by cases hg; omega)
 have z8 := m4.size
 refine Qd (Qf (Qh [true, false] Z Z (Qa (Q1 Kg Z h3.at Z) Z (Ya (cs' := [.int .i64 x.op, .int .i64 x.stamp.epoch, .int .i64 x.stamp.turn, .int .i64 x.key, .int .i64 x.val]) Kg Z Z Z Z h2 (Nat.le_of_ble_eq_true Z) Z (fun w9 m5 h2' => ?_)))))
 replace h2 := h2'
 replace E := E.step m5 (fun g hg => by cases hg; omega); replace h1 := h1.mod m5 (fun g hg => by cases hg; omega); replace h3 := h3.mod m5 (fun g hg => by cases hg; omega)
 have z9 := m5.size
 refine Qd (Qw (Xi Z Z (Ys Kg h2.at Z) E ?_))
 rfl

set_option maxRecDepth 20000 in
theorem c_eqStamp (x : Stamp) (y : Stamp) (w : World)  : Ct Tryz.prog 141 [.agg (Enc.enc x).toArray, .agg (Enc.enc y).toArray] w (fun v _ => v = .bool (decide (x = y))) := by
 refine Yj Tryz.func141 Z Tryz.ntmps141 Z ?_
 refine Q7 [(0, .agg (Enc.enc x).toArray), (1, .agg (Enc.enc y).toArray)] ⟨Z, Z, trivial⟩ ?_
 have E : Ext w w := Ext.refl w
 refine Qf (Qh [false, false, true] Z Z (Yx Z Z (fun b1 w1 e1 s1 h1 => ?_)))
 have g_b1 : w.heap.size ≤ b1 := by have := E.size; omega
 have y_b1 := h1.lt
 replace E := E.trans e1
 have z1 := e1.size
 refine Yx Z Z (fun b2 w2 e2 s2 h2 => ?_)
 have g_b2 : w.heap.size ≤ b2 := by have := E.size; omega
 have y_b2 := h2.lt
 replace E := E.trans e2; replace h1 := h1.ext e2
 have z2 := e2.size
 refine Qa (Qg Z) Z (Qd (Qf (Qf (Qh [true, true, true, true, true] Z Z (Qa (Qb fl103_0 Z) Z (Qa (Qi Yk Z (h1.one 0 Z)) Z (Qa (Qb fl103_0 Z) Z (Qa (Qi Yk Z (h2.one 0 Z)) Z (Qa (Yr Z Z) Z (Qd (Qu Z (fun hc1 => ?_) (fun hc1 => ?_))))))))))))
 ·refine Qf (Qh [true] Z Z (Qa (Qg Z) Z (Qd (Qw (Qm Z Z E ?_)))))
  cases x; cases y; simp_all
 ·refine Qp (Qf (Qf (Qh [true, true, true, true, true] Z Z (Qa (Qb fl103_1 Z) Z (Qa (Qi Yk Z (h1.one 1 Z)) Z (Qa (Qb fl103_1 Z) Z (Qa (Qi Yk Z (h2.one 1 Z)) Z (Qa (Yr Z Z) Z (Qd (Qu Z (fun hc2 => ?_) (fun hc2 => ?_)))))))))))
  ·refine Qf (Qh [true] Z Z (Qa (Qg Z) Z (Qd (Qw (Qm Z Z E ?_)))))
   cases x; cases y; simp_all
  ·refine Qp (Qf (Qh [true] Z Z (Qa (Qg Z) Z (Qd (Qw (Qm Z Z E ?_))))))
   cases x; cases y; simp_all

set_option maxRecDepth 20000 in
theorem c_eqRecord (x : Record) (y : Record) (w : World)  : Ct Tryz.prog 131 [.agg (Enc.enc x).toArray, .agg (Enc.enc y).toArray] w (fun v _ => v = .bool (decide (x = y))) := by
 refine Yj Tryz.func131 Z Tryz.ntmps131 Z ?_
 refine Q7 [(0, .agg (Enc.enc x).toArray), (1, .agg (Enc.enc y).toArray)] ⟨Z, Z, trivial⟩ ?_
 have E : Ext w w := Ext.refl w
 refine Qf (Qh [false, false, true] Z Z (Yx Z Z (fun b1 w1 e1 s1 h1 => ?_)))
 have g_b1 : w.heap.size ≤ b1 := by have := E.size; omega
 have y_b1 := h1.lt
 replace E := E.trans e1
 have z1 := e1.size
 refine Yx Z Z (fun b2 w2 e2 s2 h2 => ?_)
 have g_b2 : w.heap.size ≤ b2 := by have := E.size; omega
 have y_b2 := h2.lt
 replace E := E.trans e2; replace h1 := h1.ext e2
 have z2 := e2.size
 refine Qa (Qg Z) Z (Qd (Qf (Qf (Qh [true, true, true, true, true] Z Z (Qa (Qb fl105_0 Z) Z (Qa (Qi Yk Z (h1.one 0 Z)) Z (Qa (Qb fl105_0 Z) Z (Qa (Qi Yk Z (h2.one 0 Z)) Z (Qa (Yr Z Z) Z (Qd (Qu Z (fun hc1 => ?_) (fun hc1 => ?_))))))))))))
 ·refine Qf (Qh [true] Z Z (Qa (Qg Z) Z (Qd (Qw (Qm Z Z E ?_)))))
  cases x; cases y; simp_all
 ·refine Qp (Qf (Qf (Qh [true, true, true, true, false, true] Z Z (Qa (Qb X9 Z) Z (Qa (Q1 st103 Z (h1.part 1 [.int .i64 x.stamp.epoch, .int .i64 x.stamp.turn] Z) Z) Z (Qa (Qb X9 Z) Z (Qa (Q1 st103 Z (h2.part 1 [.int .i64 y.stamp.epoch, .int .i64 y.stamp.turn] Z) Z) Z (Q0 Tryz.call141 Z (c_eqStamp x.stamp y.stamp _ ) Z (fun _ w3 e3 hv => ?_)))))))))
  subst hv
  replace E := E.trans e3; replace h1 := h1.ext e3; replace h2 := h2.ext e3
  have z3 := e3.size
  refine Qa (Yn Z) Z (Qd (Qu Z (fun hc2 => ?_) (fun hc2 => ?_)))
  ·refine Qf (Qh [true] Z Z (Qa (Qg Z) Z (Qd (Qw (Qm Z Z E ?_)))))
   cases x; cases y; simp_all
  ·refine Qp (Qf (Qf (Qh [true, true, true, true, true] Z Z (Qa (Qb fl105_2 Z) Z (Qa (Qi Yk Z (h1.one 3 Z)) Z (Qa (Qb fl105_2 Z) Z (Qa (Qi Yk Z (h2.one 3 Z)) Z (Qa (Yr Z Z) Z (Qd (Qu Z (fun hc3 => ?_) (fun hc3 => ?_)))))))))))
   ·refine Qf (Qh [true] Z Z (Qa (Qg Z) Z (Qd (Qw (Qm Z Z E ?_)))))
    cases x; cases y; simp_all
   ·refine Qp (Qf (Qf (Qh [true, true, true, true, true] Z Z (Qa (Qb fl105_3 Z) Z (Qa (Qi Yk Z (h1.one 4 Z)) Z (Qa (Qb fl105_3 Z) Z (Qa (Qi Yk Z (h2.one 4 Z)) Z (Qa (Yr Z Z) Z (Qd (Qu Z (fun hc4 => ?_) (fun hc4 => ?_)))))))))))
    ·refine Qf (Qh [true] Z Z (Qa (Qg Z) Z (Qd (Qw (Qm Z Z E ?_)))))
     cases x; cases y; simp_all
    ·refine Qp (Qf (Qh [true] Z Z (Qa (Qg Z) Z (Qd (Qw (Qm Z Z E ?_))))))
     cases x; cases y; simp_all

set_option maxRecDepth 20000 in
theorem c_toDone (x : Done) (w : World)  : Ct Tryz.prog 125 [.agg (Enc.enc x).toArray] w (fun v _ => v = .agg (Enc.enc x).toArray) := by
 refine Yj Tryz.func125 Z Tryz.ntmps125 Z ?_
 refine Q7 [(0, .agg (Enc.enc x).toArray)] ⟨Z, trivial⟩ ?_
 have E : Ext w w := Ext.refl w
 refine Qf (Qh [false, false] Z Z (Yx Z Z (fun b1 w1 e1 s1 h1 => ?_)))
 have g_b1 : w.heap.size ≤ b1 := by have := E.size; omega
 have y_b1 := h1.lt
 replace E := E.trans e1
 have z1 := e1.size
 refine Yu st156 Z (fun b2 w2 e2 s2 h2 => ?_)
 have g_b2 : w.heap.size ≤ b2 := by have := E.size; omega
 have y_b2 := h2.lt
 replace E := E.trans e2; replace h1 := h1.ext e2
 have z2 := e2.size
 refine Qd (Qf (Qh [false] Z Z (Yu st156 Z (fun b3 w3 e3 s3 h3 => ?_))))
 have g_b3 : w.heap.size ≤ b3 := by have := E.size; omega
 have y_b3 := h3.lt
 replace E := E.trans e3; replace h1 := h1.ext e3; replace h2 := h2.ext e3
 have z3 := e3.size
 refine Qd (Qf (Qh [true, true, true, false] Z Z (Qa (Qb fl175_0 Z) Z (Qa (Qi Yk Z (h1.one 0 Z)) Z (Qa (Qb fl156_0 Z) Z (Ye (cs' := [.int .i64 x.epoch, .bool false]) Yk Z Z Z h3 (Nat.le_of_ble_eq_true Z) Z (fun w4 m1 h3' => ?_)))))))
 replace h3 := h3'
 replace E := E.step m1 (fun g hg => by cases hg; omega); replace h1 := h1.mod m1 (fun g hg => by cases hg; omega); replace h2 := h2.mod m1 (fun g hg => by cases hg; omega)
 have z4 := m1.size
 refine Qd (Qf (Qh [true, true, true, false] Z Z (Qa (Qb fl175_1 Z) Z (Qa (Qi sc4 Z (h1.one 1 Z)) Z (Qa (Qb fl156_1 Z) Z (Ye (cs' := [.int .i64 x.epoch, .bool x.capped]) sc4 Z Z Z h3 (Nat.le_of_ble_eq_true Z) Z (fun w5 m2 h3' => ?_)))))))
 replace h3 := h3'
 replace E := E.step m2 (fun g hg => by cases hg; omega); replace h1 := h1.mod m2 (fun g hg => by cases hg; omega); replace h2 := h2.mod m2 (fun g hg => by cases hg; omega)
 have z5 := m2.size
 refine Qd (Qf (Qh [true, false] Z Z (Qa (Q1 st156 Z h3.at Z) Z (Ya (cs' := [.int .i64 x.epoch, .bool x.capped]) st156 Z Z Z Z h2 (Nat.le_of_ble_eq_true Z) Z (fun w6 m3 h2' => ?_)))))
 replace h2 := h2'
 replace E := E.step m3 (fun g hg => by cases hg; omega); replace h1 := h1.mod m3 (fun g hg => by cases hg; omega); replace h3 := h3.mod m3 (fun g hg => by cases hg; omega)
 have z6 := m3.size
 refine Qd (Qw (Xi Z Z (Ys st156 h2.at Z) E ?_))
 rfl

set_option maxRecDepth 20000 in
theorem c_eqDone (x : Done) (y : Done) (w : World)  : Ct Tryz.prog 133 [.agg (Enc.enc x).toArray, .agg (Enc.enc y).toArray] w (fun v _ => v = .bool (decide (x = y))) := by
 refine Yj Tryz.func133 Z Tryz.ntmps133 Z ?_
 refine Q7 [(0, .agg (Enc.enc x).toArray), (1, .agg (Enc.enc y).toArray)] ⟨Z, Z, trivial⟩ ?_
 have E : Ext w w := Ext.refl w
 refine Qf (Qh [false, false, true] Z Z (Yx Z Z (fun b1 w1 e1 s1 h1 => ?_)))
 have g_b1 : w.heap.size ≤ b1 := by have := E.size; omega
 have y_b1 := h1.lt
 replace E := E.trans e1
 have z1 := e1.size
 refine Yx Z Z (fun b2 w2 e2 s2 h2 => ?_)
 have g_b2 : w.heap.size ≤ b2 := by have := E.size; omega
 have y_b2 := h2.lt
 replace E := E.trans e2; replace h1 := h1.ext e2
 have z2 := e2.size
 refine Qa (Qg Z) Z (Qd (Qf (Qf (Qh [true, true, true, true, true] Z Z (Qa (Qb fl156_0 Z) Z (Qa (Qi Yk Z (h1.one 0 Z)) Z (Qa (Qb fl156_0 Z) Z (Qa (Qi Yk Z (h2.one 0 Z)) Z (Qa (Yr Z Z) Z (Qd (Qu Z (fun hc1 => ?_) (fun hc1 => ?_))))))))))))
 ·refine Qf (Qh [true] Z Z (Qa (Qg Z) Z (Qd (Qw (Qm Z Z E ?_)))))
  cases x; cases y; simp_all
 ·refine Qp (Qf (Qf (Qh [true, true, true, true, true] Z Z (Qa (Qb fl156_1 Z) Z (Qa (Qi sc4 Z (h1.one 1 Z)) Z (Qa (Qb fl156_1 Z) Z (Qa (Qi sc4 Z (h2.one 1 Z)) Z (Qa (Ki (Tryz.underlying4) Z Z) Z (Qd (Qu Z (fun hc2 => ?_) (fun hc2 => ?_)))))))))))
  ·refine Qf (Qh [true] Z Z (Qa (Qg Z) Z (Qd (Qw (Qm Z Z E ?_)))))
   cases x; cases y; simp_all
  ·refine Qp (Qf (Qh [true] Z Z (Qa (Qg Z) Z (Qd (Qw (Qm Z Z E ?_))))))
   cases x; cases y; simp_all

set_option maxRecDepth 20000 in
theorem c_szRecordS (vxs : Value) (xs : List Record) (n : Int) (w : World) (hxs : RdS w vxs xs) (h0 : 0 ≤ n ∧ n ≤ 1048576) : Ct Tryz.prog 87 [vxs, .int .i64 n] w (fun v _ => v = .int .i64 (Kh xs.length n)) := by
 refine Yj Tryz.func87 Z Tryz.ntmps87 Z ?_
 refine Q7 [(0, vxs), (1, .int .i64 n)] ⟨Z, Z, trivial⟩ ?_
 have E : Ext w w := Ext.refl w
 refine Qf (Qh [true] Z Z (Qa (Qg Z) Z (Qd (Qf (Qh [true, true, true, true, true] Z Z (Qa (Qe Z) Z (Qa (Qe Z) Z (Qa (Q4 Tryz.underlying93 Z (hxs.ext E).len) Z (Qa (Ka Z Z Z) Z (Qa (Qg Z) Z (Qd (Qf (Qf (Qh [true, true] Z Z (Qa (Qe Z) Z (Qa (Yb Z Z) Z (Qd (Qu Z (fun hc1 => ?_) (fun hc1 => ?_)))))))))))))))))))
 ·refine Qf (Qh [true] Z Z (Qa (Qg Z) Z (Qd (Qw (Qm Z Z E ?_)))))
  exact sz_no h0.2 h0.1 hxs.1 hc1
 ·refine Qp (Qf (Qh [true, true] Z Z (Qa (Qe Z) Z (Qa (Qg Z) Z (Qd (Qw (Qm Z Z E ?_)))))))
  exact sz_yes h0.2 h0.1 hxs.1 hc1

set_option maxRecDepth 20000 in
theorem c_toRecordS (vxs : Value) (xs : List Record) (w : World) (hxs : RdS w vxs xs) (hb : xs.length ≤ 1048576) : Ct Tryz.prog 101 [vxs] w (fun v w' => Own w' w.heap.size w'.heap.size 5 v (List.flatMap (Enc.enc (α := Record)) xs)) := by
 refine Yj Tryz.func101 Z Tryz.ntmps101 Z ?_
 refine Q7 [(0, vxs)] ⟨Z, trivial⟩ ?_
 have E : Ext w w := Ext.refl w
 refine Qf (Qh [true] Z Z (Qa (Qg Z) Z (Qd (Qf (Qh [true, true, false, true] Z Z (Qa (Qe Z) Z (Qa (Q4 Tryz.underlying93 Z (hxs.ext E).len) Z (J_make (m := xs.length) Xx Z Z (by omega) (by decide) Z (fun b1 w1 e1 s1 h1 => ?_)))))))))
 have g_b1 : w.heap.size ≤ b1 := by have := E.size; omega
 have y_b1 := h1.lt
 replace E := E.trans e1
 have z1 := e1.size
 refine Qa (Qg Z) Z (Qd (Qf (Qf (Qh [true] Z Z (Qa (Qg Z) Z (Qd (Qy (Yh (fun (k : Nat) => [(0, vxs), (2, .slice none 0 0), (3, .slice (some ⟨b1, 0, none⟩) xs.length xs.length), (4, .int .i64 ((k : Nat) : Int))]) (fun (k : Nat) w' => Ext w w' ∧ w1.heap.size ≤ w'.heap.size ∧ k ≤ xs.length ∧ Blk w' b1 (mk xs [.int .i64 0, .int .i64 0, .int .i64 0, .int .i64 0, .int .i64 0] k xs.length)) (fun (k : Nat) => xs.length - k) 0 ⟨Z, Z, Z, Z, trivial⟩ ⟨E, Nat.le_refl _, Nat.zero_le _, (mk_zero xs [.int .i64 0, .int .i64 0, .int .i64 0, .int .i64 0, .int .i64 0] xs.length) ▸ h1⟩ ?_))))))))
 clear E h1
 rintro k w2 ⟨E, z2, hk, h1⟩
 refine Qf (Qf (Qh [true, true, true, true] Z Z (Qa (Qe Z) Z (Qa (Qe Z) Z (Qa (Q4 Tryz.underlying93 Z (hxs.ext E).len) Z (Qa (Yb Z Z) Z (Qd (Qu Z (fun hc1 => ?_) (fun hc1 => ?_)))))))))
 ·have hc1n : k < xs.length := by first | (have h := of_decide_eq_true hc1; omega) | (have h := hc1; simp at h; omega)
  refine Qp (Qf (Qy (Qh [true, true, true, true, true, true, false, true, false] Z Z (Qa (Qe Z) Z (Qa (Qe Z) Z (Qa (Qe Z) Z (Qa (Qe Z) Z ?_)))))))
  have hi1 : k < xs.length := (by first | assumption | omega | (simp only [List.length_set]; first | assumption | omega))
  refine Qa (Qv (i := k) sl93 Z Z (hxs.ext E) hi1) Z (Qa (Q1 st171 Z ((hxs.ext E).get hi1) Z) Z (Q0 Tryz.call123 Z (c_toRecord (xs[k]'hi1) _ ) Z (fun _ w3 e2 hv => ?_)))
  subst hv
  replace E := E.trans e2; replace h1 := h1.ext e2
  have z3 := e2.size
  refine Qa (R_indexB Xx Z Z (by first | assumption | omega | (simp only [List.length_set]; first | assumption | omega))) Z (Ya (cs' := mk xs [.int .i64 0, .int .i64 0, .int .i64 0, .int .i64 0, .int .i64 0] (k + 1) xs.length) Kg Z Z Z Z h1 (mk_room xs [.int .i64 0, .int .i64 0, .int .i64 0, .int .i64 0, .int .i64 0] Z hc1n hc1n (by rfl)) (mk_step xs [.int .i64 0, .int .i64 0, .int .i64 0, .int .i64 0, .int .i64 0] Z hc1n hc1n) (fun w4 m1 h1' => ?_))
  replace h1 := h1'
  replace E := E.step m1 (fun g hg => by cases hg; omega)
  have z4 := m1.size
  refine Qd (Q5 (Yt (Qh [true, true, true] Z Z (Qa (Qe Z) Z (Qa (Q8 Z Z (Yq hc1n hxs.1)) Z (Qa (Qg Z) Z (Qd (Q5 (Q9 (k + 1) (by omega) ⟨Z, Z, Z, Z, trivial⟩ ⟨E, (by omega), (by omega), h1⟩)))))))))
 ·have hc1n : ¬ k < xs.length := by first | (have h := of_decide_eq_false hc1; omega) | (have h := hc1; simp at h; omega)
  refine Yi (Q3 (Q2 ?_))
  refine Qf (Qh [true, true] Z Z (Qa (Qe Z) Z (Qa (Qg Z) Z (Qd (Qw (Qm Z Z E ?_))))))
  obtain rfl : k = xs.length := by omega
  rw [mk_all] at h1
  exact Own.ofBlk h1 (by omega) (by have := h1.lt; omega) (Y0 xs) hxs.1

set_option maxRecDepth 20000 in
theorem c_eqRecordS (vxs : Value) (xs : List Record) (vys : Value) (ys : List Record) (w : World) (hxs : RdS w vxs xs) (hys : RdS w vys ys) : Ct Tryz.prog 114 [vxs, vys] w (fun v _ => v = .bool (decide (xs = ys))) := by
 refine Yj Tryz.func114 Z Tryz.ntmps114 Z ?_
 refine Q7 [(0, vxs), (1, vys)] ⟨Z, Z, trivial⟩ ?_
 have E : Ext w w := Ext.refl w
 refine Qf (Qh [true] Z Z (Qa (Qg Z) Z (Qd (Qf (Qf (Qh [true, true, true, true, true] Z Z (Qa (Qe Z) Z (Qa (Q4 Tryz.underlying66 Z (hxs.ext E).len) Z (Qa (Qe Z) Z (Qa (Q4 Tryz.underlying66 Z (hys.ext E).len) Z (Qa (Yr Z Z) Z (Qd (Qu Z (fun hc1 => ?_) (fun hc1 => ?_))))))))))))))
 ·have hc1n : ¬ xs.length = ys.length := by first | (have h := of_decide_eq_true hc1; omega) | (have h := hc1; simp at h; omega)
  refine Qf (Qh [true] Z Z (Qa (Qg Z) Z (Qd (Qw (Qm Z Z E ?_)))))
  simp [eq_len hc1n]
 ·have hc1n : xs.length = ys.length := by first | (have h := of_decide_eq_false hc1; omega) | (have h := hc1; simp at h; omega)
  refine Qp (Qf (Qf (Qh [true] Z Z (Qa (Qg Z) Z (Qd (Qy (Yh (fun (k : Nat) => [(0, vxs), (1, vys), (4, .bool false), (5, .int .i64 ((k : Nat) : Int))]) (fun (k : Nat) w' => Ext w w' ∧ w.heap.size ≤ w'.heap.size ∧ k ≤ xs.length ∧ xs.take k = ys.take k) (fun (k : Nat) => xs.length - k) 0 ⟨Z, Z, Z, Z, trivial⟩ ⟨E, Nat.le_refl _, Nat.zero_le _, Z⟩ ?_)))))))
  clear E
  rintro k w1 ⟨E, z1, hk, hp⟩
  refine Qf (Qf (Qh [true, true, true, true] Z Z (Qa (Qe Z) Z (Qa (Qe Z) Z (Qa (Q4 Tryz.underlying66 Z (hxs.ext E).len) Z (Qa (Yb Z Z) Z (Qd (Qu Z (fun hc2 => ?_) (fun hc2 => ?_)))))))))
  ·have hc2n : k < xs.length := by first | (have h := of_decide_eq_true hc2; omega) | (have h := hc2; simp at h; omega)
   refine Qp (Qf (Qy (Qf (Y7 Y8 [(0, true), (1, true), (2, true), (3, true), (4, true), (5, true), (6, true), (7, true), (8, false), (9, true)] (by decide +kernel) Z (fun w2 e1 => ?_)))))
   replace E := E.trans e1
   have z2 := e1.size
   refine Qa (Qe Z) Z (Qa (Qe Z) Z ?_)
   have hi1 : k < xs.length := (by first | assumption | omega | (simp only [List.length_set]; first | assumption | omega))
   refine Qa (Qv (i := k) Xx Z Z (hxs.ext E) hi1) Z (Qa (Q1 Kg Z ((hxs.ext E).get hi1) Z) Z (Qa (Qe Z) Z (Qa (Qe Z) Z ?_)))
   have hi2 : k < ys.length := (by first | assumption | omega | (simp only [List.length_set]; first | assumption | omega))
   refine Qa (Qv (i := k) Xx Z Z (hys.ext E) hi2) Z (Qa (Q1 Kg Z ((hys.ext E).get hi2) Z) Z (Q0 Tryz.call131 Z (c_eqRecord (xs[k]'hi1) (ys[k]'hi2) _ ) Z (fun _ w3 e2 hv => ?_)))
   subst hv
   replace E := E.trans e2
   have z3 := e2.size
   refine Qa (Yn Z) Z (Qd (Qu Z (fun hc3 => ?_) (fun hc3 => ?_)))
   ·refine Qf (Qh [true] Z Z (Qa (Qg Z) Z (Qd (Qw (Qx (Yg (Qx (Qm Z Z E ?_))))))))
    exact eqS_no (by omega) (by omega) (by simpa using hc3)
   ·refine Qp (Q5 (Yt (Qh [true, true, true] Z Z (Qa (Qe Z) Z (Qa (Q8 Z Z (Yq hc2n hxs.1)) Z (Qa (Qg Z) Z (Qd (Q5 (Q9 (k + 1) (by omega) ⟨Z, Z, Z, Z, trivial⟩ ⟨E, (by omega), (by omega), eqS_step hp (by assumption) (by omega) (by simpa using hc3)⟩)))))))))
  ·have hc2n : ¬ k < xs.length := by first | (have h := of_decide_eq_false hc2; omega) | (have h := hc2; simp at h; omega)
   refine Yi (Q3 (Q2 ?_))
   refine Qf (Qh [true] Z Z (Qa (Qg Z) Z (Qd (Qw (Qm Z Z E ?_)))))
   exact eqS_yes hp hc1n (by omega)

set_option maxRecDepth 20000 in
theorem c_szBoolS (vxs : Value) (xs : List Bool) (n : Int) (w : World) (hxs : RdS w vxs xs) (h0 : 0 ≤ n ∧ n ≤ 1048576) : Ct Tryz.prog 90 [vxs, .int .i64 n] w (fun v _ => v = .int .i64 (Kh xs.length n)) := by
 refine Yj Tryz.func90 Z Tryz.ntmps90 Z ?_
 refine Q7 [(0, vxs), (1, .int .i64 n)] ⟨Z, Z, trivial⟩ ?_
 have E : Ext w w := Ext.refl w
 refine Qf (Qh [true] Z Z (Qa (Qg Z) Z (Qd (Qf (Qh [true, true, true, true, true] Z Z (Qa (Qe Z) Z (Qa (Qe Z) Z (Qa (Q4 Tryz.underlying69 Z (hxs.ext E).len) Z (Qa (Ka Z Z Z) Z (Qa (Qg Z) Z (Qd (Qf (Qf (Qh [true, true] Z Z (Qa (Qe Z) Z (Qa (Yb Z Z) Z (Qd (Qu Z (fun hc1 => ?_) (fun hc1 => ?_)))))))))))))))))))
 ·refine Qf (Qh [true] Z Z (Qa (Qg Z) Z (Qd (Qw (Qm Z Z E ?_)))))
  exact sz_no h0.2 h0.1 hxs.1 hc1
 ·refine Qp (Qf (Qh [true, true] Z Z (Qa (Qe Z) Z (Qa (Qg Z) Z (Qd (Qw (Qm Z Z E ?_)))))))
  exact sz_yes h0.2 h0.1 hxs.1 hc1

set_option maxRecDepth 20000 in
theorem c_toBoolS (vxs : Value) (xs : List Bool) (w : World) (hxs : RdS w vxs xs) (hb : xs.length ≤ 1048576) : Ct Tryz.prog 104 [vxs] w (fun v w' => Own w' w.heap.size w'.heap.size 1 v (List.flatMap (Enc.enc (α := Bool)) xs)) := by
 refine Yj Tryz.func104 Z Tryz.ntmps104 Z ?_
 refine Q7 [(0, vxs)] ⟨Z, trivial⟩ ?_
 have E : Ext w w := Ext.refl w
 refine Qf (Qh [true] Z Z (Qa (Qg Z) Z (Qd (Qf (Qh [true, true, false, true] Z Z (Qa (Qe Z) Z (Qa (Q4 Tryz.underlying69 Z (hxs.ext E).len) Z (J_make (m := xs.length) sl69 Z Z (by omega) (by decide) Z (fun b1 w1 e1 s1 h1 => ?_)))))))))
 have g_b1 : w.heap.size ≤ b1 := by have := E.size; omega
 have y_b1 := h1.lt
 replace E := E.trans e1
 have z1 := e1.size
 refine Qa (Qg Z) Z (Qd (Qf (Qf (Qh [true] Z Z (Qa (Qg Z) Z (Qd (Qy (Yh (fun (k : Nat) => [(0, vxs), (2, .slice none 0 0), (3, .slice (some ⟨b1, 0, none⟩) xs.length xs.length), (4, .int .i64 ((k : Nat) : Int))]) (fun (k : Nat) w' => Ext w w' ∧ w1.heap.size ≤ w'.heap.size ∧ k ≤ xs.length ∧ Blk w' b1 (mk xs [.bool false] k xs.length)) (fun (k : Nat) => xs.length - k) 0 ⟨Z, Z, Z, Z, trivial⟩ ⟨E, Nat.le_refl _, Nat.zero_le _, (mk_zero xs [.bool false] xs.length) ▸ h1⟩ ?_))))))))
 clear E h1
 rintro k w2 ⟨E, z2, hk, h1⟩
 refine Qf (Qf (Qh [true, true, true, true] Z Z (Qa (Qe Z) Z (Qa (Qe Z) Z (Qa (Q4 Tryz.underlying69 Z (hxs.ext E).len) Z (Qa (Yb Z Z) Z (Qd (Qu Z (fun hc1 => ?_) (fun hc1 => ?_)))))))))
 ·have hc1n : k < xs.length := by first | (have h := of_decide_eq_true hc1; omega) | (have h := hc1; simp at h; omega)
  refine Qp (Qf (Qy (Qh [true, true, true, true, true, true, true, false] Z Z (Qa (Qe Z) Z (Qa (Qe Z) Z (Qa (Qe Z) Z (Qa (Qe Z) Z ?_)))))))
  have hi1 : k < xs.length := (by first | assumption | omega | (simp only [List.length_set]; first | assumption | omega))
  refine Qa (Qv (i := k) sl69 Z Z (hxs.ext E) hi1) Z (Qa (Qi sc4 Z (((hxs.ext E).get hi1).one 0 Z)) Z (Qa (R_indexB sl69 Z Z (by first | assumption | omega | (simp only [List.length_set]; first | assumption | omega))) Z (Ye (cs' := mk xs [.bool false] (k + 1) xs.length) sc4 Z Z Z h1 (mk_room xs [.bool false] Z hc1n hc1n (by rfl)) (mk_step xs [.bool false] Z hc1n hc1n) (fun w3 m1 h1' => ?_))))
  replace h1 := h1'
  replace E := E.step m1 (fun g hg => by cases hg; omega)
  have z3 := m1.size
  refine Qd (Q5 (Yt (Qh [true, true, true] Z Z (Qa (Qe Z) Z (Qa (Q8 Z Z (Yq hc1n hxs.1)) Z (Qa (Qg Z) Z (Qd (Q5 (Q9 (k + 1) (by omega) ⟨Z, Z, Z, Z, trivial⟩ ⟨E, (by omega), (by omega), h1⟩)))))))))
 ·have hc1n : ¬ k < xs.length := by first | (have h := of_decide_eq_false hc1; omega) | (have h := hc1; simp at h; omega)
  refine Yi (Q3 (Q2 ?_))
  refine Qf (Qh [true, true] Z Z (Qa (Qe Z) Z (Qa (Qg Z) Z (Qd (Qw (Qm Z Z E ?_))))))
  obtain rfl : k = xs.length := by omega
  rw [mk_all] at h1
  exact Own.ofBlk h1 (by omega) (by have := h1.lt; omega) (Y0 xs) hxs.1

set_option maxRecDepth 20000 in
theorem c_eqBoolS (vxs : Value) (xs : List Bool) (vys : Value) (ys : List Bool) (w : World) (hxs : RdS w vxs xs) (hys : RdS w vys ys) : Ct Tryz.prog 117 [vxs, vys] w (fun v _ => v = .bool (decide (xs = ys))) := by
 refine Yj Tryz.func117 Z Tryz.ntmps117 Z ?_
 refine Q7 [(0, vxs), (1, vys)] ⟨Z, Z, trivial⟩ ?_
 have E : Ext w w := Ext.refl w
 refine Qf (Qh [true] Z Z (Qa (Qg Z) Z (Qd (Qf (Qf (Qh [true, true, true, true, true] Z Z (Qa (Qe Z) Z (Qa (Q4 Tryz.underlying69 Z (hxs.ext E).len) Z (Qa (Qe Z) Z (Qa (Q4 Tryz.underlying69 Z (hys.ext E).len) Z (Qa (Yr Z Z) Z (Qd (Qu Z (fun hc1 => ?_) (fun hc1 => ?_))))))))))))))
 ·have hc1n : ¬ xs.length = ys.length := by first | (have h := of_decide_eq_true hc1; omega) | (have h := hc1; simp at h; omega)
  refine Qf (Qh [true] Z Z (Qa (Qg Z) Z (Qd (Qw (Qm Z Z E ?_)))))
  simp [eq_len hc1n]
 ·have hc1n : xs.length = ys.length := by first | (have h := of_decide_eq_false hc1; omega) | (have h := hc1; simp at h; omega)
  refine Qp (Qf (Qf (Qh [true] Z Z (Qa (Qg Z) Z (Qd (Qy (Yh (fun (k : Nat) => [(0, vxs), (1, vys), (4, .bool false), (5, .int .i64 ((k : Nat) : Int))]) (fun (k : Nat) w' => Ext w w' ∧ w.heap.size ≤ w'.heap.size ∧ k ≤ xs.length ∧ xs.take k = ys.take k) (fun (k : Nat) => xs.length - k) 0 ⟨Z, Z, Z, Z, trivial⟩ ⟨E, Nat.le_refl _, Nat.zero_le _, Z⟩ ?_)))))))
  clear E
  rintro k w1 ⟨E, z1, hk, hp⟩
  refine Qf (Qf (Qh [true, true, true, true] Z Z (Qa (Qe Z) Z (Qa (Qe Z) Z (Qa (Q4 Tryz.underlying69 Z (hxs.ext E).len) Z (Qa (Yb Z Z) Z (Qd (Qu Z (fun hc2 => ?_) (fun hc2 => ?_)))))))))
  ·have hc2n : k < xs.length := by first | (have h := of_decide_eq_true hc2; omega) | (have h := hc2; simp at h; omega)
   refine Qp (Qf (Qy (Qf (Y7 Y8 [(0, true), (1, true), (2, true), (3, true), (4, true), (5, true), (6, true), (7, true), (8, true)] (by decide +kernel) Z (fun w2 e1 => ?_)))))
   replace E := E.trans e1
   have z2 := e1.size
   refine Qa (Qe Z) Z (Qa (Qe Z) Z ?_)
   have hi1 : k < xs.length := (by first | assumption | omega | (simp only [List.length_set]; first | assumption | omega))
   refine Qa (Qv (i := k) sl69 Z Z (hxs.ext E) hi1) Z (Qa (Qi sc4 Z (((hxs.ext E).get hi1).one 0 Z)) Z (Qa (Qe Z) Z (Qa (Qe Z) Z ?_)))
   have hi2 : k < ys.length := (by first | assumption | omega | (simp only [List.length_set]; first | assumption | omega))
   refine Qa (Qv (i := k) sl69 Z Z (hys.ext E) hi2) Z (Qa (Qi sc4 Z (((hys.ext E).get hi2).one 0 Z)) Z (Qa (Ki (Tryz.underlying4) Z Z) Z (Qd (Qu Z (fun hc3 => ?_) (fun hc3 => ?_)))))
   ·refine Qf (Qh [true] Z Z (Qa (Qg Z) Z (Qd (Qw (Qx (Yg (Qx (Qm Z Z E ?_))))))))
    exact eqS_no (by omega) (by omega) (by simpa using hc3)
   ·refine Qp (Q5 (Yt (Qh [true, true, true] Z Z (Qa (Qe Z) Z (Qa (Q8 Z Z (Yq hc2n hxs.1)) Z (Qa (Qg Z) Z (Qd (Q5 (Q9 (k + 1) (by omega) ⟨Z, Z, Z, Z, trivial⟩ ⟨E, (by omega), (by omega), eqS_step hp (by assumption) (by omega) (by simpa using hc3)⟩)))))))))
  ·have hc2n : ¬ k < xs.length := by first | (have h := of_decide_eq_false hc2; omega) | (have h := hc2; simp at h; omega)
   refine Yi (Q3 (Q2 ?_))
   refine Qf (Qh [true] Z Z (Qa (Qg Z) Z (Qd (Qw (Qm Z Z E ?_)))))
   exact eqS_yes hp hc1n (by omega)

set_option maxRecDepth 20000 in
theorem c_szDoneS (vxs : Value) (xs : List Done) (n : Int) (w : World) (hxs : RdS w vxs xs) (h0 : 0 ≤ n ∧ n ≤ 1048576) : Ct Tryz.prog 91 [vxs, .int .i64 n] w (fun v _ => v = .int .i64 (Kh xs.length n)) := by
 refine Yj Tryz.func91 Z Tryz.ntmps91 Z ?_
 refine Q7 [(0, vxs), (1, .int .i64 n)] ⟨Z, Z, trivial⟩ ?_
 have E : Ext w w := Ext.refl w
 refine Qf (Qh [true] Z Z (Qa (Qg Z) Z (Qd (Qf (Qh [true, true, true, true, true] Z Z (Qa (Qe Z) Z (Qa (Qe Z) Z (Qa (Q4 Tryz.underlying95 Z (hxs.ext E).len) Z (Qa (Ka Z Z Z) Z (Qa (Qg Z) Z (Qd (Qf (Qf (Qh [true, true] Z Z (Qa (Qe Z) Z (Qa (Yb Z Z) Z (Qd (Qu Z (fun hc1 => ?_) (fun hc1 => ?_)))))))))))))))))))
 ·refine Qf (Qh [true] Z Z (Qa (Qg Z) Z (Qd (Qw (Qm Z Z E ?_)))))
  exact sz_no h0.2 h0.1 hxs.1 hc1
 ·refine Qp (Qf (Qh [true, true] Z Z (Qa (Qe Z) Z (Qa (Qg Z) Z (Qd (Qw (Qm Z Z E ?_)))))))
  exact sz_yes h0.2 h0.1 hxs.1 hc1

set_option maxRecDepth 20000 in
theorem c_toDoneS (vxs : Value) (xs : List Done) (w : World) (hxs : RdS w vxs xs) (hb : xs.length ≤ 1048576) : Ct Tryz.prog 105 [vxs] w (fun v w' => Own w' w.heap.size w'.heap.size 2 v (List.flatMap (Enc.enc (α := Done)) xs)) := by
 refine Yj Tryz.func105 Z Tryz.ntmps105 Z ?_
 refine Q7 [(0, vxs)] ⟨Z, trivial⟩ ?_
 have E : Ext w w := Ext.refl w
 refine Qf (Qh [true] Z Z (Qa (Qg Z) Z (Qd (Qf (Qh [true, true, false, true] Z Z (Qa (Qe Z) Z (Qa (Q4 Tryz.underlying95 Z (hxs.ext E).len) Z (J_make (m := xs.length) sl70 Z Z (by omega) (by decide) Z (fun b1 w1 e1 s1 h1 => ?_)))))))))
 have g_b1 : w.heap.size ≤ b1 := by have := E.size; omega
 have y_b1 := h1.lt
 replace E := E.trans e1
 have z1 := e1.size
 refine Qa (Qg Z) Z (Qd (Qf (Qf (Qh [true] Z Z (Qa (Qg Z) Z (Qd (Qy (Yh (fun (k : Nat) => [(0, vxs), (2, .slice none 0 0), (3, .slice (some ⟨b1, 0, none⟩) xs.length xs.length), (4, .int .i64 ((k : Nat) : Int))]) (fun (k : Nat) w' => Ext w w' ∧ w1.heap.size ≤ w'.heap.size ∧ k ≤ xs.length ∧ Blk w' b1 (mk xs [.int .i64 0, .bool false] k xs.length)) (fun (k : Nat) => xs.length - k) 0 ⟨Z, Z, Z, Z, trivial⟩ ⟨E, Nat.le_refl _, Nat.zero_le _, (mk_zero xs [.int .i64 0, .bool false] xs.length) ▸ h1⟩ ?_))))))))
 clear E h1
 rintro k w2 ⟨E, z2, hk, h1⟩
 refine Qf (Qf (Qh [true, true, true, true] Z Z (Qa (Qe Z) Z (Qa (Qe Z) Z (Qa (Q4 Tryz.underlying95 Z (hxs.ext E).len) Z (Qa (Yb Z Z) Z (Qd (Qu Z (fun hc1 => ?_) (fun hc1 => ?_)))))))))
 ·have hc1n : k < xs.length := by first | (have h := of_decide_eq_true hc1; omega) | (have h := hc1; simp at h; omega)
  refine Qp (Qf (Qy (Qh [true, true, true, true, true, true, false, true, false] Z Z (Qa (Qe Z) Z (Qa (Qe Z) Z (Qa (Qe Z) Z (Qa (Qe Z) Z ?_)))))))
  have hi1 : k < xs.length := (by first | assumption | omega | (simp only [List.length_set]; first | assumption | omega))
  refine Qa (Qv (i := k) sl95 Z Z (hxs.ext E) hi1) Z (Qa (Q1 st175 Z ((hxs.ext E).get hi1) Z) Z (Q0 Tryz.call125 Z (c_toDone (xs[k]'hi1) _ ) Z (fun _ w3 e2 hv => ?_)))
  subst hv
  replace E := E.trans e2; replace h1 := h1.ext e2
  have z3 := e2.size
  refine Qa (R_indexB sl70 Z Z (by first | assumption | omega | (simp only [List.length_set]; first | assumption | omega))) Z (Ya (cs' := mk xs [.int .i64 0, .bool false] (k + 1) xs.length) st156 Z Z Z Z h1 (mk_room xs [.int .i64 0, .bool false] Z hc1n hc1n (by rfl)) (mk_step xs [.int .i64 0, .bool false] Z hc1n hc1n) (fun w4 m1 h1' => ?_))
  replace h1 := h1'
  replace E := E.step m1 (fun g hg => by cases hg; omega)
  have z4 := m1.size
  refine Qd (Q5 (Yt (Qh [true, true, true] Z Z (Qa (Qe Z) Z (Qa (Q8 Z Z (Yq hc1n hxs.1)) Z (Qa (Qg Z) Z (Qd (Q5 (Q9 (k + 1) (by omega) ⟨Z, Z, Z, Z, trivial⟩ ⟨E, (by omega), (by omega), h1⟩)))))))))
 ·have hc1n : ¬ k < xs.length := by first | (have h := of_decide_eq_false hc1; omega) | (have h := hc1; simp at h; omega)
  refine Yi (Q3 (Q2 ?_))
  refine Qf (Qh [true, true] Z Z (Qa (Qe Z) Z (Qa (Qg Z) Z (Qd (Qw (Qm Z Z E ?_))))))
  obtain rfl : k = xs.length := by omega
  rw [mk_all] at h1
  exact Own.ofBlk h1 (by omega) (by have := h1.lt; omega) (Y0 xs) hxs.1

set_option maxRecDepth 20000 in
theorem c_eqDoneS (vxs : Value) (xs : List Done) (vys : Value) (ys : List Done) (w : World) (hxs : RdS w vxs xs) (hys : RdS w vys ys) : Ct Tryz.prog 118 [vxs, vys] w (fun v _ => v = .bool (decide (xs = ys))) := by
 refine Yj Tryz.func118 Z Tryz.ntmps118 Z ?_
 refine Q7 [(0, vxs), (1, vys)] ⟨Z, Z, trivial⟩ ?_
 have E : Ext w w := Ext.refl w
 refine Qf (Qh [true] Z Z (Qa (Qg Z) Z (Qd (Qf (Qf (Qh [true, true, true, true, true] Z Z (Qa (Qe Z) Z (Qa (Q4 Tryz.underlying70 Z (hxs.ext E).len) Z (Qa (Qe Z) Z (Qa (Q4 Tryz.underlying70 Z (hys.ext E).len) Z (Qa (Yr Z Z) Z (Qd (Qu Z (fun hc1 => ?_) (fun hc1 => ?_))))))))))))))
 ·have hc1n : ¬ xs.length = ys.length := by first | (have h := of_decide_eq_true hc1; omega) | (have h := hc1; simp at h; omega)
  refine Qf (Qh [true] Z Z (Qa (Qg Z) Z (Qd (Qw (Qm Z Z E ?_)))))
  simp [eq_len hc1n]
 ·have hc1n : xs.length = ys.length := by first | (have h := of_decide_eq_false hc1; omega) | (have h := hc1; simp at h; omega)
  refine Qp (Qf (Qf (Qh [true] Z Z (Qa (Qg Z) Z (Qd (Qy (Yh (fun (k : Nat) => [(0, vxs), (1, vys), (4, .bool false), (5, .int .i64 ((k : Nat) : Int))]) (fun (k : Nat) w' => Ext w w' ∧ w.heap.size ≤ w'.heap.size ∧ k ≤ xs.length ∧ xs.take k = ys.take k) (fun (k : Nat) => xs.length - k) 0 ⟨Z, Z, Z, Z, trivial⟩ ⟨E, Nat.le_refl _, Nat.zero_le _, Z⟩ ?_)))))))
  clear E
  rintro k w1 ⟨E, z1, hk, hp⟩
  refine Qf (Qf (Qh [true, true, true, true] Z Z (Qa (Qe Z) Z (Qa (Qe Z) Z (Qa (Q4 Tryz.underlying70 Z (hxs.ext E).len) Z (Qa (Yb Z Z) Z (Qd (Qu Z (fun hc2 => ?_) (fun hc2 => ?_)))))))))
  ·have hc2n : k < xs.length := by first | (have h := of_decide_eq_true hc2; omega) | (have h := hc2; simp at h; omega)
   refine Qp (Qf (Qy (Qf (Y7 Y8 [(0, true), (1, true), (2, true), (3, true), (4, true), (5, true), (6, true), (7, true), (8, false), (9, true)] (by decide +kernel) Z (fun w2 e1 => ?_)))))
   replace E := E.trans e1
   have z2 := e1.size
   refine Qa (Qe Z) Z (Qa (Qe Z) Z ?_)
   have hi1 : k < xs.length := (by first | assumption | omega | (simp only [List.length_set]; first | assumption | omega))
   refine Qa (Qv (i := k) sl70 Z Z (hxs.ext E) hi1) Z (Qa (Q1 st156 Z ((hxs.ext E).get hi1) Z) Z (Qa (Qe Z) Z (Qa (Qe Z) Z ?_)))
   have hi2 : k < ys.length := (by first | assumption | omega | (simp only [List.length_set]; first | assumption | omega))
   refine Qa (Qv (i := k) sl70 Z Z (hys.ext E) hi2) Z (Qa (Q1 st156 Z ((hys.ext E).get hi2) Z) Z (Q0 Tryz.call133 Z (c_eqDone (xs[k]'hi1) (ys[k]'hi2) _ ) Z (fun _ w3 e2 hv => ?_)))
   subst hv
   replace E := E.trans e2
   have z3 := e2.size
   refine Qa (Yn Z) Z (Qd (Qu Z (fun hc3 => ?_) (fun hc3 => ?_)))
   ·refine Qf (Qh [true] Z Z (Qa (Qg Z) Z (Qd (Qw (Qx (Yg (Qx (Qm Z Z E ?_))))))))
    exact eqS_no (by omega) (by omega) (by simpa using hc3)
   ·refine Qp (Q5 (Yt (Qh [true, true, true] Z Z (Qa (Qe Z) Z (Qa (Q8 Z Z (Yq hc2n hxs.1)) Z (Qa (Qg Z) Z (Qd (Q5 (Q9 (k + 1) (by omega) ⟨Z, Z, Z, Z, trivial⟩ ⟨E, (by omega), (by omega), eqS_step hp (by assumption) (by omega) (by simpa using hc3)⟩)))))))))
  ·have hc2n : ¬ k < xs.length := by first | (have h := of_decide_eq_false hc2; omega) | (have h := hc2; simp at h; omega)
   refine Yi (Q3 (Q2 ?_))
   refine Qf (Qh [true] Z Z (Qa (Qg Z) Z (Qd (Qw (Qm Z Z E ?_)))))
   exact eqS_yes hp hc1n (by omega)

set_option maxHeartbeats 4000000 in
set_option maxRecDepth 20000 in
theorem c_szWorker (cx : List Value) (x : Worker) (n : Int) (w : World) (hx : Dat.R w 0 w.heap.size cx x) (h0 : 0 ≤ n ∧ n ≤ 1048576) : Ct Tryz.prog 48 [.agg cx.toArray, .int .i64 n] w (fun v _ => v = .int .i64 (Kh (Yd x) n)) := by
 refine Yj Tryz.func48 Z Tryz.ntmps48 Z ?_
 obtain ⟨o1, o2, o3, o4, o5, o6, o7, o8, rfl, hd1, hd2, hd3, hd4, hd5, hd6, hd7, hd8⟩ := Worker.op hx
 refine Q7 [(0, .agg [o1, o2, o3, o4, o5, o6, o7, o8].toArray), (1, .int .i64 n)] ⟨Z, Z, trivial⟩ ?_
 have E : Ext w w := Ext.refl w
 refine Qf (Qh [false, true] Z Z (Yx Z Z (fun b1 w1 e1 s1 h1 => ?_)))
 have g_b1 : w.heap.size ≤ b1 := by have := E.size; omega
 have y_b1 := h1.lt
 replace E := E.trans e1
 have z1 := e1.size
 refine Qa (Qg Z) Z (Qd (Qf (Qh [true, true, true, false, true] Z Z (Qa (Qb fl97_0 Z) Z (Qa (Qi sc93 Z (h1.one 0 Z)) Z (Qa (Qe Z) Z (Q0 Tryz.call87 Z (c_szRecordS o1 x.queue n _ (hd1.rd.ext E) (by first | omega | (simp only [Qj]; omega) | (rw [Qj]; done) | (simp only [Qj]; done))) Z (fun _ w2 e2 hv => ?_))))))))
 subst hv
 replace E := E.trans e2; replace h1 := h1.ext e2
 have z2 := e2.size
 refine Qa (Qg Z) Z (Qd (Qf (Qf (Qh [true, true] Z Z (Qa (Qe Z) Z (Qa (Yb Z Z) Z (Qd (Qu Z (fun hc1 => ?_) (fun hc1 => ?_)))))))))
 ·have q1 := X4 hc1 (by omega)
  refine Qf (Qh [true] Z Z (Qa (Qg Z) Z (Qd (Qw (Qm Z Z E ?_)))))
  first | exact Xh (by unfold Yd; omega) | exact Xn (by unfold Yd; omega) (by unfold Yd; omega)
 ·have q2 := X3 hc1 (by omega)
  refine Qp (Qf (Qh [true, true, true, false, true] Z Z (Qa (Qb fl97_1 Z) Z (Qa (Qi sc93 Z (h1.one 1 Z)) Z (Qa (Qe Z) Z (Q0 Tryz.call87 Z (c_szRecordS o2 x.staged (Kh x.queue.length n) _ (hd2.rd.ext E) (by first | omega | (simp only [Qj]; omega) | (rw [Qj]; done) | (simp only [Qj]; done))) Z (fun _ w3 e3 hv => ?_)))))))
  subst hv
  replace E := E.trans e3; replace h1 := h1.ext e3
  have z3 := e3.size
  refine Qa (Qg Z) Z (Qd (Qf (Qf (Qh [true, true] Z Z (Qa (Qe Z) Z (Qa (Yb Z Z) Z (Qd (Qu Z (fun hc2 => ?_) (fun hc2 => ?_)))))))))
  ·have q3 := X4 hc2 (by omega)
   refine Qf (Qh [true] Z Z (Qa (Qg Z) Z (Qd (Qw (Qm Z Z E ?_)))))
   first | exact Xh (by unfold Yd; omega) | exact Xn (by unfold Yd; omega) (by unfold Yd; omega)
  ·have q4 := X3 hc2 (by omega)
   refine Qp (Qf (Qh [true, true, true, false, true] Z Z (Qa (Qb fl97_2 Z) Z (Qa (Qi sc93 Z (h1.one 2 Z)) Z (Qa (Qe Z) Z (Q0 Tryz.call87 Z (c_szRecordS o3 x.inputs (Kh x.staged.length (Kh x.queue.length n)) _ (hd3.rd.ext E) (by first | omega | (simp only [Qj]; omega) | (rw [Qj]; done) | (simp only [Qj]; done))) Z (fun _ w4 e4 hv => ?_)))))))
   subst hv
   replace E := E.trans e4; replace h1 := h1.ext e4
   have z4 := e4.size
   refine Qa (Qg Z) Z (Qd (Qf (Qf (Qh [true, true] Z Z (Qa (Qe Z) Z (Qa (Yb Z Z) Z (Qd (Qu Z (fun hc3 => ?_) (fun hc3 => ?_)))))))))
   ·have q5 := X4 hc3 (by omega)
    refine Qf (Qh [true] Z Z (Qa (Qg Z) Z (Qd (Qw (Qm Z Z E ?_)))))
    first | exact Xh (by unfold Yd; omega) | exact Xn (by unfold Yd; omega) (by unfold Yd; omega)
   ·have q6 := X3 hc3 (by omega)
    refine Qp (Qf (Qh [true, true, true, false, true] Z Z (Qa (Qb fl97_3 Z) Z (Qa (Qi sc94 Z (h1.one 3 Z)) Z (Qa (Qe Z) Z (Q0 Tryz.call88 Z (c_szCellS o4 x.cells (Kh x.inputs.length (Kh x.staged.length (Kh x.queue.length n))) _ (hd4.rd.ext E) (by first | omega | (simp only [Qj]; omega) | (rw [Qj]; done) | (simp only [Qj]; done))) Z (fun _ w5 e5 hv => ?_)))))))
    subst hv
    replace E := E.trans e5; replace h1 := h1.ext e5
    have z5 := e5.size
    refine Qa (Qg Z) Z (Qd (Qf (Qf (Qh [true, true] Z Z (Qa (Qe Z) Z (Qa (Yb Z Z) Z (Qd (Qu Z (fun hc4 => ?_) (fun hc4 => ?_)))))))))
    ·have q7 := X4 hc4 (by omega)
     refine Qf (Qh [true] Z Z (Qa (Qg Z) Z (Qd (Qw (Qm Z Z E ?_)))))
     first | exact Xh (by unfold Yd; omega) | exact Xn (by unfold Yd; omega) (by unfold Yd; omega)
    ·have q8 := X3 hc4 (by omega)
     refine Qp (Qf (Qh [true, true, true, false, true] Z Z (Qa (Qb fl97_4 Z) Z (Qa (Qi Yy Z (h1.one 4 Z)) Z (Qa (Qe Z) Z (Q0 Tryz.call89 Z (c_szIntS o5 x.sums (Kh x.cells.length (Kh x.inputs.length (Kh x.staged.length (Kh x.queue.length n)))) _ (hd5.rd.ext E) (by first | omega | (simp only [Qj]; omega) | (rw [Qj]; done) | (simp only [Qj]; done))) Z (fun _ w6 e6 hv => ?_)))))))
     subst hv
     replace E := E.trans e6; replace h1 := h1.ext e6
     have z6 := e6.size
     refine Qa (Qg Z) Z (Qd (Qf (Qf (Qh [true, true] Z Z (Qa (Qe Z) Z (Qa (Yb Z Z) Z (Qd (Qu Z (fun hc5 => ?_) (fun hc5 => ?_)))))))))
     ·have q9 := X4 hc5 (by omega)
      refine Qf (Qh [true] Z Z (Qa (Qg Z) Z (Qd (Qw (Qm Z Z E ?_)))))
      first | exact Xh (by unfold Yd; omega) | exact Xn (by unfold Yd; omega) (by unfold Yd; omega)
     ·have q10 := X3 hc5 (by omega)
      refine Qp (Qf (Qh [true, true, true, false, true] Z Z (Qa (Qb fl97_5 Z) Z (Qa (Qi sc69 Z (h1.one 5 Z)) Z (Qa (Qe Z) Z (Q0 Tryz.call90 Z (c_szBoolS o6 x.black (Kh x.sums.length (Kh x.cells.length (Kh x.inputs.length (Kh x.staged.length (Kh x.queue.length n))))) _ (hd6.rd.ext E) (by first | omega | (simp only [Qj]; omega) | (rw [Qj]; done) | (simp only [Qj]; done))) Z (fun _ w7 e7 hv => ?_)))))))
      subst hv
      replace E := E.trans e7; replace h1 := h1.ext e7
      have z7 := e7.size
      refine Qa (Qg Z) Z (Qd (Qf (Qf (Qh [true, true] Z Z (Qa (Qe Z) Z (Qa (Yb Z Z) Z (Qd (Qu Z (fun hc6 => ?_) (fun hc6 => ?_)))))))))
      ·have q11 := X4 hc6 (by omega)
       refine Qf (Qh [true] Z Z (Qa (Qg Z) Z (Qd (Qw (Qm Z Z E ?_)))))
       first | exact Xh (by unfold Yd; omega) | exact Xn (by unfold Yd; omega) (by unfold Yd; omega)
      ·have q12 := X3 hc6 (by omega)
       refine Qp (Qf (Qh [true, true, true, false, true] Z Z (Qa (Qb fl97_6 Z) Z (Qa (Qi sc69 Z (h1.one 6 Z)) Z (Qa (Qe Z) Z (Q0 Tryz.call90 Z (c_szBoolS o7 x.caps (Kh x.black.length (Kh x.sums.length (Kh x.cells.length (Kh x.inputs.length (Kh x.staged.length (Kh x.queue.length n)))))) _ (hd7.rd.ext E) (by first | omega | (simp only [Qj]; omega) | (rw [Qj]; done) | (simp only [Qj]; done))) Z (fun _ w8 e8 hv => ?_)))))))
       subst hv
       replace E := E.trans e8; replace h1 := h1.ext e8
       have z8 := e8.size
       refine Qa (Qg Z) Z (Qd (Qf (Qf (Qh [true, true] Z Z (Qa (Qe Z) Z (Qa (Yb Z Z) Z (Qd (Qu Z (fun hc7 => ?_) (fun hc7 => ?_)))))))))
       ·have q13 := X4 hc7 (by omega)
        refine Qf (Qh [true] Z Z (Qa (Qg Z) Z (Qd (Qw (Qm Z Z E ?_)))))
        first | exact Xh (by unfold Yd; omega) | exact Xn (by unfold Yd; omega) (by unfold Yd; omega)
       ·have q14 := X3 hc7 (by omega)
        refine Qp (Qf (Qh [true, true, true, false, true] Z Z (Qa (Qb fl97_7 Z) Z (Qa (Qi sc95 Z (h1.one 7 Z)) Z (Qa (Qe Z) Z (Q0 Tryz.call91 Z (c_szDoneS o8 x.dones (Kh x.caps.length (Kh x.black.length (Kh x.sums.length (Kh x.cells.length (Kh x.inputs.length (Kh x.staged.length (Kh x.queue.length n))))))) _ (hd8.rd.ext E) (by first | omega | (simp only [Qj]; omega) | (rw [Qj]; done) | (simp only [Qj]; done))) Z (fun _ w9 e9 hv => ?_)))))))
        subst hv
        replace E := E.trans e9; replace h1 := h1.ext e9
        have z9 := e9.size
        refine Qa (Qg Z) Z (Qd (Qf (Qf (Qh [true, true] Z Z (Qa (Qe Z) Z (Qa (Yb Z Z) Z (Qd (Qu Z (fun hc8 => ?_) (fun hc8 => ?_)))))))))
        ·have q15 := X4 hc8 (by omega)
         refine Qf (Qh [true] Z Z (Qa (Qg Z) Z (Qd (Qw (Qm Z Z E ?_)))))
         first | exact Xh (by unfold Yd; omega) | exact Xn (by unfold Yd; omega) (by unfold Yd; omega)
        ·have q16 := X3 hc8 (by omega)
         refine Qp (Qf (Qh [true, true] Z Z (Qa (Qe Z) Z (Qa (Qg Z) Z (Qd (Qw (Qm Z Z E ?_)))))))
         first | exact Xh (by unfold Yd; omega) | exact Xn (by unfold Yd; omega) (by unfold Yd; omega)

set_option maxHeartbeats 4000000 in
set_option maxRecDepth 20000 in
theorem c_toWorker (cx : List Value) (x : Worker) (w : World) (hx : Dat.R w 0 w.heap.size cx x) (hb : Yd x ≤ 1048576) : Ct Tryz.prog 54 [.agg cx.toArray] w (fun v w' => ∃ cs, v = .agg cs.toArray ∧ Own1.O w' w.heap.size w'.heap.size cs x) := by
 unfold Yd at hb
 refine Yj Tryz.func54 Z Tryz.ntmps54 Z ?_
 obtain ⟨o1, o2, o3, o4, o5, o6, o7, o8, rfl, hd1, hd2, hd3, hd4, hd5, hd6, hd7, hd8⟩ := Worker.op hx
 refine Q7 [(0, .agg [o1, o2, o3, o4, o5, o6, o7, o8].toArray)] ⟨Z, trivial⟩ ?_
 have E : Ext w w := Ext.refl w
 refine Qf (Qh [false, false] Z Z (Yx Z Z (fun b1 w1 e1 s1 h1 => ?_)))
 have g_b1 : w.heap.size ≤ b1 := by have := E.size; omega
 have y_b1 := h1.lt
 replace E := E.trans e1
 have z1 := e1.size
 refine Yu Xt Z (fun b2 w2 e2 s2 h2 => ?_)
 have g_b2 : w.heap.size ≤ b2 := by have := E.size; omega
 have y_b2 := h2.lt
 replace E := E.trans e2; replace h1 := h1.ext e2
 have z2 := e2.size
 refine Qd (Qf (Qh [false] Z Z (Yu Xt Z (fun b3 w3 e3 s3 h3 => ?_))))
 have g_b3 : w.heap.size ≤ b3 := by have := E.size; omega
 have y_b3 := h3.lt
 replace E := E.trans e3; replace h1 := h1.ext e3; replace h2 := h2.ext e3
 have z3 := e3.size
 refine Qd (Qf (Qh [true, true, false, true, false] Z Z (Qa (Qb fl97_0 Z) Z (Qa (Qi sc93 Z (h1.one 0 Z)) Z (Q0 Tryz.call101 Z (c_toRecordS o1 x.queue _ (hd1.rd.ext E) (by first | omega | (simp only [Qj]; omega) | (rw [Qj]; done) | (simp only [Qj]; done))) Z (fun v1 w4 e4 ho1 => ?_))))))
 have g_ho1 : w.heap.size ≤ w3.heap.size := E.size
 replace E := E.trans e4; replace h1 := h1.ext e4; replace h2 := h2.ext e4; replace h3 := h3.ext e4
 have z4 := e4.size
 refine Qa (Qb fl72_0 Z) Z (Ye (cs' := [v1, .slice none 0 0, .slice none 0 0, .slice none 0 0, .slice none 0 0, .slice none 0 0, .slice none 0 0, .slice none 0 0]) Xa Z Z ho1.one h3 (Nat.le_of_ble_eq_true Z) Z (fun w5 m1 h3' => ?_))
 replace h3 := h3'
 replace E := E.step m1 (fun g hg => by cases hg; omega); replace h1 := h1.mod m1 (fun g hg => by cases hg; omega); replace h2 := h2.mod m1 (fun g hg => by cases hg; omega); replace ho1 := ho1.mod m1 (fun g hg => by cases hg; omega)
 have z5 := m1.size
 refine Qd (Qf (Qh [true, true, false, true, false] Z Z (Qa (Qb fl97_1 Z) Z (Qa (Qi sc93 Z (h1.one 1 Z)) Z (Q0 Tryz.call101 Z (c_toRecordS o2 x.staged _ (hd2.rd.ext E) (by first | omega | (simp only [Qj]; omega) | (rw [Qj]; done) | (simp only [Qj]; done))) Z (fun v2 w6 e5 ho2 => ?_))))))
 have g_ho2 : w.heap.size ≤ w5.heap.size := E.size
 replace E := E.trans e5; replace h1 := h1.ext e5; replace h2 := h2.ext e5; replace h3 := h3.ext e5; replace ho1 := ho1.ext e5
 have z6 := e5.size
 refine Qa (Qb fl72_1 Z) Z (Ye (cs' := [v1, v2, .slice none 0 0, .slice none 0 0, .slice none 0 0, .slice none 0 0, .slice none 0 0, .slice none 0 0]) Xa Z Z ho2.one h3 (Nat.le_of_ble_eq_true Z) Z (fun w7 m2 h3' => ?_))
 replace h3 := h3'
 replace E := E.step m2 (fun g hg => by cases hg; omega); replace h1 := h1.mod m2 (fun g hg => by cases hg; omega); replace h2 := h2.mod m2 (fun g hg => by cases hg; omega); replace ho1 := ho1.mod m2 (fun g hg => by cases hg; omega); replace ho2 := ho2.mod m2 (fun g hg => by cases hg; omega)
 have z7 := m2.size
 refine Qd (Qf (Qh [true, true, false, true, false] Z Z (Qa (Qb fl97_2 Z) Z (Qa (Qi sc93 Z (h1.one 2 Z)) Z (Q0 Tryz.call101 Z (c_toRecordS o3 x.inputs _ (hd3.rd.ext E) (by first | omega | (simp only [Qj]; omega) | (rw [Qj]; done) | (simp only [Qj]; done))) Z (fun v3 w8 e6 ho3 => ?_))))))
 have g_ho3 : w.heap.size ≤ w7.heap.size := E.size
 replace E := E.trans e6; replace h1 := h1.ext e6; replace h2 := h2.ext e6; replace h3 := h3.ext e6; replace ho1 := ho1.ext e6; replace ho2 := ho2.ext e6
 have z8 := e6.size
 refine Qa (Qb Xo Z) Z (Ye (cs' := [v1, v2, v3, .slice none 0 0, .slice none 0 0, .slice none 0 0, .slice none 0 0, .slice none 0 0]) Xa Z Z ho3.one h3 (Nat.le_of_ble_eq_true Z) Z (fun w9 m3 h3' => ?_))
 replace h3 := h3'
 replace E := E.step m3 (fun g hg => by cases hg; omega); replace h1 := h1.mod m3 (fun g hg => by cases hg; omega); replace h2 := h2.mod m3 (fun g hg => by cases hg; omega); replace ho1 := ho1.mod m3 (fun g hg => by cases hg; omega); replace ho2 := ho2.mod m3 (fun g hg => by cases hg; omega); replace ho3 := ho3.mod m3 (fun g hg => by cases hg; omega)
 have z9 := m3.size
 refine Qd (Qf (Qh [true, true, false, true, false] Z Z (Qa (Qb fl97_3 Z) Z (Qa (Qi sc94 Z (h1.one 3 Z)) Z (Q0 Tryz.call102 Z (c_toCellS o4 x.cells _ (hd4.rd.ext E) (by first | omega | (simp only [Qj]; omega) | (rw [Qj]; done) | (simp only [Qj]; done))) Z (fun v4 w10 e7 ho4 => ?_))))))
 have g_ho4 : w.heap.size ≤ w9.heap.size := E.size
 replace E := E.trans e7; replace h1 := h1.ext e7; replace h2 := h2.ext e7; replace h3 := h3.ext e7; replace ho1 := ho1.ext e7; replace ho2 := ho2.ext e7; replace ho3 := ho3.ext e7
 have z10 := e7.size
 refine Qa (Qb fl72_3 Z) Z (Ye (cs' := [v1, v2, v3, v4, .slice none 0 0, .slice none 0 0, .slice none 0 0, .slice none 0 0]) sc67 Z Z ho4.one h3 (Nat.le_of_ble_eq_true Z) Z (fun w11 m4 h3' => ?_))
 replace h3 := h3'
 replace E := E.step m4 (fun g hg => by cases hg; omega); replace h1 := h1.mod m4 (fun g hg => by cases hg; omega); replace h2 := h2.mod m4 (fun g hg => by cases hg; omega); replace ho1 := ho1.mod m4 (fun g hg => by cases hg; omega); replace ho2 := ho2.mod m4 (fun g hg => by cases hg; omega); replace ho3 := ho3.mod m4 (fun g hg => by cases hg; omega); replace ho4 := ho4.mod m4 (fun g hg => by cases hg; omega)
 have z11 := m4.size
 refine Qd (Qf (Qh [true, true, false, true, false] Z Z (Qa (Qb fl97_4 Z) Z (Qa (Qi Yy Z (h1.one 4 Z)) Z (Q0 Tryz.call103 Z (c_toIntS o5 x.sums _ (hd5.rd.ext E) (by first | omega | (simp only [Qj]; omega) | (rw [Qj]; done) | (simp only [Qj]; done))) Z (fun v5 w12 e8 ho5 => ?_))))))
 have g_ho5 : w.heap.size ≤ w11.heap.size := E.size
 replace E := E.trans e8; replace h1 := h1.ext e8; replace h2 := h2.ext e8; replace h3 := h3.ext e8; replace ho1 := ho1.ext e8; replace ho2 := ho2.ext e8; replace ho3 := ho3.ext e8; replace ho4 := ho4.ext e8
 have z12 := e8.size
 refine Qa (Qb fl72_4 Z) Z (Ye (cs' := [v1, v2, v3, v4, v5, .slice none 0 0, .slice none 0 0, .slice none 0 0]) Yy Z Z ho5.one h3 (Nat.le_of_ble_eq_true Z) Z (fun w13 m5 h3' => ?_))
 replace h3 := h3'
 replace E := E.step m5 (fun g hg => by cases hg; omega); replace h1 := h1.mod m5 (fun g hg => by cases hg; omega); replace h2 := h2.mod m5 (fun g hg => by cases hg; omega); replace ho1 := ho1.mod m5 (fun g hg => by cases hg; omega); replace ho2 := ho2.mod m5 (fun g hg => by cases hg; omega); replace ho3 := ho3.mod m5 (fun g hg => by cases hg; omega); replace ho4 := ho4.mod m5 (fun g hg => by cases hg; omega); replace ho5 := ho5.mod m5 (fun g hg => by cases hg; omega)
 have z13 := m5.size
 refine Qd (Qf (Qh [true, true, false, true, false] Z Z (Qa (Qb fl97_5 Z) Z (Qa (Qi sc69 Z (h1.one 5 Z)) Z (Q0 Tryz.call104 Z (c_toBoolS o6 x.black _ (hd6.rd.ext E) (by first | omega | (simp only [Qj]; omega) | (rw [Qj]; done) | (simp only [Qj]; done))) Z (fun v6 w14 e9 ho6 => ?_))))))
 have g_ho6 : w.heap.size ≤ w13.heap.size := E.size
 replace E := E.trans e9; replace h1 := h1.ext e9; replace h2 := h2.ext e9; replace h3 := h3.ext e9; replace ho1 := ho1.ext e9; replace ho2 := ho2.ext e9; replace ho3 := ho3.ext e9; replace ho4 := ho4.ext e9; replace ho5 := ho5.ext e9
 have z14 := e9.size
 refine Qa (Qb fl72_5 Z) Z (Ye (cs' := [v1, v2, v3, v4, v5, v6, .slice none 0 0, .slice none 0 0]) sc69 Z Z ho6.one h3 (Nat.le_of_ble_eq_true Z) Z (fun w15 m6 h3' => ?_))
 replace h3 := h3'
 replace E := E.step m6 (fun g hg => by cases hg; omega); replace h1 := h1.mod m6 (fun g hg => by cases hg; omega); replace h2 := h2.mod m6 (fun g hg => by cases hg; omega); replace ho1 := ho1.mod m6 (fun g hg => by cases hg; omega); replace ho2 := ho2.mod m6 (fun g hg => by cases hg; omega); replace ho3 := ho3.mod m6 (fun g hg => by cases hg; omega); replace ho4 := ho4.mod m6 (fun g hg => by cases hg; omega); replace ho5 := ho5.mod m6 (fun g hg => by cases hg; omega); replace ho6 := ho6.mod m6 (fun g hg => by cases hg; omega)
 have z15 := m6.size
 refine Qd (Qf (Qh [true, true, false, true, false] Z Z (Qa (Qb fl97_6 Z) Z (Qa (Qi sc69 Z (h1.one 6 Z)) Z (Q0 Tryz.call104 Z (c_toBoolS o7 x.caps _ (hd7.rd.ext E) (by first | omega | (simp only [Qj]; omega) | (rw [Qj]; done) | (simp only [Qj]; done))) Z (fun v7 w16 e10 ho7 => ?_))))))
 have g_ho7 : w.heap.size ≤ w15.heap.size := E.size
 replace E := E.trans e10; replace h1 := h1.ext e10; replace h2 := h2.ext e10; replace h3 := h3.ext e10; replace ho1 := ho1.ext e10; replace ho2 := ho2.ext e10; replace ho3 := ho3.ext e10; replace ho4 := ho4.ext e10; replace ho5 := ho5.ext e10; replace ho6 := ho6.ext e10
 have z16 := e10.size
 refine Qa (Qb fl72_6 Z) Z (Ye (cs' := [v1, v2, v3, v4, v5, v6, v7, .slice none 0 0]) sc69 Z Z ho7.one h3 (Nat.le_of_ble_eq_true Z) Z (fun w17 m7 h3' => ?_))
 replace h3 := h3'
 replace E := E.step m7 (fun g hg => by cases hg; omega); replace h1 := h1.mod m7 (fun g hg => by cases hg; omega); replace h2 := h2.mod m7 (fun g hg => by cases hg; omega); replace ho1 := ho1.mod m7 (fun g hg => by cases hg; omega); replace ho2 := ho2.mod m7 (fun g hg => by cases hg; omega); replace ho3 := ho3.mod m7 (fun g hg => by cases hg; omega); replace ho4 := ho4.mod m7 (fun g hg => by cases hg; omega); replace ho5 := ho5.mod m7 (fun g hg => by cases hg; omega); replace ho6 := ho6.mod m7 (fun g hg => by cases hg; omega); replace ho7 := ho7.mod m7 (fun g hg => by cases hg; omega)
 have z17 := m7.size
 refine Qd (Qf (Qh [true, true, false, true, false] Z Z (Qa (Qb fl97_7 Z) Z (Qa (Qi sc95 Z (h1.one 7 Z)) Z (Q0 Tryz.call105 Z (c_toDoneS o8 x.dones _ (hd8.rd.ext E) (by first | omega | (simp only [Qj]; omega) | (rw [Qj]; done) | (simp only [Qj]; done))) Z (fun v8 w18 e11 ho8 => ?_))))))
 have g_ho8 : w.heap.size ≤ w17.heap.size := E.size
 replace E := E.trans e11; replace h1 := h1.ext e11; replace h2 := h2.ext e11; replace h3 := h3.ext e11; replace ho1 := ho1.ext e11; replace ho2 := ho2.ext e11; replace ho3 := ho3.ext e11; replace ho4 := ho4.ext e11; replace ho5 := ho5.ext e11; replace ho6 := ho6.ext e11; replace ho7 := ho7.ext e11
 have z18 := e11.size
 refine Qa (Qb fl72_7 Z) Z (Ye (cs' := [v1, v2, v3, v4, v5, v6, v7, v8]) sc70 Z Z ho8.one h3 (Nat.le_of_ble_eq_true Z) Z (fun w19 m8 h3' => ?_))
 replace h3 := h3'
 replace E := E.step m8 (fun g hg => by cases hg; omega); replace h1 := h1.mod m8 (fun g hg => by cases hg; omega); replace h2 := h2.mod m8 (fun g hg => by cases hg; omega); replace ho1 := ho1.mod m8 (fun g hg => by cases hg; omega); replace ho2 := ho2.mod m8 (fun g hg => by cases hg; omega); replace ho3 := ho3.mod m8 (fun g hg => by cases hg; omega); replace ho4 := ho4.mod m8 (fun g hg => by cases hg; omega); replace ho5 := ho5.mod m8 (fun g hg => by cases hg; omega); replace ho6 := ho6.mod m8 (fun g hg => by cases hg; omega); replace ho7 := ho7.mod m8 (fun g hg => by cases hg; omega); replace ho8 := ho8.mod m8 (fun g hg => by cases hg; omega)
 have z19 := m8.size
 refine Qd (Qf (Qh [true, false] Z Z (Qa (Q1 Xt Z h3.at Z) Z (Ya (cs' := [v1, v2, v3, v4, v5, v6, v7, v8]) Xt Z Z Z (Ql ho1.one (Ql ho2.one (Ql ho3.one (Ql ho4.one (Ql ho5.one (Ql ho6.one (Ql ho7.one (Ql ho8.one Z)))))))) h2 (Nat.le_of_ble_eq_true Z) Z (fun w20 m9 h2' => ?_)))))
 replace h2 := h2'
 replace E := E.step m9 (fun g hg => by cases hg; omega); replace h1 := h1.mod m9 (fun g hg => by cases hg; omega); replace h3 := h3.mod m9 (fun g hg => by cases hg; omega); replace ho1 := ho1.mod m9 (fun g hg => by cases hg; omega); replace ho2 := ho2.mod m9 (fun g hg => by cases hg; omega); replace ho3 := ho3.mod m9 (fun g hg => by cases hg; omega); replace ho4 := ho4.mod m9 (fun g hg => by cases hg; omega); replace ho5 := ho5.mod m9 (fun g hg => by cases hg; omega); replace ho6 := ho6.mod m9 (fun g hg => by cases hg; omega); replace ho7 := ho7.mod m9 (fun g hg => by cases hg; omega); replace ho8 := ho8.mod m9 (fun g hg => by cases hg; omega)
 have z20 := m9.size
 refine Qd (Qw (Xi Z Z (Ys Xt h2.at Z) E ?_))
 exact ⟨_, Z, Worker.mkO x ⟨⟨(Own.sep ho1 ho2 (by omega)), ⟨(Own.sep ho1 ho3 (by omega)), ⟨(Own.sep ho1 ho4 (by omega)), ⟨(Own.sep ho1 ho5 (by omega)), ⟨(Own.sep ho1 ho6 (by omega)), ⟨(Own.sep ho1 ho7 (by omega)), ⟨(Own.sep ho1 ho8 (by omega)), trivial⟩⟩⟩⟩⟩⟩⟩, ⟨⟨(Own.sep ho2 ho3 (by omega)), ⟨(Own.sep ho2 ho4 (by omega)), ⟨(Own.sep ho2 ho5 (by omega)), ⟨(Own.sep ho2 ho6 (by omega)), ⟨(Own.sep ho2 ho7 (by omega)), ⟨(Own.sep ho2 ho8 (by omega)), trivial⟩⟩⟩⟩⟩⟩, ⟨⟨(Own.sep ho3 ho4 (by omega)), ⟨(Own.sep ho3 ho5 (by omega)), ⟨(Own.sep ho3 ho6 (by omega)), ⟨(Own.sep ho3 ho7 (by omega)), ⟨(Own.sep ho3 ho8 (by omega)), trivial⟩⟩⟩⟩⟩, ⟨⟨(Own.sep ho4 ho5 (by omega)), ⟨(Own.sep ho4 ho6 (by omega)), ⟨(Own.sep ho4 ho7 (by omega)), ⟨(Own.sep ho4 ho8 (by omega)), trivial⟩⟩⟩⟩, ⟨⟨(Own.sep ho5 ho6 (by omega)), ⟨(Own.sep ho5 ho7 (by omega)), ⟨(Own.sep ho5 ho8 (by omega)), trivial⟩⟩⟩, ⟨⟨(Own.sep ho6 ho7 (by omega)), ⟨(Own.sep ho6 ho8 (by omega)), trivial⟩⟩, ⟨⟨(Own.sep ho7 ho8 (by omega)), trivial⟩, ⟨trivial, trivial⟩⟩⟩⟩⟩⟩⟩⟩ (Own.widen ho1 (by omega) (by omega)) (Own.widen ho2 (by omega) (by omega)) (Own.widen ho3 (by omega) (by omega)) (Own.widen ho4 (by omega) (by omega)) (Own.widen ho5 (by omega) (by omega)) (Own.widen ho6 (by omega) (by omega)) (Own.widen ho7 (by omega) (by omega)) (Own.widen ho8 (by omega) (by omega))⟩

set_option maxHeartbeats 4000000 in
set_option maxRecDepth 20000 in
theorem c_eqWorker (cx : List Value) (x : Worker) (cy : List Value) (y : Worker) (w : World) (hx : Dat.R w 0 w.heap.size cx x) (hy : Dat.R w 0 w.heap.size cy y) : Ct Tryz.prog 66 [.agg cx.toArray, .agg cy.toArray] w (fun v _ => v = .bool (decide (x = y))) := by
 refine Yj Tryz.func66 Z Tryz.ntmps66 Z ?_
 obtain ⟨o1, o2, o3, o4, o5, o6, o7, o8, rfl, hd1, hd2, hd3, hd4, hd5, hd6, hd7, hd8⟩ := Worker.op hx
 obtain ⟨o9, o10, o11, o12, o13, o14, o15, o16, rfl, hd9, hd10, hd11, hd12, hd13, hd14, hd15, hd16⟩ := Worker.op hy
 refine Q7 [(0, .agg [o1, o2, o3, o4, o5, o6, o7, o8].toArray), (1, .agg [o9, o10, o11, o12, o13, o14, o15, o16].toArray)] ⟨Z, Z, trivial⟩ ?_
 have E : Ext w w := Ext.refl w
 refine Qf (Qh [false, false, true] Z Z (Yx Z Z (fun b1 w1 e1 s1 h1 => ?_)))
 have g_b1 : w.heap.size ≤ b1 := by have := E.size; omega
 have y_b1 := h1.lt
 replace E := E.trans e1
 have z1 := e1.size
 refine Yx Z Z (fun b2 w2 e2 s2 h2 => ?_)
 have g_b2 : w.heap.size ≤ b2 := by have := E.size; omega
 have y_b2 := h2.lt
 replace E := E.trans e2; replace h1 := h1.ext e2
 have z2 := e2.size
 refine Qa (Qg Z) Z (Qd (Qf (Qf (Qh [true, true, true, true, false, true] Z Z (Qa (Qb fl72_0 Z) Z (Qa (Qi Xa Z (h1.one 0 Z)) Z (Qa (Qb fl72_0 Z) Z (Qa (Qi Xa Z (h2.one 0 Z)) Z (Q0 Tryz.call114 Z (c_eqRecordS o1 x.queue o9 y.queue _ (hd1.rd.ext E) (hd9.rd.ext E)) Z (fun _ w3 e3 hv => ?_))))))))))
 subst hv
 replace E := E.trans e3; replace h1 := h1.ext e3; replace h2 := h2.ext e3
 have z3 := e3.size
 refine Qa (Yn Z) Z (Qd (Qu Z (fun hc1 => ?_) (fun hc1 => ?_)))
 ·refine Qf (Qh [true] Z Z (Qa (Qg Z) Z (Qd (Qw (Qm Z Z E ?_)))))
  cases x; cases y; simp_all
 ·refine Qp (Qf (Qf (Qh [true, true, true, true, false, true] Z Z (Qa (Qb fl72_1 Z) Z (Qa (Qi Xa Z (h1.one 1 Z)) Z (Qa (Qb fl72_1 Z) Z (Qa (Qi Xa Z (h2.one 1 Z)) Z (Q0 Tryz.call114 Z (c_eqRecordS o2 x.staged o10 y.staged _ (hd2.rd.ext E) (hd10.rd.ext E)) Z (fun _ w4 e4 hv => ?_)))))))))
  subst hv
  replace E := E.trans e4; replace h1 := h1.ext e4; replace h2 := h2.ext e4
  have z4 := e4.size
  refine Qa (Yn Z) Z (Qd (Qu Z (fun hc2 => ?_) (fun hc2 => ?_)))
  ·refine Qf (Qh [true] Z Z (Qa (Qg Z) Z (Qd (Qw (Qm Z Z E ?_)))))
   cases x; cases y; simp_all
  ·refine Qp (Qf (Qf (Qh [true, true, true, true, false, true] Z Z (Qa (Qb Xo Z) Z (Qa (Qi Xa Z (h1.one 2 Z)) Z (Qa (Qb Xo Z) Z (Qa (Qi Xa Z (h2.one 2 Z)) Z (Q0 Tryz.call114 Z (c_eqRecordS o3 x.inputs o11 y.inputs _ (hd3.rd.ext E) (hd11.rd.ext E)) Z (fun _ w5 e5 hv => ?_)))))))))
   subst hv
   replace E := E.trans e5; replace h1 := h1.ext e5; replace h2 := h2.ext e5
   have z5 := e5.size
   refine Qa (Yn Z) Z (Qd (Qu Z (fun hc3 => ?_) (fun hc3 => ?_)))
   ·refine Qf (Qh [true] Z Z (Qa (Qg Z) Z (Qd (Qw (Qm Z Z E ?_)))))
    cases x; cases y; simp_all
   ·refine Qp (Qf (Qf (Qh [true, true, true, true, false, true] Z Z (Qa (Qb fl72_3 Z) Z (Qa (Qi sc67 Z (h1.one 3 Z)) Z (Qa (Qb fl72_3 Z) Z (Qa (Qi sc67 Z (h2.one 3 Z)) Z (Q0 Tryz.call115 Z (c_eqCellS o4 x.cells o12 y.cells _ (hd4.rd.ext E) (hd12.rd.ext E)) Z (fun _ w6 e6 hv => ?_)))))))))
    subst hv
    replace E := E.trans e6; replace h1 := h1.ext e6; replace h2 := h2.ext e6
    have z6 := e6.size
    refine Qa (Yn Z) Z (Qd (Qu Z (fun hc4 => ?_) (fun hc4 => ?_)))
    ·refine Qf (Qh [true] Z Z (Qa (Qg Z) Z (Qd (Qw (Qm Z Z E ?_)))))
     cases x; cases y; simp_all
    ·refine Qp (Qf (Qf (Qh [true, true, true, true, false, true] Z Z (Qa (Qb fl72_4 Z) Z (Qa (Qi Yy Z (h1.one 4 Z)) Z (Qa (Qb fl72_4 Z) Z (Qa (Qi Yy Z (h2.one 4 Z)) Z (Q0 Tryz.call116 Z (c_eqIntS o5 x.sums o13 y.sums _ (hd5.rd.ext E) (hd13.rd.ext E)) Z (fun _ w7 e7 hv => ?_)))))))))
     subst hv
     replace E := E.trans e7; replace h1 := h1.ext e7; replace h2 := h2.ext e7
     have z7 := e7.size
     refine Qa (Yn Z) Z (Qd (Qu Z (fun hc5 => ?_) (fun hc5 => ?_)))
     ·refine Qf (Qh [true] Z Z (Qa (Qg Z) Z (Qd (Qw (Qm Z Z E ?_)))))
      cases x; cases y; simp_all
     ·refine Qp (Qf (Qf (Qh [true, true, true, true, false, true] Z Z (Qa (Qb fl72_5 Z) Z (Qa (Qi sc69 Z (h1.one 5 Z)) Z (Qa (Qb fl72_5 Z) Z (Qa (Qi sc69 Z (h2.one 5 Z)) Z (Q0 Tryz.call117 Z (c_eqBoolS o6 x.black o14 y.black _ (hd6.rd.ext E) (hd14.rd.ext E)) Z (fun _ w8 e8 hv => ?_)))))))))
      subst hv
      replace E := E.trans e8; replace h1 := h1.ext e8; replace h2 := h2.ext e8
      have z8 := e8.size
      refine Qa (Yn Z) Z (Qd (Qu Z (fun hc6 => ?_) (fun hc6 => ?_)))
      ·refine Qf (Qh [true] Z Z (Qa (Qg Z) Z (Qd (Qw (Qm Z Z E ?_)))))
       cases x; cases y; simp_all
      ·refine Qp (Qf (Qf (Qh [true, true, true, true, false, true] Z Z (Qa (Qb fl72_6 Z) Z (Qa (Qi sc69 Z (h1.one 6 Z)) Z (Qa (Qb fl72_6 Z) Z (Qa (Qi sc69 Z (h2.one 6 Z)) Z (Q0 Tryz.call117 Z (c_eqBoolS o7 x.caps o15 y.caps _ (hd7.rd.ext E) (hd15.rd.ext E)) Z (fun _ w9 e9 hv => ?_)))))))))
       subst hv
       replace E := E.trans e9; replace h1 := h1.ext e9; replace h2 := h2.ext e9
       have z9 := e9.size
       refine Qa (Yn Z) Z (Qd (Qu Z (fun hc7 => ?_) (fun hc7 => ?_)))
       ·refine Qf (Qh [true] Z Z (Qa (Qg Z) Z (Qd (Qw (Qm Z Z E ?_)))))
        cases x; cases y; simp_all
       ·refine Qp (Qf (Qf (Qh [true, true, true, true, false, true] Z Z (Qa (Qb fl72_7 Z) Z (Qa (Qi sc70 Z (h1.one 7 Z)) Z (Qa (Qb fl72_7 Z) Z (Qa (Qi sc70 Z (h2.one 7 Z)) Z (Q0 Tryz.call118 Z (c_eqDoneS o8 x.dones o16 y.dones _ (hd8.rd.ext E) (hd16.rd.ext E)) Z (fun _ w10 e10 hv => ?_)))))))))
        subst hv
        replace E := E.trans e10; replace h1 := h1.ext e10; replace h2 := h2.ext e10
        have z10 := e10.size
        refine Qa (Yn Z) Z (Qd (Qu Z (fun hc8 => ?_) (fun hc8 => ?_)))
        ·refine Qf (Qh [true] Z Z (Qa (Qg Z) Z (Qd (Qw (Qm Z Z E ?_)))))
         cases x; cases y; simp_all
        ·refine Qp (Qf (Qh [true] Z Z (Qa (Qg Z) Z (Qd (Qw (Qm Z Z E ?_))))))
         cases x; cases y; simp_all

set_option maxRecDepth 20000 in
theorem c_IndexFuncDone (vxs : Value) (xs : List Done) (fp : Value) (p : Done → Bool) (w : World) (hxs : RdS w vxs xs) (hp : PredF Tryz.prog w fp p) : Ct Tryz.prog 140 [vxs, fp] w (fun v _ => v = .int .i64 (findI xs p)) := by
 refine Yj Tryz.func140 Z Tryz.ntmps140 Z ?_
 obtain ⟨fid, fs, fc, rfl, hcf, hpf⟩ := hp
 refine Q7 [(0, vxs), (1, .func (.func fid) fs.toArray fc.toArray)] ⟨Z, Z, trivial⟩ ?_
 have E : Ext w w := Ext.refl w
 refine Qf (Qh [true] Z Z (Qa (Qg Z) Z (Qd (Qf (Qf (Qh [true, true, true] Z Z (Qa (Qe Z) Z (Qa (Q4 Tryz.underlying70 Z (hxs.ext E).len) Z (Qa (Qe Z) Z (Qd (Qy (Yh (fun (k : Nat) => [(0, vxs), (1, .func (.func fid) fs.toArray fc.toArray), (4, .int .i64 0), (7, .int .i64 ((xs.length : Nat) : Int)), (8, .int .i64 ((k : Nat) : Int))]) (fun (k : Nat) w' => Ext w w' ∧ w.heap.size ≤ w'.heap.size ∧ k ≤ xs.length ∧ (xs.take k).any p = false) (fun (k : Nat) => xs.length - k) 0 ⟨Z, Z, Z, Z, Z, trivial⟩ ⟨E, Nat.le_refl _, Nat.zero_le _, Z⟩ ?_))))))))))))
 clear E
 rintro k w1 ⟨E, z1, hk, hI⟩
 refine Qf (Qh [true] Z Z (Qa (Yb Z Z) Z (Qd (Qf (Qu Z (fun hc1 => ?_) (fun hc1 => ?_))))))
 ·have hc1n : k < xs.length := by first | (have h := of_decide_eq_true hc1; omega) | (have h := hc1; simp at h; omega)
  refine Qp (Qf (Qy (Qf (Qh [true, true] Z Z (Qa (Qe Z) Z (Qa (Qg Z) Z (Qd (Qf (Qh [true, true, true, true, true, false] Z Z (Qa (Qe Z) Z (Qa (Qe Z) Z (Qa (Qe Z) Z ?_))))))))))))
  have hi1 : k < xs.length := (by first | assumption | omega | (simp only [List.length_set]; first | assumption | omega))
  refine Qa (Qv (i := k) sl70 Z Z (hxs.ext E) hi1) Z (Qa (Q1 st156 Z ((hxs.ext E).get hi1) Z) Z (J_callV (fs := fs) (cs := fc) hcf Z Z (hpf (xs[k]'hi1) _ E) Z (fun _ w2 e1 hv => ?_)))
  subst hv
  replace E := E.trans e1
  have z2 := e1.size
  refine Qd (Qu Z (fun hc2 => ?_) (fun hc2 => ?_))
  ·refine Qf (Qh [true, true] Z Z (Qa (Qe Z) Z (Qa (Qg Z) Z (Qd (Qw (Qx (Yg (Qx (Qm Z Z E ?_)))))))))
   exact find_yes hI (by assumption) hc2
  ·refine Qp (Q5 (Yt (Qh [true, true] Z Z (Qa (Q8 Z Z (Yq hc1n hxs.1)) Z (Qa (Qe Z) Z (Qd (Q5 (Q9 (k + 1) (by omega) ⟨Z, Z, Z, Z, Z, trivial⟩ ⟨E, (by omega), (by omega), any_step hI (by assumption) hc2⟩))))))))
 ·have hc1n : ¬ k < xs.length := by first | (have h := of_decide_eq_false hc1; omega) | (have h := hc1; simp at h; omega)
  refine Yi (Q3 (Q2 ?_))
  refine Qf (Qh [true] Z Z (Qa (Qg Z) Z (Qd (Qw (Qm Z Z E ?_)))))
  exact find_no hI (by omega)

set_option maxRecDepth 20000 in
theorem c_ContainsFuncDone (vxs : Value) (xs : List Done) (fp : Value) (p : Done → Bool) (w : World) (hxs : RdS w vxs xs) (hp : PredF Tryz.prog w fp p) : Ct Tryz.prog 129 [vxs, fp] w (fun v _ => v = .bool (xs.any p)) := by
 refine Yj Tryz.func129 Z Tryz.ntmps129 Z ?_
 obtain ⟨fid, fs, fc, rfl, hcf, hpf⟩ := hp
 refine Q7 [(0, vxs), (1, .func (.func fid) fs.toArray fc.toArray)] ⟨Z, Z, trivial⟩ ?_
 have E : Ext w w := Ext.refl w
 refine Qf (Qh [true] Z Z (Qa (Qg Z) Z (Qd (Qf (Qh [true, true, false, true, true] Z Z (Qa (Qe Z) Z (Qa (Qe Z) Z (Q0 Tryz.call140 (by rfl) (c_IndexFuncDone vxs xs (.func (.func fid) fs.toArray fc.toArray) (p) _ (hxs.ext E) ⟨fid, fs, fc, Z, hcf, fun y w' e => hpf y w' (E.trans e)⟩) Z (fun _ w1 e1 hv => ?_)))))))))
 subst hv
 replace E := E.trans e1
 have z1 := e1.size
 refine Qa (R_geq Z Z) Z (Qa (Qg Z) Z (Qd (Qw (Qm Z Z E ?_))))
 exact any_find

set_option maxRecDepth 20000 in
theorem c_doneAt1 (r : Done) (be : Nat) (e : Int) (w : World) (he : At w be 0 [.int .i64 e]) : Ct Tryz.prog 130 [.agg (Enc.enc r).toArray, .pointer (some ⟨be, 0, none⟩)] w (fun v _ => v = .bool (r.epoch == e)) := by
 refine Yj Tryz.func130 Z Tryz.ntmps130 Z ?_
 refine Q7 [(0, .agg (Enc.enc r).toArray), (1, .pointer (some ⟨be, 0, none⟩))] ⟨Z, Z, trivial⟩ ?_
 have E : Ext w w := Ext.refl w
 refine Qf (Qh [false, true] Z Z (Yx Z Z (fun b1 w1 e1 s1 h1 => ?_)))
 have g_b1 : w.heap.size ≤ b1 := by have := E.size; omega
 have y_b1 := h1.lt
 replace E := E.trans e1
 have z1 := e1.size
 refine Qa (Qg Z) Z (Qd (Qf (Qh [true, true, true, true, true] Z Z (Qa (Qb fl156_0 Z) Z (Qa (Qi Yk Z (h1.one 0 Z)) Z (Qa (Qi Yk Z ((he.ext E).one 0 Z)) Z (Qa (Yw Z Z) Z (Qa (Qg Z) Z (Qd (Qw (Qm Z Z E ?_)))))))))))
 rfl

set_option maxRecDepth 20000 in
theorem c_doneAt (vxs : Value) (xs : List Done) (e : Int) (w : World) (hxs : RdS w vxs xs) : Ct Tryz.prog 112 [vxs, .int .i64 e] w (fun v _ => v = .bool (xs.any (fun d => d.epoch == e))) := by
 refine Yj Tryz.func112 Z Tryz.ntmps112 Z ?_
 refine Q7 [(0, vxs), (1, .int .i64 e)] ⟨Z, Z, trivial⟩ ?_
 have E : Ext w w := Ext.refl w
 refine Qf (Qh [false, true] Z Z (J_box1 Z Z Z (fun b1 w1 e1 s1 h1 => ?_)))
 have g_b1 : w.heap.size ≤ b1 := by have := E.size; omega
 have y_b1 := h1.lt
 replace E := E.trans e1
 have z1 := e1.size
 refine Qa (Qg Z) Z (Qd (Qf (Qh [true, true, false, true] Z Z (Qa (Qe Z) Z (Qa (R_makeFunc Z Z) Z (Q0 Tryz.call129 (by rfl) (c_ContainsFuncDone vxs xs (.func (.func 130) [].toArray [.pointer (some ⟨b1, 0, none⟩)].toArray) ((fun (y : Done) => y.epoch == e)) _ (hxs.ext E) ⟨130, [], [.pointer (some ⟨b1, 0, none⟩)], Z, Tryz.call130, fun y wX eX => c_doneAt1 y b1 e wX (At.ext (Blk.at h1) eX)⟩) Z (fun _ w2 e2 hv => ?_)))))))
 subst hv
 replace E := E.trans e2; replace h1 := h1.ext e2
 have z2 := e2.size
 refine Qa (Qg Z) Z (Qd (Qw (Qm Z Z E ?_)))
 rfl

set_option maxRecDepth 20000 in
theorem c_StampOk (s : Stamp) (w : World)  : Ct Tryz.prog 137 [.agg (Enc.enc s).toArray] w (fun v _ => v = .bool (stampOk s)) := by
 refine Yj Tryz.func137 Z Tryz.ntmps137 Z ?_
 refine Q7 [(0, .agg (Enc.enc s).toArray)] ⟨Z, trivial⟩ ?_
 have E : Ext w w := Ext.refl w
 refine Qf (Qh [false, true] Z Z (Yx Z Z (fun b1 w1 e1 s1 h1 => ?_)))
 have g_b1 : w.heap.size ≤ b1 := by have := E.size; omega
 have y_b1 := h1.lt
 replace E := E.trans e1
 have z1 := e1.size
 refine Qa (Qg Z) Z (Qd (Qf (Qh [true, true, false, true, true, true, false, true, true] Z Z (Qa (Qb fl103_0 Z) Z (Qa (Qi Yk Z (h1.one 0 Z)) Z (Q0 Tryz.call62 Z (c_within s.epoch 0 3 _ ) Z (fun _ w2 e2 hv => ?_)))))))
 subst hv
 replace E := E.trans e2; replace h1 := h1.ext e2
 have z2 := e2.size
 refine Qa (Qe Z) Z (Yz 4 [(0, .agg (Enc.enc s).toArray), (1, .pointer (some ⟨b1, 0, none⟩)), (2, .bool false), (10, .bool ((Yo s.epoch 0 3) && (Yo s.turn 0 6)))] (fun w' => Ext w w' ∧ w2.heap.size ≤ w'.heap.size ∧ Blk w' b1 (Enc.enc s)) ?_ ?_)
 ·refine Ym (gd := 6) Z Z (fun hg1 => ?_) (fun hg1 => ?_)
  ·refine Qk Z Z (Qb fl103_1 Z) Z (Qk Z Z (Qi Yk Z (h1.one 1 Z)) Z ?_)
   refine Xf Z Z ?_
   refine Q0 Tryz.call62 Z (c_within s.turn 0 6 _ ) Z (fun _ w4 e3 hv => ?_)
   subst hv
   replace E := E.trans e3; replace h1 := h1.ext e3
   have z3 := e3.size
   refine Qa (Qr Z Z) Z (Qo ⟨Z, Z, Z, congrArg (fun b => some (Value.bool b)) (show (Yo s.turn 0 6) = ((Yo s.epoch 0 3) && (Yo s.turn 0 6)) by first | (rw [hg1] <;> rfl) | (simp [hg1]; done) | (simp only [Qn] <;> simp)), trivial⟩ ⟨E, (by omega), h1⟩)
  ·refine Qc Z Z Z Z (Qc Z Z Z Z ?_)
   refine Yv Z Z Z Z ?_
   refine Qa (Qs Z Z) Z (Qo ⟨Z, Z, Z, congrArg (fun b => some (Value.bool b)) (show false = ((Yo s.epoch 0 3) && (Yo s.turn 0 6)) by first | (rw [hg1] <;> rfl) | (simp [hg1]; done) | (simp only [Qn] <;> simp)), trivial⟩ ⟨E, (by omega), h1⟩)
 clear E h1
 rintro w3 ⟨E, z4, h1⟩
 refine Qa (Qg Z) Z (Qd (Qw (Qm Z Z E ?_)))
 rfl

set_option maxRecDepth 20000 in
theorem s_StampOk (s : Stamp) (w : World)  : Ct Tryz.prog 135 [.agg (Enc.enc s).toArray] w (fun v _ => v = .bool (stampOk s)) := by
 refine Yj Tryz.func135 Z Tryz.ntmps135 Z ?_
 refine Q7 [(0, .agg (Enc.enc s).toArray)] ⟨Z, trivial⟩ ?_
 have E : Ext w w := Ext.refl w
 refine Qf (Qh [false, true] Z Z (Yx Z Z (fun b1 w1 e1 s1 h1 => ?_)))
 have g_b1 : w.heap.size ≤ b1 := by have := E.size; omega
 have y_b1 := h1.lt
 replace E := E.trans e1
 have z1 := e1.size
 refine Qa (Qg Z) Z (Qd (Qf (Qh [true, true, false, true, true, true, false, true, true] Z Z (Qa (Qb fl103_0 Z) Z (Qa (Qi Yk Z (h1.one 0 Z)) Z (Q0 Tryz.call99 Z (s_l01In s.epoch 0 3 _ ) Z (fun _ w2 e2 hv => ?_)))))))
 subst hv
 replace E := E.trans e2; replace h1 := h1.ext e2
 have z2 := e2.size
 refine Qa (Qe Z) Z (Yz 4 [(0, .agg (Enc.enc s).toArray), (1, .pointer (some ⟨b1, 0, none⟩)), (2, .bool false), (10, .bool ((Yo s.epoch 0 3) && (Yo s.turn 0 6)))] (fun w' => Ext w w' ∧ w2.heap.size ≤ w'.heap.size ∧ Blk w' b1 (Enc.enc s)) ?_ ?_)
 ·refine Ym (gd := 6) Z Z (fun hg1 => ?_) (fun hg1 => ?_)
  ·refine Qk Z Z (Qb fl103_1 Z) Z (Qk Z Z (Qi Yk Z (h1.one 1 Z)) Z ?_)
   refine Xf Z Z ?_
   refine Q0 Tryz.call99 Z (s_l01In s.turn 0 6 _ ) Z (fun _ w4 e3 hv => ?_)
   subst hv
   replace E := E.trans e3; replace h1 := h1.ext e3
   have z3 := e3.size
   refine Qa (Qr Z Z) Z (Qo ⟨Z, Z, Z, congrArg (fun b => some (Value.bool b)) (show (Yo s.turn 0 6) = ((Yo s.epoch 0 3) && (Yo s.turn 0 6)) by first | (rw [hg1] <;> rfl) | (simp [hg1]; done) | (simp only [Qn] <;> simp)), trivial⟩ ⟨E, (by omega), h1⟩)
  ·refine Qc Z Z Z Z (Qc Z Z Z Z ?_)
   refine Yv Z Z Z Z ?_
   refine Qa (Qs Z Z) Z (Qo ⟨Z, Z, Z, congrArg (fun b => some (Value.bool b)) (show false = ((Yo s.epoch 0 3) && (Yo s.turn 0 6)) by first | (rw [hg1] <;> rfl) | (simp [hg1]; done) | (simp only [Qn] <;> simp)), trivial⟩ ⟨E, (by omega), h1⟩)
 clear E h1
 rintro w3 ⟨E, z4, h1⟩
 refine Qa (Qg Z) Z (Qd (Qw (Qm Z Z E ?_)))
 rfl

set_option maxRecDepth 20000 in
theorem c_itemOk (a : Int) (b : Int) (w : World)  : Ct Tryz.prog 138 [.int .i64 a, .int .i64 b] w (fun v _ => v = .bool (Yo a 0 99 && Yo b 0 999)) := by
 refine Yj Tryz.func138 Z Tryz.ntmps138 Z ?_
 refine Q7 [(0, .int .i64 a), (1, .int .i64 b)] ⟨Z, Z, trivial⟩ ?_
 have E : Ext w w := Ext.refl w
 refine Qf (Qh [true] Z Z (Qa (Qg Z) Z (Qd (Qf (Qh [true, false, true, true, false, true, true] Z Z (Qa (Qe Z) Z (Q0 Tryz.call62 Z (c_within a 0 99 _ ) Z (fun _ w1 e1 hv => ?_))))))))
 subst hv
 replace E := E.trans e1
 have z1 := e1.size
 refine Qa (Qe Z) Z (Yz 3 [(0, .int .i64 a), (1, .int .i64 b), (4, .bool false), (10, .bool ((Yo a 0 99) && (Yo b 0 999)))] (fun w' => Ext w w' ∧ w1.heap.size ≤ w'.heap.size) ?_ ?_)
 ·refine Ym (gd := 7) Z Z (fun hg1 => ?_) (fun hg1 => ?_)
  ·refine Qk Z Z (Qe Z) Z ?_
   refine Xf Z Z ?_
   refine Q0 Tryz.call62 Z (c_within b 0 999 _ ) Z (fun _ w3 e2 hv => ?_)
   subst hv
   replace E := E.trans e2
   have z2 := e2.size
   refine Qa (Qr Z Z) Z (Qo ⟨Z, Z, Z, congrArg (fun b => some (Value.bool b)) (show (Yo b 0 999) = ((Yo a 0 99) && (Yo b 0 999)) by first | (rw [hg1] <;> rfl) | (simp [hg1]; done) | (simp only [Qn] <;> simp)), trivial⟩ ⟨E, (by omega)⟩)
  ·refine Qc Z Z Z Z ?_
   refine Yv Z Z Z Z ?_
   refine Qa (Qs Z Z) Z (Qo ⟨Z, Z, Z, congrArg (fun b => some (Value.bool b)) (show false = ((Yo a 0 99) && (Yo b 0 999)) by first | (rw [hg1] <;> rfl) | (simp [hg1]; done) | (simp only [Qn] <;> simp)), trivial⟩ ⟨E, (by omega)⟩)
 clear E
 rintro w2 ⟨E, z3⟩
 refine Qa (Qg Z) Z (Qd (Qw (Qm Z Z E ?_)))
 rfl

set_option maxRecDepth 20000 in
theorem c_RecordOk (r : Record) (w : World)  : Ct Tryz.prog 126 [.agg (Enc.enc r).toArray] w (fun v _ => v = .bool (Kb r)) := by
 refine Yj Tryz.func126 Z Tryz.ntmps126 Z ?_
 refine Q7 [(0, .agg (Enc.enc r).toArray)] ⟨Z, trivial⟩ ?_
 have E : Ext w w := Ext.refl w
 refine Qf (Qh [false, true] Z Z (Yx Z Z (fun b1 w1 e1 s1 h1 => ?_)))
 have g_b1 : w.heap.size ≤ b1 := by have := E.size; omega
 have y_b1 := h1.lt
 replace E := E.trans e1
 have z1 := e1.size
 refine Qa (Qg Z) Z (Qd (Qf (Qh [true, true, false, true, true, true, false, true, true, true, true, true, true, false, true, true] Z Z (Qa (Qb fl105_0 Z) Z (Qa (Qi Yk Z (h1.one 0 Z)) Z (Q0 Tryz.call62 Z (c_within r.op 0 7 _ ) Z (fun _ w2 e2 hv => ?_)))))))
 subst hv
 replace E := E.trans e2; replace h1 := h1.ext e2
 have z2 := e2.size
 refine Qa (Qe Z) Z (Yz 11 [(0, .agg (Enc.enc r).toArray), (1, .pointer (some ⟨b1, 0, none⟩)), (2, .bool false), (17, .bool (((Yo r.op 0 7) && (stampOk r.stamp)) && (Yo r.key 0 99 && Yo r.val 0 999)))] (fun w' => Ext w w' ∧ w2.heap.size ≤ w'.heap.size ∧ Blk w' b1 (Enc.enc r)) ?_ ?_)
 ·refine Ym (gd := 6) Z Z (fun hg1 => ?_) (fun hg1 => ?_)
  ·refine Qk Z Z (Qb X9 Z) Z (Qk Z Z (Q1 st103 Z (h1.part 1 [.int .i64 r.stamp.epoch, .int .i64 r.stamp.turn] Z) Z) Z ?_)
   refine Xf Z Z ?_
   refine Q0 Tryz.call137 Z (c_StampOk r.stamp _ ) Z (fun _ w4 e3 hv => ?_)
   subst hv
   replace E := E.trans e3; replace h1 := h1.ext e3
   have z3 := e3.size
   refine Qa (Qr Z Z) Z (Qa (Qe Z) Z (Ym (gd := 11) Z Z (fun hg2 => ?_) (fun hg2 => ?_)))
   ·refine Qk Z Z (Qb fl105_2 Z) Z (Qk Z Z (Qi Yk Z (h1.one 3 Z)) Z (Qk Z Z (Qb fl105_3 Z) Z (Qk Z Z (Qi Yk Z (h1.one 4 Z)) Z ?_)))
    refine Xf Z Z ?_
    refine Q0 Tryz.call138 Z (c_itemOk r.key r.val _ ) Z (fun _ w5 e4 hv => ?_)
    subst hv
    replace E := E.trans e4; replace h1 := h1.ext e4
    have z4 := e4.size
    refine Qa (Qr Z Z) Z (Qo ⟨Z, Z, Z, congrArg (fun b => some (Value.bool b)) (show (Yo r.key 0 99 && Yo r.val 0 999) = (((Yo r.op 0 7) && (stampOk r.stamp)) && (Yo r.key 0 99 && Yo r.val 0 999)) by first | (rw [hg1, hg2] <;> rfl) | (simp [hg1, hg2]; done) | (simp only [Qn] <;> simp)), trivial⟩ ⟨E, (by omega), h1⟩)
   ·refine Qc Z Z Z Z (Qc Z Z Z Z (Qc Z Z Z Z (Qc Z Z Z Z ?_)))
    refine Yv Z Z Z Z ?_
    refine Qa (Qs Z Z) Z (Qo ⟨Z, Z, Z, congrArg (fun b => some (Value.bool b)) (show false = (((Yo r.op 0 7) && (stampOk r.stamp)) && (Yo r.key 0 99 && Yo r.val 0 999)) by first | (rw [hg1, hg2] <;> rfl) | (simp [hg1, hg2]; done) | (simp only [Qn] <;> simp)), trivial⟩ ⟨E, (by omega), h1⟩)
  ·refine Qc Z Z Z Z (Qc Z Z Z Z ?_)
   refine Yv Z Z Z Z ?_
   refine Qa (Qs Z Z) Z (Qa (Qe Z) Z (Qc Z Z Z Z (Qc Z Z Z Z (Qc Z Z Z Z (Qc Z Z Z Z (Yv Z Z Z Z (Qa (Qs Z Z) Z (Qo ⟨Z, Z, Z, congrArg (fun b => some (Value.bool b)) (show false = (((Yo r.op 0 7) && (stampOk r.stamp)) && (Yo r.key 0 99 && Yo r.val 0 999)) by first | (rw [hg1] <;> rfl) | (simp [hg1]; done) | (simp only [Qn] <;> simp)), trivial⟩ ⟨E, (by omega), h1⟩))))))))
 clear E h1
 rintro w3 ⟨E, z5, h1⟩
 refine Qa (Qg Z) Z (Qd (Qw (Qm Z Z E ?_)))
 rfl

set_option maxRecDepth 20000 in
theorem s_RecordOk (r : Record) (w : World)  : Ct Tryz.prog 122 [.agg (Enc.enc r).toArray] w (fun v _ => v = .bool (Kb r)) := by
 refine Yj Tryz.func122 Z Tryz.ntmps122 Z ?_
 refine Q7 [(0, .agg (Enc.enc r).toArray)] ⟨Z, trivial⟩ ?_
 have E : Ext w w := Ext.refl w
 refine Qf (Qh [false, true] Z Z (Yx Z Z (fun b1 w1 e1 s1 h1 => ?_)))
 have g_b1 : w.heap.size ≤ b1 := by have := E.size; omega
 have y_b1 := h1.lt
 replace E := E.trans e1
 have z1 := e1.size
 refine Qa (Qg Z) Z (Qd (Qf (Qh [true, true, false, true, true, true, false, true, true, true, true, false, true, true, true, true, false, true, true] Z Z (Qa (Qb fl105_0 Z) Z (Qa (Qi Yk Z (h1.one 0 Z)) Z (Q0 Tryz.call99 Z (s_l01In r.op 0 7 _ ) Z (fun _ w2 e2 hv => ?_)))))))
 subst hv
 replace E := E.trans e2; replace h1 := h1.ext e2
 have z2 := e2.size
 refine Qa (Qe Z) Z (Yz 14 [(0, .agg (Enc.enc r).toArray), (1, .pointer (some ⟨b1, 0, none⟩)), (2, .bool false), (20, .bool ((((Yo r.op 0 7) && (stampOk r.stamp)) && (Yo r.key 0 99)) && (Yo r.val 0 999)))] (fun w' => Ext w w' ∧ w2.heap.size ≤ w'.heap.size ∧ Blk w' b1 (Enc.enc r)) ?_ ?_)
 ·refine Ym (gd := 6) Z Z (fun hg1 => ?_) (fun hg1 => ?_)
  ·refine Qk Z Z (Qb X9 Z) Z (Qk Z Z (Q1 st103 Z (h1.part 1 [.int .i64 r.stamp.epoch, .int .i64 r.stamp.turn] Z) Z) Z ?_)
   refine Xf Z Z ?_
   refine Q0 Tryz.call135 Z (s_StampOk r.stamp _ ) Z (fun _ w4 e3 hv => ?_)
   subst hv
   replace E := E.trans e3; replace h1 := h1.ext e3
   have z3 := e3.size
   refine Qa (Qr Z Z) Z (Qa (Qe Z) Z (Ym (gd := 11) Z Z (fun hg2 => ?_) (fun hg2 => ?_)))
   ·refine Qk Z Z (Qb fl105_2 Z) Z (Qk Z Z (Qi Yk Z (h1.one 3 Z)) Z ?_)
    refine Xf Z Z ?_
    refine Q0 Tryz.call99 Z (s_l01In r.key 0 99 _ ) Z (fun _ w5 e4 hv => ?_)
    subst hv
    replace E := E.trans e4; replace h1 := h1.ext e4
    have z4 := e4.size
    refine Qa (Qr Z Z) Z (Qa (Qe Z) Z (Ym (gd := 16) Z Z (fun hg3 => ?_) (fun hg3 => ?_)))
    ·refine Qk Z Z (Qb fl105_3 Z) Z (Qk Z Z (Qi Yk Z (h1.one 4 Z)) Z ?_)
     refine Xf Z Z ?_
     refine Q0 Tryz.call99 Z (s_l01In r.val 0 999 _ ) Z (fun _ w6 e5 hv => ?_)
     subst hv
     replace E := E.trans e5; replace h1 := h1.ext e5
     have z5 := e5.size
     refine Qa (Qr Z Z) Z (Qo ⟨Z, Z, Z, congrArg (fun b => some (Value.bool b)) (show (Yo r.val 0 999) = ((((Yo r.op 0 7) && (stampOk r.stamp)) && (Yo r.key 0 99)) && (Yo r.val 0 999)) by first | (rw [hg1, hg2, hg3] <;> rfl) | (simp [hg1, hg2, hg3]; done) | (simp only [Qn] <;> simp)), trivial⟩ ⟨E, (by omega), h1⟩)
    ·refine Qc Z Z Z Z (Qc Z Z Z Z ?_)
     refine Yv Z Z Z Z ?_
     refine Qa (Qs Z Z) Z (Qo ⟨Z, Z, Z, congrArg (fun b => some (Value.bool b)) (show false = ((((Yo r.op 0 7) && (stampOk r.stamp)) && (Yo r.key 0 99)) && (Yo r.val 0 999)) by first | (rw [hg1, hg2, hg3] <;> rfl) | (simp [hg1, hg2, hg3]; done) | (simp only [Qn] <;> simp)), trivial⟩ ⟨E, (by omega), h1⟩)
   ·refine Qc Z Z Z Z (Qc Z Z Z Z ?_)
    refine Yv Z Z Z Z ?_
    refine Qa (Qs Z Z) Z (Qa (Qe Z) Z (Qc Z Z Z Z (Qc Z Z Z Z (Yv Z Z Z Z (Qa (Qs Z Z) Z (Qo ⟨Z, Z, Z, congrArg (fun b => some (Value.bool b)) (show false = ((((Yo r.op 0 7) && (stampOk r.stamp)) && (Yo r.key 0 99)) && (Yo r.val 0 999)) by first | (rw [hg1, hg2] <;> rfl) | (simp [hg1, hg2]; done) | (simp only [Qn] <;> simp)), trivial⟩ ⟨E, (by omega), h1⟩))))))
  ·refine Qc Z Z Z Z (Qc Z Z Z Z ?_)
   refine Yv Z Z Z Z ?_
   refine Qa (Qs Z Z) Z (Qa (Qe Z) Z (Qc Z Z Z Z (Qc Z Z Z Z (Yv Z Z Z Z (Qa (Qs Z Z) Z (Qa (Qe Z) Z (Qc Z Z Z Z (Qc Z Z Z Z (Yv Z Z Z Z (Qa (Qs Z Z) Z (Qo ⟨Z, Z, Z, congrArg (fun b => some (Value.bool b)) (show false = ((((Yo r.op 0 7) && (stampOk r.stamp)) && (Yo r.key 0 99)) && (Yo r.val 0 999)) by first | (rw [hg1] <;> rfl) | (simp [hg1]; done) | (simp only [Qn] <;> simp)), trivial⟩ ⟨E, (by omega), h1⟩)))))))))))
 clear E h1
 rintro w3 ⟨E, z6, h1⟩
 refine Qa (Qg Z) Z (Qd (Qw (Qm Z Z E ?_)))
 simp [Kb, Bool.and_assoc]

set_option maxRecDepth 20000 in
theorem c_isNode (cg : List Value) (g : Graph) (op : Int) (w : World) (hg : Dat.R w 0 w.heap.size cg g) : Ct Tryz.prog 127 [.agg cg.toArray, .int .i64 op] w (fun v _ => v = .bool (isNodeM g op)) := by
 refine Yj Tryz.func127 Z Tryz.ntmps127 Z ?_
 obtain ⟨o1, rfl, hd1⟩ := Graph.op hg
 refine Q7 [(0, .agg [o1, .int .i64 g.workers, .int .i64 g.cap].toArray), (1, .int .i64 op)] ⟨Z, Z, trivial⟩ ?_
 have E : Ext w w := Ext.refl w
 refine Qf (Qh [false, true] Z Z (Yx Z Z (fun b1 w1 e1 s1 h1 => ?_)))
 have g_b1 : w.heap.size ≤ b1 := by have := E.size; omega
 have y_b1 := h1.lt
 replace E := E.trans e1
 have z1 := e1.size
 refine Qa (Qg Z) Z (Qd (Qf (Qh [true, true, true, true, true, false, true] Z Z (Qa (Qe Z) Z (Qa (Qb Xp Z) Z (Qa (Qi sc32 Z (h1.one 0 Z)) Z (Qa (Q4 Tryz.underlying32 Z (hd1.ext E).len) Z (Qa (Ka Z Z Z) Z (Q0 Tryz.call62 Z (c_within op 0 (IntKind.i64.wrap (((g.nodes.length : Nat) : Int) - 1)) _ ) Z (fun _ w2 e2 hv => ?_))))))))))
 subst hv
 replace E := E.trans e2; replace h1 := h1.ext e2
 have z2 := e2.size
 refine Qa (Qg Z) Z (Qd (Qw (Qm Z Z E ?_)))
 have a1 := hd1.1.1
 unfold maxLen at a1
 rw [wrap_in (by omega) (by omega)]; rfl

set_option maxRecDepth 20000 in
theorem c_opsOk (cg : List Value) (g : Graph) (vxs : Value) (xs : List Record) (w : World) (hg : Dat.R w 0 w.heap.size cg g) (hxs : RdS w vxs xs) : Ct Tryz.prog 109 [.agg cg.toArray, vxs] w (fun v _ => v = .bool (xs.all (Xg g))) := by
 refine Yj Tryz.func109 Z Tryz.ntmps109 Z ?_
 obtain ⟨o1, rfl, hd1⟩ := Graph.op hg
 refine Q7 [(0, .agg [o1, .int .i64 g.workers, .int .i64 g.cap].toArray), (1, vxs)] ⟨Z, Z, trivial⟩ ?_
 have E : Ext w w := Ext.refl w
 refine Qf (Qh [false, true] Z Z (Yx Z Z (fun b1 w1 e1 s1 h1 => ?_)))
 have g_b1 : w.heap.size ≤ b1 := by have := E.size; omega
 have y_b1 := h1.lt
 replace E := E.trans e1
 have z1 := e1.size
 refine Qa (Qg Z) Z (Qd (Qf (Qf (Qh [true, true, true] Z Z (Qa (Qe Z) Z (Qa (Q4 Tryz.underlying66 Z (hxs.ext E).len) Z (Qa (Qe Z) Z (Qd (Qy (Yh (fun (k : Nat) => [(2, .pointer (some ⟨b1, 0, none⟩)), (4, .bool false), (7, vxs), (8, .int .i64 ((xs.length : Nat) : Int)), (9, .int .i64 ((k : Nat) : Int))]) (fun (k : Nat) w' => Ext w w' ∧ w1.heap.size ≤ w'.heap.size ∧ Blk w' b1 ([o1, .int .i64 g.workers, .int .i64 g.cap]) ∧ k ≤ xs.length ∧ (xs.take k).all (Xg g) = true) (fun (k : Nat) => xs.length - k) 0 ⟨Z, Z, Z, Z, Z, trivial⟩ ⟨E, Nat.le_refl _, h1, Nat.zero_le _, Z⟩ ?_))))))))))
 clear E h1
 rintro k w2 ⟨E, z2, h1, hk, hI⟩
 refine Qf (Qh [true] Z Z (Qa (Yb Z Z) Z (Qd (Qf (Qu Z (fun hc1 => ?_) (fun hc1 => ?_))))))
 ·have hc1n : k < xs.length := by first | (have h := of_decide_eq_true hc1; omega) | (have h := hc1; simp at h; omega)
  refine Qp (Qf (Qy (Qf (Qh [true, true, false, false] Z Z ?_))))
  have hi1 : k < xs.length := (by first | assumption | omega | (simp only [List.length_set]; first | assumption | omega))
  refine Qa (Qv (i := k) Xx Z Z (hxs.ext E) hi1) Z (Qa (Q1 Kg Z ((hxs.ext E).get hi1) Z) Z (Yu Kg Z (fun b2 w3 e2 s2 h2 => ?_)))
  have g_b2 : w.heap.size ≤ b2 := by have := E.size; omega
  have y_b2 := h2.lt
  replace E := E.trans e2; replace h1 := h1.ext e2
  have z3 := e2.size
  refine Ya (cs' := [.int .i64 ((xs[k]'hi1).op), .int .i64 (((xs[k]'hi1).stamp).epoch), .int .i64 (((xs[k]'hi1).stamp).turn), .int .i64 ((xs[k]'hi1).key), .int .i64 ((xs[k]'hi1).val)]) Kg Z Z Z Z h2 (Nat.le_of_ble_eq_true Z) Z (fun w4 m1 h2' => ?_)
  replace h2 := h2'
  replace E := E.step m1 (fun g hg => by cases hg; omega); replace h1 := h1.mod m1 (fun g hg => by cases hg; omega)
  have z4 := m1.size
  refine Qd (Qf (Qh [true, false, true, true, true, true, true, false, true, true] Z Z (Qa (Q1 Kg Z h2.at Z) Z (Q0 Tryz.call126 Z (c_RecordOk (xs[k]'hi1) _ ) Z (fun _ w5 e3 hv => ?_)))))
  subst hv
  replace E := E.trans e3; replace h1 := h1.ext e3; replace h2 := h2.ext e3
  have z5 := e3.size
  refine Qa (Yn Z) Z (Qa (Qe Z) Z (Yz 6 [(2, .pointer (some ⟨b1, 0, none⟩)), (4, .bool false), (6, .pointer (some ⟨b2, 0, none⟩)), (7, vxs), (8, .int .i64 ((xs.length : Nat) : Int)), (9, .int .i64 ((k : Nat) : Int)), (10, .bool (decide (((k : Nat) : Int) < ((xs.length : Nat) : Int)))), (11, .pointer (some ⟨Xm vxs, Xl vxs + k * 5, none⟩)), (12, .agg (Enc.enc (xs[k]'hi1)).toArray), (22, .bool ((!(Kb (xs[k]'hi1))) || (!(isNodeM g ((xs[k]'hi1).op)))))] (fun w' => Ext w w' ∧ w5.heap.size ≤ w'.heap.size ∧ Blk w' b1 ([o1, .int .i64 g.workers, .int .i64 g.cap]) ∧ Blk w' b2 [.int .i64 ((xs[k]'hi1).op), .int .i64 (((xs[k]'hi1).stamp).epoch), .int .i64 (((xs[k]'hi1).stamp).turn), .int .i64 ((xs[k]'hi1).key), .int .i64 ((xs[k]'hi1).val)]) ?_ ?_))
  ·refine Ym (gd := 16) Z Z (fun hg1 => ?_) (fun hg1 => ?_)
   ·refine Qc Z Z Z Z (Qc Z Z Z Z (Qc Z Z Z Z ?_))
    refine Yv Z Z Z Z ?_
    refine Qc Z Z Z Z (Qa (Qr Z Z) Z (Qo ⟨Z, Z, Z, Z, Z, Z, Z, Z, Z, congrArg (fun b => some (Value.bool b)) (show true = ((!(Kb (xs[k]'hi1))) || (!(isNodeM g ((xs[k]'hi1).op)))) by first | (rw [hg1] <;> rfl) | (simp [hg1]; done) | (simp only [Qn] <;> simp)), trivial⟩ ⟨E, (by omega), h1, h2⟩))
   ·refine Qk Z Z (Q1 X2 Z h1.at Z) Z (Qk Z Z (Qb fl105_0 Z) Z (Qk Z Z (Qi Yk Z (h2.one 0 Z)) Z ?_))
    refine Xf Z Z ?_
    refine Q0 Tryz.call127 Z (c_isNode [o1, .int .i64 g.workers, .int .i64 g.cap] g ((xs[k]'hi1).op) _ (Graph.mkR g (RdD.any (hd1.ext E)))) Z (fun _ w7 e4 hv => ?_)
    subst hv
    replace E := E.trans e4; replace h1 := h1.ext e4; replace h2 := h2.ext e4
    have z6 := e4.size
    refine Qk Z Z (Yn Z) Z (Qa (Qs Z Z) Z (Qo ⟨Z, Z, Z, Z, Z, Z, Z, Z, Z, congrArg (fun b => some (Value.bool b)) (show (!(isNodeM g ((xs[k]'hi1).op))) = ((!(Kb (xs[k]'hi1))) || (!(isNodeM g ((xs[k]'hi1).op)))) by first | (rw [hg1] <;> rfl) | (simp [hg1]; done) | (simp only [Qn] <;> simp)), trivial⟩ ⟨E, (by omega), h1, h2⟩))
  clear E h1 h2
  rintro w6 ⟨E, z7, h1, h2⟩
  refine Qd (Qu Z (fun hc2 => ?_) (fun hc2 => ?_))
  ·refine Qf (Qh [true] Z Z (Qa (Qg Z) Z (Qd (Qw (Qx (Yg (Qx (Qm Z Z E ?_))))))))
   exact all_no (by assumption) (kx hc2)
  ·refine Qp (Q5 (Yt (Qh [true, true] Z Z (Qa (Q8 Z Z (Yq hc1n hxs.1)) Z (Qa (Qe Z) Z (Qd (Q5 (Q9 (k + 1) (by omega) ⟨Z, Z, Z, Z, Z, trivial⟩ ⟨E, (by omega), h1, (by omega), Y4 hI (by assumption) (ky hc2)⟩))))))))
 ·have hc1n : ¬ k < xs.length := by first | (have h := of_decide_eq_false hc1; omega) | (have h := hc1; simp at h; omega)
  refine Yi (Q3 (Q2 ?_))
  refine Qf (Qh [true] Z Z (Qa (Qg Z) Z (Qd (Qw (Qm Z Z E ?_)))))
  exact all_yes hI (by omega)

set_option maxRecDepth 20000 in
theorem s_l12Records (cg : List Value) (g : Graph) (vxs : Value) (xs : List Record) (w : World) (hg : Dat.R w 0 w.heap.size cg g) (hxs : RdS w vxs xs) : Ct Tryz.prog 98 [.agg cg.toArray, vxs] w (fun v _ => v = .bool (xs.all (Xg g))) := by
 refine Yj Tryz.func98 Z Tryz.ntmps98 Z ?_
 obtain ⟨o1, rfl, hd1⟩ := Graph.op hg
 refine Q7 [(0, .agg [o1, .int .i64 g.workers, .int .i64 g.cap].toArray), (1, vxs)] ⟨Z, Z, trivial⟩ ?_
 have E : Ext w w := Ext.refl w
 refine Qf (Qh [false, true] Z Z (Yx Z Z (fun b1 w1 e1 s1 h1 => ?_)))
 have g_b1 : w.heap.size ≤ b1 := by have := E.size; omega
 have y_b1 := h1.lt
 replace E := E.trans e1
 have z1 := e1.size
 refine Qa (Qg Z) Z (Qd (Qf (Qf (Qh [true] Z Z (Qa (Qg Z) Z (Qd (Qy (Yh (fun (k : Nat) => [(1, vxs), (2, .pointer (some ⟨b1, 0, none⟩)), (4, .bool false), (5, .int .i64 ((k : Nat) : Int))]) (fun (k : Nat) w' => Ext w w' ∧ w1.heap.size ≤ w'.heap.size ∧ Blk w' b1 ([o1, .int .i64 g.workers, .int .i64 g.cap]) ∧ k ≤ xs.length ∧ (xs.take k).all (Xg g) = true) (fun (k : Nat) => xs.length - k) 0 ⟨Z, Z, Z, Z, trivial⟩ ⟨E, Nat.le_refl _, h1, Nat.zero_le _, Z⟩ ?_))))))))
 clear E h1
 rintro k w2 ⟨E, z2, h1, hk, hI⟩
 refine Qf (Qf (Qh [true, true, true, true] Z Z (Qa (Qe Z) Z (Qa (Qe Z) Z (Qa (Q4 Tryz.underlying66 Z (hxs.ext E).len) Z (Qa (Yb Z Z) Z (Qd (Qu Z (fun hc1 => ?_) (fun hc1 => ?_)))))))))
 ·have hc1n : k < xs.length := by first | (have h := of_decide_eq_true hc1; omega) | (have h := hc1; simp at h; omega)
  refine Qp (Qf (Qy (Qf (Y7 Y8 [(0, true), (1, true), (2, true), (3, true), (4, false), (5, true), (6, true), (7, true), (8, true), (9, true), (10, true), (11, true), (12, true), (13, true), (14, true), (15, true), (16, true)] (by decide +kernel) Z (fun w3 e2 => ?_)))))
  replace E := E.trans e2; replace h1 := h1.ext e2
  have z3 := e2.size
  refine Qa (Qe Z) Z (Qa (Qe Z) Z ?_)
  have hi1 : k < xs.length := (by first | assumption | omega | (simp only [List.length_set]; first | assumption | omega))
  refine Qa (Qv (i := k) Xx Z Z (hxs.ext E) hi1) Z (Qa (Q1 Kg Z ((hxs.ext E).get hi1) Z) Z (Q0 Tryz.call122 Z (s_RecordOk (xs[k]'hi1) _ ) Z (fun _ w4 e3 hv => ?_)))
  subst hv
  replace E := E.trans e3; replace h1 := h1.ext e3
  have z4 := e3.size
  refine Qa (Yn Z) Z (Qa (Qe Z) Z (Yz 10 [(1, vxs), (2, .pointer (some ⟨b1, 0, none⟩)), (4, .bool false), (5, .int .i64 ((k : Nat) : Int)), (6, .int .i64 ((k : Nat) : Int)), (7, vxs), (8, .int .i64 ((xs.length : Nat) : Int)), (9, .bool (decide (((k : Nat) : Int) < ((xs.length : Nat) : Int)))), (28, .bool ((!(Kb (xs[k]'hi1))) || (decide (((g.nodes.length : Nat) : Int) ≤ ((xs[k]'hi1).op)))))] (fun w' => w4 = w') ?_ ?_))
  ·refine Ym (gd := 18) Z Z (fun hg1 => ?_) (fun hg1 => ?_)
   ·refine Qc Z Z Z Z (Qc Z Z Z Z (Qc Z Z Z Z (Qc Z Z Z Z (Qc Z Z Z Z (Qc Z Z Z Z (Qc Z Z Z Z (Qc Z Z Z Z (Qc Z Z Z Z (Qa (Qr Z Z) Z (Qo ⟨Z, Z, Z, Z, Z, Z, Z, Z, congrArg (fun b => some (Value.bool b)) (show true = ((!(Kb (xs[k]'hi1))) || (decide (((g.nodes.length : Nat) : Int) ≤ ((xs[k]'hi1).op)))) by first | (rw [hg1] <;> rfl) | (simp [hg1]; done) | (simp only [Qn] <;> simp)), trivial⟩ Z))))))))))
   ·refine Qk Z Z (Qe Z) Z (Qk Z Z (Qe Z) Z (Qk Z Z (Qv (i := k) Xx Z Z (hxs.ext E) hi1) Z (Qk Z Z (Qz fl105_0 Z) Z (Qk Z Z (Qi Yk Z (((hxs.ext E).get hi1).one 0 Z)) Z (Qk Z Z (Qb Xp Z) Z (Qk Z Z (Qi sc32 Z (h1.one 0 Z)) Z (Qk Z Z (Q4 Tryz.underlying32 Z (hd1.ext E).len) Z (Qk Z Z (R_geq Z Z) Z (Qa (Qs Z Z) Z (Qo ⟨Z, Z, Z, Z, Z, Z, Z, Z, congrArg (fun b => some (Value.bool b)) (show (decide (((g.nodes.length : Nat) : Int) ≤ ((xs[k]'hi1).op))) = ((!(Kb (xs[k]'hi1))) || (decide (((g.nodes.length : Nat) : Int) ≤ ((xs[k]'hi1).op)))) by first | (rw [hg1] <;> rfl) | (simp [hg1]; done) | (simp only [Qn] <;> simp)), trivial⟩ Z))))))))))
  rintro _ rfl
  refine Qd (Qu Z (fun hc2 => ?_) (fun hc2 => ?_))
  ·refine Qf (Qh [true] Z Z (Qa (Qg Z) Z (Qd (Qw (Qx (Yg (Qx (Qm Z Z E ?_))))))))
   exact all_no (by assumption) (op_no hc2)
  ·refine Qp (Q5 (Yt (Qh [true, true, true] Z Z (Qa (Qe Z) Z (Qa (Q8 Z Z (Yq hc1n hxs.1)) Z (Qa (Qg Z) Z (Qd (Q5 (Q9 (k + 1) (by omega) ⟨Z, Z, Z, Z, trivial⟩ ⟨E, (by omega), h1, (by omega), Y4 hI (by assumption) (op_yes hc2)⟩)))))))))
 ·have hc1n : ¬ k < xs.length := by first | (have h := of_decide_eq_false hc1; omega) | (have h := hc1; simp at h; omega)
  refine Yi (Q3 (Q2 ?_))
  refine Qf (Qh [true] Z Z (Qa (Qg Z) Z (Qd (Qw (Qm Z Z E ?_)))))
  exact all_yes hI (by omega)

set_option maxHeartbeats 4000000 in
set_option maxRecDepth 20000 in
theorem c_WorkerOk (cg : List Value) (g : Graph) (cx : List Value) (x : Worker) (w : World) (hg : Dat.R w 0 w.heap.size cg g) (hx : Dat.R w 0 w.heap.size cx x) : Ct Tryz.prog 64 [.agg cg.toArray, .agg cx.toArray] w (fun v _ => v = .bool (Xe g x)) := by
 refine Yj Tryz.func64 Z Tryz.ntmps64 Z ?_
 obtain ⟨o1, rfl, hd1⟩ := Graph.op hg
 obtain ⟨o2, o3, o4, o5, o6, o7, o8, o9, rfl, hd2, hd3, hd4, hd5, hd6, hd7, hd8, hd9⟩ := Worker.op hx
 refine Q7 [(0, .agg [o1, .int .i64 g.workers, .int .i64 g.cap].toArray), (1, .agg [o2, o3, o4, o5, o6, o7, o8, o9].toArray)] ⟨Z, Z, trivial⟩ ?_
 have E : Ext w w := Ext.refl w
 refine Qf (Qh [false, false, true] Z Z (Yx Z Z (fun b1 w1 e1 s1 h1 => ?_)))
 have g_b1 : w.heap.size ≤ b1 := by have := E.size; omega
 have y_b1 := h1.lt
 replace E := E.trans e1
 have z1 := e1.size
 refine Yx Z Z (fun b2 w2 e2 s2 h2 => ?_)
 have g_b2 : w.heap.size ≤ b2 := by have := E.size; omega
 have y_b2 := h2.lt
 replace E := E.trans e2; replace h1 := h1.ext e2
 have z2 := e2.size
 refine Qa (Qg Z) Z (Qd (Qf (Qf (Qh [true, true, true, false, true, true, true, true, true, false, true, true, true, true, true, true, false, true, true, true, true, true, false, true, true] Z Z (Qa (Q1 X2 Z h1.at Z) Z (Qa (Qb fl72_0 Z) Z (Qa (Qi Xa Z (h2.one 0 Z)) Z (Q0 Tryz.call109 Z (c_opsOk [o1, .int .i64 g.workers, .int .i64 g.cap] g o2 x.queue _ (Graph.mkR g (RdD.any (hd1.ext E))) (hd2.rd.ext E)) Z (fun _ w3 e3 hv => ?_)))))))))
 subst hv
 replace E := E.trans e3; replace h1 := h1.ext e3; replace h2 := h2.ext e3
 have z3 := e3.size
 refine Qa (Yn Z) Z (Qa (Qe Z) Z (Yz 19 [(0, .agg [o1, .int .i64 g.workers, .int .i64 g.cap].toArray), (1, .agg [o2, o3, o4, o5, o6, o7, o8, o9].toArray), (2, .pointer (some ⟨b1, 0, none⟩)), (3, .pointer (some ⟨b2, 0, none⟩)), (4, .bool false), (35, .bool ((((!(x.queue.all (Xg g))) || (!(x.staged.all (Xg g)))) || (!(x.inputs.all (Xg g)))) || (!((adj x.cells).all Xw))))] (fun w' => Ext w w' ∧ w3.heap.size ≤ w'.heap.size ∧ Blk w' b1 ([o1, .int .i64 g.workers, .int .i64 g.cap]) ∧ Blk w' b2 ([o2, o3, o4, o5, o6, o7, o8, o9])) ?_ ?_))
 ·refine Ym (gd := 16) Z Z (fun hg1 => ?_) (fun hg1 => ?_)
  ·refine Qc Z Z Z Z (Qc Z Z Z Z (Qc Z Z Z Z ?_))
   refine Yv Z Z Z Z ?_
   refine Qc Z Z Z Z (Qa (Qr Z Z) Z (Qa (Qe Z) Z (Qc Z Z Z Z (Qc Z Z Z Z (Qc Z Z Z Z ?_)))))
   refine Yv Z Z Z Z ?_
   refine Qc Z Z Z Z (Qa (Qr Z Z) Z (Qa (Qe Z) Z (Qc Z Z Z Z (Qc Z Z Z Z ?_))))
   refine Yv Z Z Z Z ?_
   refine Qc Z Z Z Z (Qa (Qr Z Z) Z (Qo ⟨Z, Z, Z, Z, Z, congrArg (fun b => some (Value.bool b)) (show true = ((((!(x.queue.all (Xg g))) || (!(x.staged.all (Xg g)))) || (!(x.inputs.all (Xg g)))) || (!((adj x.cells).all Xw))) by first | (rw [hg1] <;> rfl) | (simp [hg1]; done) | (simp only [Qn] <;> simp)), trivial⟩ ⟨E, (by omega), h1, h2⟩))
  ·refine Qk Z Z (Q1 X2 Z h1.at Z) Z (Qk Z Z (Qb fl72_1 Z) Z (Qk Z Z (Qi Xa Z (h2.one 1 Z)) Z ?_))
   refine Xf Z Z ?_
   refine Q0 Tryz.call109 Z (c_opsOk [o1, .int .i64 g.workers, .int .i64 g.cap] g o3 x.staged _ (Graph.mkR g (RdD.any (hd1.ext E))) (hd3.rd.ext E)) Z (fun _ w5 e4 hv => ?_)
   subst hv
   replace E := E.trans e4; replace h1 := h1.ext e4; replace h2 := h2.ext e4
   have z4 := e4.size
   refine Qk Z Z (Yn Z) Z (Qa (Qs Z Z) Z (Qa (Qe Z) Z ?_))
   refine Ym (gd := 23) Z Z (fun hg2 => ?_) (fun hg2 => ?_)
   ·refine Qc Z Z Z Z (Qc Z Z Z Z (Qc Z Z Z Z ?_))
    refine Yv Z Z Z Z ?_
    refine Qc Z Z Z Z (Qa (Qr Z Z) Z (Qa (Qe Z) Z (Qc Z Z Z Z (Qc Z Z Z Z ?_))))
    refine Yv Z Z Z Z ?_
    refine Qc Z Z Z Z (Qa (Qr Z Z) Z (Qo ⟨Z, Z, Z, Z, Z, congrArg (fun b => some (Value.bool b)) (show true = ((((!(x.queue.all (Xg g))) || (!(x.staged.all (Xg g)))) || (!(x.inputs.all (Xg g)))) || (!((adj x.cells).all Xw))) by first | (rw [hg1, hg2] <;> rfl) | (simp [hg1, hg2]; done) | (simp only [Qn] <;> simp)), trivial⟩ ⟨E, (by omega), h1, h2⟩))
   ·refine Qk Z Z (Q1 X2 Z h1.at Z) Z (Qk Z Z (Qb Xo Z) Z (Qk Z Z (Qi Xa Z (h2.one 2 Z)) Z ?_))
    refine Xf Z Z ?_
    refine Q0 Tryz.call109 Z (c_opsOk [o1, .int .i64 g.workers, .int .i64 g.cap] g o4 x.inputs _ (Graph.mkR g (RdD.any (hd1.ext E))) (hd4.rd.ext E)) Z (fun _ w6 e5 hv => ?_)
    subst hv
    replace E := E.trans e5; replace h1 := h1.ext e5; replace h2 := h2.ext e5
    have z5 := e5.size
    refine Qk Z Z (Yn Z) Z (Qa (Qs Z Z) Z (Qa (Qe Z) Z ?_))
    refine Ym (gd := 30) Z Z (fun hg3 => ?_) (fun hg3 => ?_)
    ·refine Qc Z Z Z Z (Qc Z Z Z Z ?_)
     refine Yv Z Z Z Z ?_
     refine Qc Z Z Z Z (Qa (Qr Z Z) Z (Qo ⟨Z, Z, Z, Z, Z, congrArg (fun b => some (Value.bool b)) (show true = ((((!(x.queue.all (Xg g))) || (!(x.staged.all (Xg g)))) || (!(x.inputs.all (Xg g)))) || (!((adj x.cells).all Xw))) by first | (rw [hg1, hg2, hg3] <;> rfl) | (simp [hg1, hg2, hg3]; done) | (simp only [Qn] <;> simp)), trivial⟩ ⟨E, (by omega), h1, h2⟩))
    ·refine Qk Z Z (Qb fl72_3 Z) Z (Qk Z Z (Qi sc67 Z (h2.one 3 Z)) Z ?_)
     refine Xf Z Z ?_
     refine Q0 Tryz.call111 Z (c_CellsOk o5 x.cells _ (hd5.rd.ext E)) Z (fun _ w7 e6 hv => ?_)
     subst hv
     replace E := E.trans e6; replace h1 := h1.ext e6; replace h2 := h2.ext e6
     have z6 := e6.size
     refine Qk Z Z (Yn Z) Z (Qa (Qs Z Z) Z (Qo ⟨Z, Z, Z, Z, Z, congrArg (fun b => some (Value.bool b)) (show (!((adj x.cells).all Xw)) = ((((!(x.queue.all (Xg g))) || (!(x.staged.all (Xg g)))) || (!(x.inputs.all (Xg g)))) || (!((adj x.cells).all Xw))) by first | (rw [hg1, hg2, hg3] <;> rfl) | (simp [hg1, hg2, hg3]; done) | (simp only [Qn] <;> simp)), trivial⟩ ⟨E, (by omega), h1, h2⟩))
 clear E h1 h2
 rintro w4 ⟨E, z7, h1, h2⟩
 refine Qd (Qu Z (fun hc1 => ?_) (fun hc1 => ?_))
 ·refine Qf (Qh [true] Z Z (Qa (Qg Z) Z (Qd (Qw (Qm Z Z E ?_)))))
  exact bf fun h => by simp only [Xe, Bool.and_eq_true] at h; obtain ⟨⟨⟨⟨⟨⟨⟨⟨⟨q1, q2⟩, q3⟩, q4⟩, q5⟩, q6⟩, q7⟩, q8⟩, q9⟩, q10⟩ := h; simp only [q1, q2, q3, q4] at hc1; simp at hc1
 ·refine Qp (Qf (Qf (Qh [true, true, true, true] Z Z (Qa (Qb Xo Z) Z (Qa (Qi Xa Z (h2.one 2 Z)) Z (Qa (Q4 Tryz.underlying66 Z (hd4.ext E).len) Z (Qa (Qe Z) Z (Qd (Qy (Yh (fun (k : Nat) => [(3, .pointer (some ⟨b2, 0, none⟩)), (4, .bool false), (37, o4), (38, .int .i64 ((x.inputs.length : Nat) : Int)), (39, .int .i64 ((k : Nat) : Int))]) (fun (k : Nat) w' => Ext w w' ∧ w4.heap.size ≤ w'.heap.size ∧ Blk w' b1 ([o1, .int .i64 g.workers, .int .i64 g.cap]) ∧ Blk w' b2 ([o2, o3, o4, o5, o6, o7, o8, o9]) ∧ k ≤ x.inputs.length ∧ allR k (fun j => inAt x.inputs j) = true) (fun (k : Nat) => x.inputs.length - k) 0 ⟨Z, Z, Z, Z, Z, trivial⟩ ⟨E, Nat.le_refl _, h1, h2, Nat.zero_le _, Z⟩ ?_))))))))))
  clear E h1 h2
  rintro k w8 ⟨E, z8, h1, h2, hk, hI1⟩
  have hmi := hd4.1.1
  unfold maxLen at hmi
  refine Qf (Qh [true] Z Z (Qa (Yb Z Z) Z (Qd (Qf (Qu Z (fun hc2 => ?_) (fun hc2 => ?_))))))
  ·have hc2n : k < x.inputs.length := by first | (have h := of_decide_eq_true hc2; omega) | (have h := hc2; simp at h; omega)
   refine Qp (Qf (Qy (Qf (Qh [true, true, true, false, true, false] Z Z (Qa (Qe Z) Z ?_)))))
   have hi1 : k < x.inputs.length := (by first | assumption | omega | (simp only [List.length_set]; first | assumption | omega))
   refine Qa (Qv (i := k) Xx Z Z (hd4.rd.ext E) hi1) Z (Qa (Q1 Kg Z ((hd4.rd.ext E).get hi1) Z) Z (Yu Kg Z (fun b3 w9 e7 s3 h3 => ?_)))
   have g_b3 : w.heap.size ≤ b3 := by have := E.size; omega
   have y_b3 := h3.lt
   replace E := E.trans e7; replace h1 := h1.ext e7; replace h2 := h2.ext e7
   have z9 := e7.size
   refine Qa (Qg Z) Z (Ya (cs' := [.int .i64 ((x.inputs[k]'hi1).op), .int .i64 (((x.inputs[k]'hi1).stamp).epoch), .int .i64 (((x.inputs[k]'hi1).stamp).turn), .int .i64 ((x.inputs[k]'hi1).key), .int .i64 ((x.inputs[k]'hi1).val)]) Kg Z Z Z Z h3 (Nat.le_of_ble_eq_true Z) Z (fun w10 m1 h3' => ?_))
   replace h3 := h3'
   replace E := E.step m1 (fun g hg => by cases hg; omega); replace h1 := h1.mod m1 (fun g hg => by cases hg; omega); replace h2 := h2.mod m1 (fun g hg => by cases hg; omega)
   have z10 := m1.size
   refine Qd (Qf (Y7 Y8 [(0, true), (1, true), (2, true), (3, true), (4, true), (5, true), (6, true), (7, true), (8, true), (9, true), (10, true), (11, true), (12, true), (13, true), (14, true), (15, true), (16, true), (17, true), (18, true), (19, true), (20, true), (21, true), (22, true), (23, true), (24, true), (25, true), (26, true)] (by decide +kernel) Z (fun w11 e8 => ?_)))
   replace E := E.trans e8; replace h1 := h1.ext e8; replace h2 := h2.ext e8; replace h3 := h3.ext e8
   have z11 := e8.size
   refine Qa (Qb fl105_0 Z) Z (Qa (Qi Yk Z (h3.one 0 Z)) Z (Qa (Yr Z Z) Z (Qa (Qe Z) Z (Yz 23 [(3, .pointer (some ⟨b2, 0, none⟩)), (4, .bool false), (5, .int .i64 ((k : Nat) : Int)), (6, .pointer (some ⟨b3, 0, none⟩)), (37, o4), (38, .int .i64 ((x.inputs.length : Nat) : Int)), (39, .int .i64 ((k : Nat) : Int)), (40, .bool (decide (((k : Nat) : Int) < ((x.inputs.length : Nat) : Int)))), (41, .int .i64 ((k : Nat) : Int)), (42, .pointer (some ⟨Xm o4, Xl o4 + k * 5, none⟩)), (43, .agg (Enc.enc (x.inputs[k]'hi1)).toArray), (70, .bool (((((x.inputs[k]'hi1).op) != 0) || ((((x.inputs[k]'hi1).stamp).turn) != 0)) || ((decide (0 < ((k : Nat) : Int))) && (decide ((((x.inputs[k]'hi1).stamp).epoch) < (((List.getD x.inputs (k - 1) default).stamp).epoch))))))] (fun w' => w11 = w') ?_ ?_))))
   ·refine Ym (gd := 47) Z Z (fun hg4 => ?_) (fun hg4 => ?_)
    ·refine Qc Z Z Z Z (Qc Z Z Z Z (Qc Z Z Z Z (Qc Z Z Z Z (Qa (Qr Z Z) Z (Qa (Qe Z) Z (Qc Z Z Z Z (Qc Z Z Z Z (Qc Z Z Z Z (Qt Z Z Z (Qt Z Z Z (Qt Z Z Z (Qt Z Z Z (Qt Z Z Z (Qt Z Z Z (Qt Z Z Z (Qt Z Z Z (Qt Z Z Z (Qt Z Z Z (Qt Z Z Z (Qt Z Z Z (Qc Z Z Z Z (Qa (Qr Z Z) Z (Qo ⟨Z, Z, Z, Z, Z, Z, Z, Z, Z, Z, Z, congrArg (fun b => some (Value.bool b)) (show true = (((((x.inputs[k]'hi1).op) != 0) || ((((x.inputs[k]'hi1).stamp).turn) != 0)) || ((decide (0 < ((k : Nat) : Int))) && (decide ((((x.inputs[k]'hi1).stamp).epoch) < (((List.getD x.inputs (k - 1) default).stamp).epoch))))) by first | (rw [hg4] <;> rfl) | (simp [hg4]; done) | (simp only [Qn] <;> simp)), trivial⟩ Z)))))))))))))))))))))))
    ·refine Qk Z Z (Qb X9 Z) Z (Qk Z Z (Qz fl103_1 Z) Z (Qk Z Z (Qi Yk Z (h3.one 2 Z)) Z (Qk Z Z (Yr Z Z) Z (Qa (Qs Z Z) Z (Qa (Qe Z) Z ?_)))))
     refine Ym (gd := 53) Z Z (fun hg5 => ?_) (fun hg5 => ?_)
     ·refine Qc Z Z Z Z (Qc Z Z Z Z (Qc Z Z Z Z (Qt Z Z Z (Qt Z Z Z (Qt Z Z Z (Qt Z Z Z (Qt Z Z Z (Qt Z Z Z (Qt Z Z Z (Qt Z Z Z (Qt Z Z Z (Qt Z Z Z (Qt Z Z Z (Qt Z Z Z (Qc Z Z Z Z (Qa (Qr Z Z) Z (Qo ⟨Z, Z, Z, Z, Z, Z, Z, Z, Z, Z, Z, congrArg (fun b => some (Value.bool b)) (show true = (((((x.inputs[k]'hi1).op) != 0) || ((((x.inputs[k]'hi1).stamp).turn) != 0)) || ((decide (0 < ((k : Nat) : Int))) && (decide ((((x.inputs[k]'hi1).stamp).epoch) < (((List.getD x.inputs (k - 1) default).stamp).epoch))))) by first | (rw [hg4, hg5] <;> rfl) | (simp [hg4, hg5]; done) | (simp only [Qn] <;> simp)), trivial⟩ Z)))))))))))))))))
     ·refine Qk Z Z (Qe Z) Z (Qk Z Z (Xc Z Z) Z (Qk Z Z (Qe Z) Z ?_))
      refine Ym (gd := 56) Z Z (fun hg6 => ?_) (fun hg6 => ?_)
      ·have hg6n : k > 0 := by first | (have h := of_decide_eq_true hg6; omega) | (have h := hg6; simp at h; omega)
       refine Qk Z Z (Qb Xo Z) Z (Qk Z Z (Qi Xa Z (h2.one 2 Z)) Z (Qk Z Z (Qe Z) Z (Qk Z Z (Ka Z Z (sub_nat (by omega) (by unfold maxLen; omega))) Z (Qk Z Z (Qv (i := (k - 1)) Xx Z Z (hd4.rd.ext E) (by first | assumption | omega | (simp only [List.length_set]; first | assumption | omega))) Z (Qk Z Z (Qz X9 Z) Z (Qk Z Z (Qz fl103_0 Z) Z (Qk Z Z (Qi Yk Z ((RdS.getD (hd4.rd.ext E) (i := (k - 1)) (by first | assumption | omega | (simp only [List.length_set]; first | assumption | omega))).one 1 Z)) Z (Qk Z Z (Qb X9 Z) Z (Qk Z Z (Qz fl103_0 Z) Z (Qk Z Z (Qi Yk Z (h3.one 1 Z)) Z (Qk Z Z (Xc Z Z) Z (Qk Z Z (Qr Z Z) Z (Qa (Qs Z Z) Z (Qo ⟨Z, Z, Z, Z, Z, Z, Z, Z, Z, Z, Z, congrArg (fun b => some (Value.bool b)) (show (decide ((((x.inputs[k]'hi1).stamp).epoch) < (((List.getD x.inputs (k - 1) default).stamp).epoch))) = (((((x.inputs[k]'hi1).op) != 0) || ((((x.inputs[k]'hi1).stamp).turn) != 0)) || ((decide (0 < ((k : Nat) : Int))) && (decide ((((x.inputs[k]'hi1).stamp).epoch) < (((List.getD x.inputs (k - 1) default).stamp).epoch))))) by first | (rw [hg4, hg5, hg6] <;> rfl) | (simp [hg4, hg5, hg6]; done) | (simp only [Qn] <;> simp)), trivial⟩ Z))))))))))))))
      ·have hg6n : ¬ k > 0 := by first | (have h := of_decide_eq_false hg6; omega) | (have h := hg6; simp at h; omega)
       refine Qc Z Z Z Z (Qc Z Z Z Z (Qc Z Z Z Z (Qc Z Z Z Z (Qc Z Z Z Z (Qc Z Z Z Z (Qc Z Z Z Z (Qc Z Z Z Z (Qc Z Z Z Z (Qc Z Z Z Z (Qc Z Z Z Z (Qc Z Z Z Z (Qk Z Z (Qs Z Z) Z (Qa (Qs Z Z) Z (Qo ⟨Z, Z, Z, Z, Z, Z, Z, Z, Z, Z, Z, congrArg (fun b => some (Value.bool b)) (show false = (((((x.inputs[k]'hi1).op) != 0) || ((((x.inputs[k]'hi1).stamp).turn) != 0)) || ((decide (0 < ((k : Nat) : Int))) && (decide ((((x.inputs[k]'hi1).stamp).epoch) < (((List.getD x.inputs (k - 1) default).stamp).epoch))))) by first | (rw [hg4, hg5, hg6] <;> rfl) | (simp [hg4, hg5, hg6]; done) | (simp only [Qn] <;> simp)), trivial⟩ Z))))))))))))))
   rintro _ rfl
   refine Qd (Qu Z (fun hc3 => ?_) (fun hc3 => ?_))
   ·refine Qf (Qh [true] Z Z (Qa (Qg Z) Z (Qd (Qw (Qx (Yg (Qx (Qm Z Z E ?_))))))))
    exact bf fun h => by simp only [Xe, Bool.and_eq_true] at h; obtain ⟨⟨⟨⟨⟨⟨⟨⟨⟨q1, q2⟩, q3⟩, q4⟩, q5⟩, q6⟩, q7⟩, q8⟩, q9⟩, q10⟩ := h; have := allR_get q5 (by assumption); rw [inAt_at (by assumption), hc3] at this; cases this
   ·refine Qp (Q5 (Yt (Qh [true, true] Z Z (Qa (Q8 Z Z (Yq hc2n (hd4.ext E).1.1)) Z (Qa (Qe Z) Z (Qd (Q5 (Q9 (k + 1) (by omega) ⟨Z, Z, Z, Z, Z, trivial⟩ ⟨E, (by omega), h1, h2, (by omega), allR_s hI1 ((inAt_at (by assumption)).trans (congrArg not hc3))⟩))))))))
  ·have hc2n : ¬ k < x.inputs.length := by first | (have h := of_decide_eq_false hc2; omega) | (have h := hc2; simp at h; omega)
   refine Yi (Q3 (Q2 ?_))
   refine Qf (Qf (Qh [true, true, true, true, true, true, true, true, true, true, true, true, true, true, true, true] Z Z (Qa (Qb fl72_4 Z) Z (Qa (Qi Yy Z (h2.one 4 Z)) Z (Qa (Q4 Tryz.underlying68 Z (hd6.ext E).len) Z (Qa (Yr Z Z) Z (Qa (Qe Z) Z (Yz 11 [(3, .pointer (some ⟨b2, 0, none⟩)), (4, .bool false), (37, o4), (38, .int .i64 ((x.inputs.length : Nat) : Int)), (39, .int .i64 ((k : Nat) : Int)), (40, .bool (decide (((k : Nat) : Int) < ((x.inputs.length : Nat) : Int)))), (87, .bool (((((x.sums.length : Nat) : Int) != 4) || (((x.black.length : Nat) : Int) != 4)) || (((x.caps.length : Nat) : Int) != 4)))] (fun w' => w8 = w') ?_ ?_))))))))
   ·refine Ym (gd := 76) Z Z (fun hg7 => ?_) (fun hg7 => ?_)
    ·have hg7n : ¬ x.sums.length = 4 := by first | (have h := of_decide_eq_true hg7; omega) | (have h := hg7; simp at h; omega)
     refine Qc Z Z Z Z (Qc Z Z Z Z (Qc Z Z Z Z (Qc Z Z Z Z (Qa (Qr Z Z) Z (Qa (Qe Z) Z (Qc Z Z Z Z (Qc Z Z Z Z (Qc Z Z Z Z (Qc Z Z Z Z (Qa (Qr Z Z) Z (Qo ⟨Z, Z, Z, Z, Z, Z, congrArg (fun b => some (Value.bool b)) (show true = (((((x.sums.length : Nat) : Int) != 4) || (((x.black.length : Nat) : Int) != 4)) || (((x.caps.length : Nat) : Int) != 4)) by first | (rw [hg7] <;> rfl) | (simp [hg7]; done) | (simp only [Qn] <;> simp)), trivial⟩ Z)))))))))))
    ·have hg7n : x.sums.length = 4 := by first | (have h := of_decide_eq_false hg7; omega) | (have h := hg7; simp at h; omega)
     refine Qk Z Z (Qb fl72_5 Z) Z (Qk Z Z (Qi sc69 Z (h2.one 5 Z)) Z (Qk Z Z (Q4 Tryz.underlying69 Z (hd7.ext E).len) Z (Qk Z Z (Yr Z Z) Z (Qa (Qs Z Z) Z (Qa (Qe Z) Z ?_)))))
     refine Ym (gd := 82) Z Z (fun hg8 => ?_) (fun hg8 => ?_)
     ·have hg8n : ¬ x.black.length = 4 := by first | (have h := of_decide_eq_true hg8; omega) | (have h := hg8; simp at h; omega)
      refine Qc Z Z Z Z (Qc Z Z Z Z (Qc Z Z Z Z (Qc Z Z Z Z (Qa (Qr Z Z) Z (Qo ⟨Z, Z, Z, Z, Z, Z, congrArg (fun b => some (Value.bool b)) (show true = (((((x.sums.length : Nat) : Int) != 4) || (((x.black.length : Nat) : Int) != 4)) || (((x.caps.length : Nat) : Int) != 4)) by first | (rw [hg7, hg8] <;> rfl) | (simp [hg7, hg8]; done) | (simp only [Qn] <;> simp)), trivial⟩ Z)))))
     ·have hg8n : x.black.length = 4 := by first | (have h := of_decide_eq_false hg8; omega) | (have h := hg8; simp at h; omega)
      refine Qk Z Z (Qb fl72_6 Z) Z (Qk Z Z (Qi sc69 Z (h2.one 6 Z)) Z (Qk Z Z (Q4 Tryz.underlying69 Z (hd8.ext E).len) Z (Qk Z Z (Yr Z Z) Z (Qa (Qs Z Z) Z (Qo ⟨Z, Z, Z, Z, Z, Z, congrArg (fun b => some (Value.bool b)) (show (((x.caps.length : Nat) : Int) != 4) = (((((x.sums.length : Nat) : Int) != 4) || (((x.black.length : Nat) : Int) != 4)) || (((x.caps.length : Nat) : Int) != 4)) by first | (rw [hg7, hg8] <;> rfl) | (simp [hg7, hg8]; done) | (simp only [Qn] <;> simp)), trivial⟩ Z)))))
   rintro _ rfl
   refine Qd (Qu Z (fun hc4 => ?_) (fun hc4 => ?_))
   ·refine Qf (Qh [true] Z Z (Qa (Qg Z) Z (Qd (Qw (Qm Z Z E ?_)))))
    exact bf fun h => by simp only [Xe, Bool.and_eq_true] at h; obtain ⟨⟨⟨⟨⟨⟨⟨⟨⟨q1, q2⟩, q3⟩, q4⟩, q5⟩, q6⟩, q7⟩, q8⟩, q9⟩, q10⟩ := h; simp only [beq_iff_eq] at q6 q7 q8; simp [q6, q7, q8] at hc4
   ·refine Qp (Qf (Qf (Qh [true, true, true, true] Z Z (Qa (Qb fl72_4 Z) Z (Qa (Qi Yy Z (h2.one 4 Z)) Z (Qa (Q4 Tryz.underlying68 Z (hd6.ext E).len) Z (Qa (Qe Z) Z (Qd (Qy (Yh (fun (k : Nat) => [(3, .pointer (some ⟨b2, 0, none⟩)), (4, .bool false), (89, o6), (90, .int .i64 ((x.sums.length : Nat) : Int)), (91, .int .i64 ((k : Nat) : Int))]) (fun (k : Nat) w' => Ext w w' ∧ w8.heap.size ≤ w'.heap.size ∧ Blk w' b1 ([o1, .int .i64 g.workers, .int .i64 g.cap]) ∧ Blk w' b2 ([o2, o3, o4, o5, o6, o7, o8, o9]) ∧ k ≤ x.sums.length ∧ (x.sums.take k).all (Yo · (-1000000) 1000000) = true) (fun (k : Nat) => x.sums.length - k) 0 ⟨Z, Z, Z, Z, Z, trivial⟩ ⟨E, Nat.le_refl _, h1, h2, Nat.zero_le _, Z⟩ ?_))))))))))
    clear E h1 h2
    rintro k w14 ⟨E, z12, h1, h2, hk, hI2⟩
    refine Qf (Qh [true] Z Z (Qa (Yb Z Z) Z (Qd (Qf (Qu Z (fun hc5 => ?_) (fun hc5 => ?_))))))
    ·have hc5n : k < x.sums.length := by first | (have h := of_decide_eq_true hc5; omega) | (have h := hc5; simp at h; omega)
     refine Qp (Qf (Qy (Qf (Qh [true, true, true] Z Z ?_))))
     have hi2 : k < x.sums.length := (by first | assumption | omega | (simp only [List.length_set]; first | assumption | omega))
     refine Qa (Qv (i := k) Y5 Z Z (hd6.rd.ext E) hi2) Z (Qa (Qi Yk Z (((hd6.rd.ext E).get hi2).one 0 Z)) Z (Qa (Qg Z) Z (Qd (Qf (Qh [true, false, true] Z Z (Qa (Qe Z) Z (Q0 Tryz.call62 Z (c_within (x.sums[k]'hi2) (-1000000) 1000000 _ ) Z (fun _ w15 e9 hv => ?_))))))))
     subst hv
     replace E := E.trans e9; replace h1 := h1.ext e9; replace h2 := h2.ext e9
     have z13 := e9.size
     refine Qa (Yn Z) Z (Qd (Qu Z (fun hc6 => ?_) (fun hc6 => ?_)))
     ·refine Qf (Qh [true] Z Z (Qa (Qg Z) Z (Qd (Qw (Qx (Yg (Qx (Qm Z Z E ?_))))))))
      exact bf fun h => by simp only [Xe, Bool.and_eq_true] at h; obtain ⟨⟨⟨⟨⟨⟨⟨⟨⟨q1, q2⟩, q3⟩, q4⟩, q5⟩, q6⟩, q7⟩, q8⟩, q9⟩, q10⟩ := h; have := List.all_eq_true.1 q9 _ (List.getElem_mem (by assumption)); simp only [this] at hc6; cases hc6
     ·refine Qp (Q5 (Yt (Qh [true, true] Z Z (Qa (Q8 Z Z (Yq hc5n (hd6.ext E).1.1)) Z (Qa (Qe Z) Z (Qd (Q5 (Q9 (k + 1) (by omega) ⟨Z, Z, Z, Z, Z, trivial⟩ ⟨E, (by omega), h1, h2, (by omega), Y4 hI2 (by assumption) (by simpa using hc6)⟩))))))))
    ·have hc5n : ¬ k < x.sums.length := by first | (have h := of_decide_eq_false hc5; omega) | (have h := hc5; simp at h; omega)
     refine Yi (Q3 (Q2 ?_))
     refine Qf (Qf (Qh [true, true, true, true] Z Z (Qa (Qb fl72_7 Z) Z (Qa (Qi sc70 Z (h2.one 7 Z)) Z (Qa (Q4 Tryz.underlying70 Z (hd9.ext E).len) Z (Qa (Qe Z) Z (Qd (Qy (Yh (fun (k : Nat) => [(3, .pointer (some ⟨b2, 0, none⟩)), (4, .bool false), (100, o9), (101, .int .i64 ((x.dones.length : Nat) : Int)), (102, .int .i64 ((k : Nat) : Int))]) (fun (k : Nat) w' => Ext w w' ∧ w14.heap.size ≤ w'.heap.size ∧ Blk w' b1 ([o1, .int .i64 g.workers, .int .i64 g.cap]) ∧ Blk w' b2 ([o2, o3, o4, o5, o6, o7, o8, o9]) ∧ k ≤ x.dones.length ∧ allR k (fun j => doneAtOk x.dones j) = true) (fun (k : Nat) => x.dones.length - k) 0 ⟨Z, Z, Z, Z, Z, trivial⟩ ⟨E, Nat.le_refl _, h1, h2, Nat.zero_le _, Z⟩ ?_)))))))))
     clear E h1 h2
     rintro k w16 ⟨E, z14, h1, h2, hk, hI3⟩
     refine Qf (Qh [true] Z Z (Qa (Yb Z Z) Z (Qd (Qf (Qu Z (fun hc7 => ?_) (fun hc7 => ?_))))))
     ·have hc7n : k < x.dones.length := by first | (have h := of_decide_eq_true hc7; omega) | (have h := hc7; simp at h; omega)
      refine Qp (Qf (Qy (Qf (Qh [true, true, true, false, true, false] Z Z (Qa (Qe Z) Z ?_)))))
      have hi3 : k < x.dones.length := (by first | assumption | omega | (simp only [List.length_set]; first | assumption | omega))
      refine Qa (Qv (i := k) sl70 Z Z (hd9.rd.ext E) hi3) Z (Qa (Q1 st156 Z ((hd9.rd.ext E).get hi3) Z) Z (Yu st156 Z (fun b4 w17 e10 s4 h4 => ?_)))
      have g_b4 : w.heap.size ≤ b4 := by have := E.size; omega
      have y_b4 := h4.lt
      replace E := E.trans e10; replace h1 := h1.ext e10; replace h2 := h2.ext e10
      have z15 := e10.size
      refine Qa (Qg Z) Z (Ya (cs' := [.int .i64 ((x.dones[k]'hi3).epoch), .bool ((x.dones[k]'hi3).capped)]) st156 Z Z Z Z h4 (Nat.le_of_ble_eq_true Z) Z (fun w18 m2 h4' => ?_))
      replace h4 := h4'
      replace E := E.step m2 (fun g hg => by cases hg; omega); replace h1 := h1.mod m2 (fun g hg => by cases hg; omega); replace h2 := h2.mod m2 (fun g hg => by cases hg; omega)
      have z16 := m2.size
      refine Qd (Qf (Y7 Y8 [(0, true), (1, true), (2, false), (3, true), (4, true), (5, true), (6, true), (7, true), (8, true), (9, true), (10, true), (11, false), (12, true)] (by decide +kernel) Z (fun w19 e11 => ?_)))
      replace E := E.trans e11; replace h1 := h1.ext e11; replace h2 := h2.ext e11; replace h4 := h4.ext e11
      have z17 := e11.size
      refine Qa (Qb fl156_0 Z) Z (Qa (Qi Yk Z (h4.one 0 Z)) Z (Q0 Tryz.call62 Z (c_within ((x.dones[k]'hi3).epoch) 0 3 _ ) Z (fun _ w20 e12 hv => ?_)))
      subst hv
      replace E := E.trans e12; replace h1 := h1.ext e12; replace h2 := h2.ext e12; replace h4 := h4.ext e12
      have z18 := e12.size
      refine Qa (Yn Z) Z (Qa (Qe Z) Z (Yz 8 [(3, .pointer (some ⟨b2, 0, none⟩)), (4, .bool false), (9, .int .i64 ((k : Nat) : Int)), (10, .pointer (some ⟨b4, 0, none⟩)), (100, o9), (101, .int .i64 ((x.dones.length : Nat) : Int)), (102, .int .i64 ((k : Nat) : Int)), (103, .bool (decide (((k : Nat) : Int) < ((x.dones.length : Nat) : Int)))), (104, .int .i64 ((k : Nat) : Int)), (105, .pointer (some ⟨Xm o9, Xl o9 + k * 2, none⟩)), (106, .agg (Enc.enc (x.dones[k]'hi3)).toArray), (119, .bool ((!(Yo ((x.dones[k]'hi3).epoch) 0 3)) || ((List.take k x.dones).any (fun d => d.epoch == ((x.dones[k]'hi3).epoch)))))] (fun w' => Ext w w' ∧ w20.heap.size ≤ w'.heap.size ∧ Blk w' b1 ([o1, .int .i64 g.workers, .int .i64 g.cap]) ∧ Blk w' b2 ([o2, o3, o4, o5, o6, o7, o8, o9]) ∧ Blk w' b4 [.int .i64 ((x.dones[k]'hi3).epoch), .bool ((x.dones[k]'hi3).capped)]) ?_ ?_))
      ·refine Ym (gd := 111) Z Z (fun hg9 => ?_) (fun hg9 => ?_)
       ·refine Qc Z Z Z Z (Qc Z Z Z Z (Qc Z Z Z Z (Qc Z Z Z Z (Qc Z Z Z Z (Qc Z Z Z Z ?_)))))
        refine Yv Z Z Z Z ?_
        refine Qa (Qr Z Z) Z (Qo ⟨Z, Z, Z, Z, Z, Z, Z, Z, Z, Z, Z, congrArg (fun b => some (Value.bool b)) (show true = ((!(Yo ((x.dones[k]'hi3).epoch) 0 3)) || ((List.take k x.dones).any (fun d => d.epoch == ((x.dones[k]'hi3).epoch)))) by first | (rw [hg9] <;> rfl) | (simp [hg9]; done) | (simp only [Qn] <;> simp)), trivial⟩ ⟨E, (by omega), h1, h2, h4⟩)
       ·refine Qk Z Z (Qb fl72_7 Z) Z (Qk Z Z (Qi sc70 Z (h2.one 7 Z)) Z (Qk Z Z (Qe Z) Z ?_))
        have hk1 : k ≤ x.dones.length := by first | assumption | omega
        have hs1 : RdD (α := Done) w 0 w.heap.size (slTo o9 k) (List.take k x.dones) := RdB.slTo hd9 hk1
        refine Qk Z Z (R_sliceTo sl70 Z Z (RdL.room (hd9.ext E).1) hk1) Z (Qk Z Z (Qb fl156_0 Z) Z (Qk Z Z (Qi Yk Z (h4.one 0 Z)) Z ?_))
        refine Xf Z Z ?_
        refine Q0 Tryz.call112 Z (c_doneAt (slTo o9 k) (List.take k x.dones) ((x.dones[k]'hi3).epoch) _ (hs1.rd.ext E)) Z (fun _ w22 e13 hv => ?_)
        subst hv
        replace E := E.trans e13; replace h1 := h1.ext e13; replace h2 := h2.ext e13; replace h4 := h4.ext e13
        have z19 := e13.size
        refine Qa (Qs Z Z) Z (Qo ⟨Z, Z, Z, Z, Z, Z, Z, Z, Z, Z, Z, congrArg (fun b => some (Value.bool b)) (show ((List.take k x.dones).any (fun d => d.epoch == ((x.dones[k]'hi3).epoch))) = ((!(Yo ((x.dones[k]'hi3).epoch) 0 3)) || ((List.take k x.dones).any (fun d => d.epoch == ((x.dones[k]'hi3).epoch)))) by first | (rw [hg9] <;> rfl) | (simp [hg9]; done) | (simp only [Qn] <;> simp)), trivial⟩ ⟨E, (by omega), h1, h2, h4⟩)
      clear E h1 h2 h4
      rintro w21 ⟨E, z20, h1, h2, h4⟩
      refine Qd (Qu Z (fun hc8 => ?_) (fun hc8 => ?_))
      ·refine Qf (Qh [true] Z Z (Qa (Qg Z) Z (Qd (Qw (Qx (Yg (Qx (Qm Z Z E ?_))))))))
       exact bf fun h => by simp only [Xe, Bool.and_eq_true] at h; obtain ⟨⟨⟨⟨⟨⟨⟨⟨⟨q1, q2⟩, q3⟩, q4⟩, q5⟩, q6⟩, q7⟩, q8⟩, q9⟩, q10⟩ := h; have := allR_get q10 (by assumption); rw [doneAtOk_at (by assumption), hc8] at this; cases this
      ·refine Qp (Q5 (Yt (Qh [true, true] Z Z (Qa (Q8 Z Z (Yq hc7n (hd9.ext E).1.1)) Z (Qa (Qe Z) Z (Qd (Q5 (Q9 (k + 1) (by omega) ⟨Z, Z, Z, Z, Z, trivial⟩ ⟨E, (by omega), h1, h2, (by omega), allR_s hI3 ((doneAtOk_at (by assumption)).trans (congrArg not hc8))⟩))))))))
     ·have hc7n : ¬ k < x.dones.length := by first | (have h := of_decide_eq_false hc7; omega) | (have h := hc7; simp at h; omega)
      refine Yi (Q3 (Q2 ?_))
      refine Qf (Qh [true] Z Z (Qa (Qg Z) Z (Qd (Qw (Qm Z Z E ?_)))))
      exact wk_yes1 hc1 (allR_le hI1 (by omega)) hc4 (all_end hI2 (by omega)) (allR_le hI3 (by omega))

end Go.Proofs.YtbnoffhbponglaaGreat
