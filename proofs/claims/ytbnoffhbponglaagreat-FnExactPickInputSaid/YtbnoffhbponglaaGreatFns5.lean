/- What the functions that the laws call come to: a contract each; no condition. -/
import Derived.Test.YtbnoffhbponglaaGreatFns4
namespace Go.Proofs.YtbnoffhbponglaaGreat
open Go Go.Proofs.YtbnoffhbponglaaGreat.X Go.Proofs
set_option maxRecDepth 20000 in
theorem s_LinkOk (cx : List Value) (x : Link) (w : World) (hx : Dat.R w 0 w.heap.size cx x) : Ct Tryz.prog 97 [.agg cx.toArray] w (fun v _ => v = .bool (linkOk x)) := by
 refine Yj Tryz.func97 Z Tryz.ntmps97 Z ?_
 obtain ⟨o1, rfl, hd1⟩ := Link.op hx
 refine Q7 [(0, .agg [.int .i64 x.cap, o1, .int .i64 x.credits, .int .i64 x.back, .int .i64 x.sent, .int .i64 x.got].toArray)] ⟨Z, trivial⟩ ?_
 have E : Ext w w := Ext.refl w
 refine Qf (Qh [false, true] Z Z (Yx Z Z (fun b1 w1 e1 s1 h1 => ?_)))
 have g_b1 : w.heap.size ≤ b1 := by have := E.size; omega
 have y_b1 := h1.lt
 replace E := E.trans e1
 have z1 := e1.size
 refine Qa (Qg Z) Z (Qd (Qf (Qf (Qh [true] Z Z (Qa (Qg Z) Z (Qd (Qy (Yh (fun (k : Nat) => [(1, .pointer (some ⟨b1, 0, none⟩)), (2, .bool false), (3, .int .i64 ((k : Nat) : Int))]) (fun (k : Nat) w' => Ext w w' ∧ w1.heap.size ≤ w'.heap.size ∧ Blk w' b1 ([.int .i64 x.cap, o1, .int .i64 x.credits, .int .i64 x.back, .int .i64 x.sent, .int .i64 x.got]) ∧ k ≤ x.queue.length ∧ (x.queue.take k).all Kb = true) (fun (k : Nat) => x.queue.length - k) 0 ⟨Z, Z, Z, trivial⟩ ⟨E, Nat.le_refl _, h1, Nat.zero_le _, Z⟩ ?_))))))))
 clear E h1
 rintro k w2 ⟨E, z2, h1, hk, hI⟩
 refine Qf (Qf (Qh [true, true, true, true, true] Z Z (Qa (Qe Z) Z (Qa (Qb X5 Z) Z (Qa (Qi Xa Z (h1.one 1 Z)) Z (Qa (Q4 Tryz.underlying66 Z (hd1.ext E).len) Z (Qa (Yb Z Z) Z (Qd (Qu Z (fun hc1 => ?_) (fun hc1 => ?_))))))))))
 ·have hc1n : k < x.queue.length := by first | (have h := of_decide_eq_true hc1; omega) | (have h := hc1; simp at h; omega)
  refine Qp (Qf (Qy (Qf (Qh [true, true, true, true, true, false, true] Z Z (Qa (Qb X5 Z) Z (Qa (Qi Xa Z (h1.one 1 Z)) Z (Qa (Qe Z) Z ?_)))))))
  have hi1 : k < x.queue.length := (by first | assumption | omega | (simp only [List.length_set]; first | assumption | omega))
  refine Qa (Qv (i := k) Xx Z Z (hd1.rd.ext E) hi1) Z (Qa (Q1 Kg Z ((hd1.rd.ext E).get hi1) Z) Z (Q0 Tryz.call122 Z (s_RecordOk (x.queue[k]'hi1) _ ) Z (fun _ w3 e2 hv => ?_)))
  subst hv
  replace E := E.trans e2; replace h1 := h1.ext e2
  have z3 := e2.size
  refine Qa (Yn Z) Z (Qd (Qu Z (fun hc2 => ?_) (fun hc2 => ?_)))
  ·refine Qf (Qh [true] Z Z (Qa (Qg Z) Z (Qd (Qw (Qx (Yg (Qx (Qm Z Z E ?_))))))))
   exact bf fun h => lk_s1 (by assumption) h hc2
  ·refine Qp (Q5 (Yt (Qh [true, true, true] Z Z (Qa (Qe Z) Z (Qa (Q8 Z Z (Yq hc1n (hd1.ext E).1.1)) Z (Qa (Qg Z) Z (Qd (Q5 (Q9 (k + 1) (by omega) ⟨Z, Z, Z, trivial⟩ ⟨E, (by omega), h1, (by omega), Y4 hI (by assumption) (by simpa using hc2)⟩)))))))))
 ·have hc1n : ¬ k < x.queue.length := by first | (have h := of_decide_eq_false hc1; omega) | (have h := hc1; simp at h; omega)
  refine Yi (Q3 (Q2 ?_))
  refine Qf (Qh [true, true, false, true, true, true, true, true, false, true, true, true, true, true, true, false, true, true, true, true, true, true, true, true, true, true, true, true, true, true, true, true, true, true, false, true, true, true, true, true, true, true, true, true, true, true, true, true, true, true, true, true, true] Z Z (Qa (Qb fl88_0 Z) Z (Qa (Qi Yk Z (h1.one 0 Z)) Z (Q0 Tryz.call99 Z (s_l01In x.cap 1 4 _ ) Z (fun _ w4 e3 hv => ?_)))))
  subst hv
  replace E := E.trans e3; replace h1 := h1.ext e3
  have z4 := e3.size
  refine Qa (Qe Z) Z (Yz 48 [(1, .pointer (some ⟨b1, 0, none⟩)), (2, .bool false), (3, .int .i64 ((k : Nat) : Int)), (4, .int .i64 ((k : Nat) : Int)), (5, .pointer (some ⟨b1, 1, none⟩)), (6, o1), (7, .int .i64 ((x.queue.length : Nat) : Int)), (8, .bool (decide (((k : Nat) : Int) < ((x.queue.length : Nat) : Int)))), (69, .bool (((((((Yo x.cap 1 4) && (Yo x.credits 0 x.cap)) && (Yo x.back 0 x.cap)) && ((IntKind.i64.wrap ((IntKind.i64.wrap (x.credits + x.back)) + ((x.queue.length : Nat) : Int))) == x.cap)) && (Yo x.sent 0 1000000000)) && (x.got == (IntKind.i64.wrap (x.sent - ((x.queue.length : Nat) : Int))))) && (decide (0 ≤ x.got))))] (fun w' => Ext w w' ∧ w4.heap.size ≤ w'.heap.size ∧ Blk w' b1 ([.int .i64 x.cap, o1, .int .i64 x.credits, .int .i64 x.back, .int .i64 x.sent, .int .i64 x.got])) ?_ ?_)
  ·refine Ym (gd := 21) Z Z (fun hg1 => ?_) (fun hg1 => ?_)
   ·refine Qk Z Z (Qb fl88_2 Z) Z (Qk Z Z (Qi Yk Z (h1.one 2 Z)) Z (Qk Z Z (Qb fl88_0 Z) Z (Qk Z Z (Qi Yk Z (h1.one 0 Z)) Z ?_)))
    refine Xf Z Z ?_
    refine Q0 Tryz.call99 Z (s_l01In x.credits 0 x.cap _ ) Z (fun _ w6 e4 hv => ?_)
    subst hv
    replace E := E.trans e4; replace h1 := h1.ext e4
    have z5 := e4.size
    refine Qa (Qr Z Z) Z (Qa (Qe Z) Z (Ym (gd := 28) Z Z (fun hg2 => ?_) (fun hg2 => ?_)))
    ·refine Qk Z Z (Qb fl88_3 Z) Z (Qk Z Z (Qi Yk Z (h1.one 3 Z)) Z (Qk Z Z (Qb fl88_0 Z) Z (Qk Z Z (Qi Yk Z (h1.one 0 Z)) Z ?_)))
     refine Xf Z Z ?_
     refine Q0 Tryz.call99 Z (s_l01In x.back 0 x.cap _ ) Z (fun _ w7 e5 hv => ?_)
     subst hv
     replace E := E.trans e5; replace h1 := h1.ext e5
     have z6 := e5.size
     refine Qa (Qr Z Z) Z (Qa (Qe Z) Z (Ym (gd := 35) Z Z (fun hg3 => ?_) (fun hg3 => ?_)))
     ·refine Qk Z Z (Qb fl88_2 Z) Z (Qk Z Z (Qi Yk Z (h1.one 2 Z)) Z (Qk Z Z (Qb fl88_3 Z) Z (Qk Z Z (Qi Yk Z (h1.one 3 Z)) Z (Qk Z Z (Q8 Z Z Z) Z (Qk Z Z (Qb X5 Z) Z (Qk Z Z (Qi Xa Z (h1.one 1 Z)) Z (Qk Z Z (Q4 Tryz.underlying66 Z (hd1.ext E).len) Z (Qk Z Z (Q8 Z Z Z) Z (Qk Z Z (Qb fl88_0 Z) Z (Qk Z Z (Qi Yk Z (h1.one 0 Z)) Z (Qk Z Z (Yw Z Z) Z (Qa (Qr Z Z) Z (Qa (Qe Z) Z ?_)))))))))))))
      refine Ym (gd := 49) Z Z (fun hg4 => ?_) (fun hg4 => ?_)
      ·refine Qk Z Z (Qb fl88_4 Z) Z (Qk Z Z (Qi Yk Z (h1.one 4 Z)) Z ?_)
       refine Xf Z Z ?_
       refine Q0 Tryz.call99 Z (s_l01In x.sent 0 1000000000 _ ) Z (fun _ w8 e6 hv => ?_)
       subst hv
       replace E := E.trans e6; replace h1 := h1.ext e6
       have z7 := e6.size
       refine Qa (Qr Z Z) Z (Qa (Qe Z) Z (Ym (gd := 54) Z Z (fun hg5 => ?_) (fun hg5 => ?_)))
       ·refine Qk Z Z (Qb fl88_5 Z) Z (Qk Z Z (Qi Yk Z (h1.one 5 Z)) Z (Qk Z Z (Qb fl88_4 Z) Z (Qk Z Z (Qi Yk Z (h1.one 4 Z)) Z (Qk Z Z (Qb X5 Z) Z (Qk Z Z (Qi Xa Z (h1.one 1 Z)) Z (Qk Z Z (Q4 Tryz.underlying66 Z (hd1.ext E).len) Z (Qk Z Z (Ka Z Z Z) Z (Qk Z Z (Yw Z Z) Z (Qa (Qr Z Z) Z (Qa (Qe Z) Z ?_))))))))))
        refine Ym (gd := 65) Z Z (fun hg6 => ?_) (fun hg6 => ?_)
        ·refine Qk Z Z (Qb fl88_5 Z) Z (Qk Z Z (Qi Yk Z (h1.one 5 Z)) Z (Qk Z Z (R_geq Z Z) Z (Qa (Qr Z Z) Z (Qo ⟨Z, Z, Z, Z, Z, Z, Z, Z, congrArg (fun b => some (Value.bool b)) (show (decide (0 ≤ x.got)) = (((((((Yo x.cap 1 4) && (Yo x.credits 0 x.cap)) && (Yo x.back 0 x.cap)) && ((IntKind.i64.wrap ((IntKind.i64.wrap (x.credits + x.back)) + ((x.queue.length : Nat) : Int))) == x.cap)) && (Yo x.sent 0 1000000000)) && (x.got == (IntKind.i64.wrap (x.sent - ((x.queue.length : Nat) : Int))))) && (decide (0 ≤ x.got))) by first | (rw [hg1, hg2, hg3, hg4, hg5, hg6] <;> rfl) | (simp [hg1, hg2, hg3, hg4, hg5, hg6]; done) | (simp only [Qn] <;> simp)), trivial⟩ ⟨E, (by omega), h1⟩))))
        ·refine Qc Z Z Z Z (Qc Z Z Z Z (Qc Z Z Z Z (Qa (Qs Z Z) Z (Qo ⟨Z, Z, Z, Z, Z, Z, Z, Z, congrArg (fun b => some (Value.bool b)) (show false = (((((((Yo x.cap 1 4) && (Yo x.credits 0 x.cap)) && (Yo x.back 0 x.cap)) && ((IntKind.i64.wrap ((IntKind.i64.wrap (x.credits + x.back)) + ((x.queue.length : Nat) : Int))) == x.cap)) && (Yo x.sent 0 1000000000)) && (x.got == (IntKind.i64.wrap (x.sent - ((x.queue.length : Nat) : Int))))) && (decide (0 ≤ x.got))) by first | (rw [hg1, hg2, hg3, hg4, hg5, hg6] <;> rfl) | (simp [hg1, hg2, hg3, hg4, hg5, hg6]; done) | (simp only [Qn] <;> simp)), trivial⟩ ⟨E, (by omega), h1⟩))))
       ·refine Qc Z Z Z Z (Qc Z Z Z Z (Qc Z Z Z Z (Qc Z Z Z Z (Qc Z Z Z Z (Qc Z Z Z Z (Qc Z Z Z Z (Qc Z Z Z Z (Qc Z Z Z Z (Qa (Qs Z Z) Z (Qa (Qe Z) Z (Qc Z Z Z Z (Qc Z Z Z Z (Qc Z Z Z Z (Qa (Qs Z Z) Z (Qo ⟨Z, Z, Z, Z, Z, Z, Z, Z, congrArg (fun b => some (Value.bool b)) (show false = (((((((Yo x.cap 1 4) && (Yo x.credits 0 x.cap)) && (Yo x.back 0 x.cap)) && ((IntKind.i64.wrap ((IntKind.i64.wrap (x.credits + x.back)) + ((x.queue.length : Nat) : Int))) == x.cap)) && (Yo x.sent 0 1000000000)) && (x.got == (IntKind.i64.wrap (x.sent - ((x.queue.length : Nat) : Int))))) && (decide (0 ≤ x.got))) by first | (rw [hg1, hg2, hg3, hg4, hg5] <;> rfl) | (simp [hg1, hg2, hg3, hg4, hg5]; done) | (simp only [Qn] <;> simp)), trivial⟩ ⟨E, (by omega), h1⟩)))))))))))))))
      ·refine Qc Z Z Z Z (Qc Z Z Z Z ?_)
       refine Yv Z Z Z Z ?_
       refine Qa (Qs Z Z) Z (Qa (Qe Z) Z (Qc Z Z Z Z (Qc Z Z Z Z (Qc Z Z Z Z (Qc Z Z Z Z (Qc Z Z Z Z (Qc Z Z Z Z (Qc Z Z Z Z (Qc Z Z Z Z (Qc Z Z Z Z (Qa (Qs Z Z) Z (Qa (Qe Z) Z (Qc Z Z Z Z (Qc Z Z Z Z (Qc Z Z Z Z (Qa (Qs Z Z) Z (Qo ⟨Z, Z, Z, Z, Z, Z, Z, Z, congrArg (fun b => some (Value.bool b)) (show false = (((((((Yo x.cap 1 4) && (Yo x.credits 0 x.cap)) && (Yo x.back 0 x.cap)) && ((IntKind.i64.wrap ((IntKind.i64.wrap (x.credits + x.back)) + ((x.queue.length : Nat) : Int))) == x.cap)) && (Yo x.sent 0 1000000000)) && (x.got == (IntKind.i64.wrap (x.sent - ((x.queue.length : Nat) : Int))))) && (decide (0 ≤ x.got))) by first | (rw [hg1, hg2, hg3, hg4] <;> rfl) | (simp [hg1, hg2, hg3, hg4]; done) | (simp only [Qn] <;> simp)), trivial⟩ ⟨E, (by omega), h1⟩)))))))))))))))))
     ·refine Qc Z Z Z Z (Qc Z Z Z Z (Qc Z Z Z Z (Qc Z Z Z Z (Qc Z Z Z Z (Qc Z Z Z Z (Qc Z Z Z Z (Qc Z Z Z Z (Qc Z Z Z Z (Qc Z Z Z Z (Qc Z Z Z Z (Qc Z Z Z Z (Qa (Qs Z Z) Z (Qa (Qe Z) Z (Qc Z Z Z Z (Qc Z Z Z Z ?_)))))))))))))))
      refine Yv Z Z Z Z ?_
      refine Qa (Qs Z Z) Z (Qa (Qe Z) Z (Qc Z Z Z Z (Qc Z Z Z Z (Qc Z Z Z Z (Qc Z Z Z Z (Qc Z Z Z Z (Qc Z Z Z Z (Qc Z Z Z Z (Qc Z Z Z Z (Qc Z Z Z Z (Qa (Qs Z Z) Z (Qa (Qe Z) Z (Qc Z Z Z Z (Qc Z Z Z Z (Qc Z Z Z Z (Qa (Qs Z Z) Z (Qo ⟨Z, Z, Z, Z, Z, Z, Z, Z, congrArg (fun b => some (Value.bool b)) (show false = (((((((Yo x.cap 1 4) && (Yo x.credits 0 x.cap)) && (Yo x.back 0 x.cap)) && ((IntKind.i64.wrap ((IntKind.i64.wrap (x.credits + x.back)) + ((x.queue.length : Nat) : Int))) == x.cap)) && (Yo x.sent 0 1000000000)) && (x.got == (IntKind.i64.wrap (x.sent - ((x.queue.length : Nat) : Int))))) && (decide (0 ≤ x.got))) by first | (rw [hg1, hg2, hg3] <;> rfl) | (simp [hg1, hg2, hg3]; done) | (simp only [Qn] <;> simp)), trivial⟩ ⟨E, (by omega), h1⟩)))))))))))))))))
    ·refine Qc Z Z Z Z (Qc Z Z Z Z (Qc Z Z Z Z (Qc Z Z Z Z ?_)))
     refine Yv Z Z Z Z ?_
     refine Qa (Qs Z Z) Z (Qa (Qe Z) Z (Qc Z Z Z Z (Qc Z Z Z Z (Qc Z Z Z Z (Qc Z Z Z Z (Qc Z Z Z Z (Qc Z Z Z Z (Qc Z Z Z Z (Qc Z Z Z Z (Qc Z Z Z Z (Qc Z Z Z Z (Qc Z Z Z Z (Qc Z Z Z Z (Qa (Qs Z Z) Z (Qa (Qe Z) Z (Qc Z Z Z Z (Qc Z Z Z Z (Yv Z Z Z Z (Qa (Qs Z Z) Z (Qa (Qe Z) Z (Qc Z Z Z Z (Qc Z Z Z Z (Qc Z Z Z Z (Qc Z Z Z Z (Qc Z Z Z Z (Qc Z Z Z Z (Qc Z Z Z Z (Qc Z Z Z Z (Qc Z Z Z Z (Qa (Qs Z Z) Z (Qa (Qe Z) Z (Qc Z Z Z Z (Qc Z Z Z Z (Qc Z Z Z Z (Qa (Qs Z Z) Z (Qo ⟨Z, Z, Z, Z, Z, Z, Z, Z, congrArg (fun b => some (Value.bool b)) (show false = (((((((Yo x.cap 1 4) && (Yo x.credits 0 x.cap)) && (Yo x.back 0 x.cap)) && ((IntKind.i64.wrap ((IntKind.i64.wrap (x.credits + x.back)) + ((x.queue.length : Nat) : Int))) == x.cap)) && (Yo x.sent 0 1000000000)) && (x.got == (IntKind.i64.wrap (x.sent - ((x.queue.length : Nat) : Int))))) && (decide (0 ≤ x.got))) by first | (rw [hg1, hg2] <;> rfl) | (simp [hg1, hg2]; done) | (simp only [Qn] <;> simp)), trivial⟩ ⟨E, (by omega), h1⟩))))))))))))))))))))))))))))))))))))
   ·refine Qc Z Z Z Z (Qc Z Z Z Z (Qc Z Z Z Z (Qc Z Z Z Z ?_)))
    refine Yv Z Z Z Z ?_
    refine Qa (Qs Z Z) Z (Qa (Qe Z) Z (Qc Z Z Z Z (Qc Z Z Z Z (Qc Z Z Z Z (Qc Z Z Z Z (Yv Z Z Z Z (Qa (Qs Z Z) Z (Qa (Qe Z) Z (Qc Z Z Z Z (Qc Z Z Z Z (Qc Z Z Z Z (Qc Z Z Z Z (Qc Z Z Z Z (Qc Z Z Z Z (Qc Z Z Z Z (Qc Z Z Z Z (Qc Z Z Z Z (Qc Z Z Z Z (Qc Z Z Z Z (Qc Z Z Z Z (Qa (Qs Z Z) Z (Qa (Qe Z) Z (Qc Z Z Z Z (Qc Z Z Z Z (Yv Z Z Z Z (Qa (Qs Z Z) Z (Qa (Qe Z) Z (Qc Z Z Z Z (Qc Z Z Z Z (Qc Z Z Z Z (Qc Z Z Z Z (Qc Z Z Z Z (Qc Z Z Z Z (Qc Z Z Z Z (Qc Z Z Z Z (Qc Z Z Z Z (Qa (Qs Z Z) Z (Qa (Qe Z) Z (Qc Z Z Z Z (Qc Z Z Z Z (Qc Z Z Z Z (Qa (Qs Z Z) Z (Qo ⟨Z, Z, Z, Z, Z, Z, Z, Z, congrArg (fun b => some (Value.bool b)) (show false = (((((((Yo x.cap 1 4) && (Yo x.credits 0 x.cap)) && (Yo x.back 0 x.cap)) && ((IntKind.i64.wrap ((IntKind.i64.wrap (x.credits + x.back)) + ((x.queue.length : Nat) : Int))) == x.cap)) && (Yo x.sent 0 1000000000)) && (x.got == (IntKind.i64.wrap (x.sent - ((x.queue.length : Nat) : Int))))) && (decide (0 ≤ x.got))) by first | (rw [hg1] <;> rfl) | (simp [hg1]; done) | (simp only [Qn] <;> simp)), trivial⟩ ⟨E, (by omega), h1⟩)))))))))))))))))))))))))))))))))))))))))))
  clear E h1
  rintro w5 ⟨E, z8, h1⟩
  refine Qa (Qg Z) Z (Qd (Qw (Qm Z Z E ?_)))
  exact congrArg Value.bool (lk_s2 hd1.1.1 (all_end hI (by omega))).symm

set_option maxHeartbeats 4000000 in
set_option maxRecDepth 20000 in
theorem s_ClusterOk (cx : List Value) (x : Cluster) (w : World) (hx : Dat.R w 0 w.heap.size cx x) : Ct Tryz.prog 51 [.agg cx.toArray] w (fun v _ => v = .bool (clOk x)) := by
 refine Yj Tryz.func51 Z Tryz.ntmps51 Z ?_
 obtain ⟨o1, o2, o3, o4, o5, rfl, hd1, hd2, hd3, hd4, hd5⟩ := Cluster.op hx
 refine Q7 [(0, .agg [o1, .int .i64 x.graph.workers, .int .i64 x.graph.cap, o2, o3, o4, o5].toArray)] ⟨Z, trivial⟩ ?_
 have E : Ext w w := Ext.refl w
 refine Qf (Qh [false, true] Z Z (Yx Z Z (fun b1 w1 e1 s1 h1 => ?_)))
 have g_b1 : w.heap.size ≤ b1 := by have := E.size; omega
 have y_b1 := h1.lt
 replace E := E.trans e1
 have z1 := e1.size
 refine Qa (Qg Z) Z (Qd (Qf (Qh [true, true, true, true] Z Z (Qa (Qb Kd Z) Z (Qa (Qb fl34_1 Z) Z (Qa (Qi Yk Z (h1.one 1 Z)) Z (Qa (Qg Z) Z (Qd (Qf (Qf (Qh [true, true, false, true, true, true, true, true, true, true, true, true, true, true, true, true, true, true, true, true, true, true, true, true, true, true] Z Z (Qa (Qb Kd Z) Z (Qa (Q1 X2 Z (h1.part 0 [o1, .int .i64 x.graph.workers, .int .i64 x.graph.cap] Z) Z) Z (Q0 Tryz.call95 Z (s_GraphOk [o1, .int .i64 x.graph.workers, .int .i64 x.graph.cap] x.graph _ (Graph.mkR x.graph (RdD.any (hd1.ext E)))) Z (fun _ w2 e2 hv => ?_)))))))))))))))
 subst hv
 replace E := E.trans e2; replace h1 := h1.ext e2
 have z2 := e2.size
 refine Qa (Yn Z) Z (Qa (Qe Z) Z (Yz 21 [(0, .agg [o1, .int .i64 x.graph.workers, .int .i64 x.graph.cap, o2, o3, o4, o5].toArray), (1, .pointer (some ⟨b1, 0, none⟩)), (2, .bool false), (3, .int .i64 x.graph.workers), (9, .pointer (some ⟨b1, 0, none⟩)), (10, .pointer (some ⟨b1, 1, none⟩)), (11, .int .i64 x.graph.workers), (37, .bool ((((!(Xv x.graph)) || (((x.workers.length : Nat) : Int) != x.graph.workers)) || (((x.links.length : Nat) : Int) != (IntKind.i64.wrap (x.graph.workers * x.graph.workers)))) || (((x.tokens.length : Nat) : Int) != 4)))] (fun w' => w2 = w') ?_ ?_))
 ·refine Ym (gd := 16) Z Z (fun hg1 => ?_) (fun hg1 => ?_)
  ·refine Qc Z Z Z Z (Qc Z Z Z Z (Qc Z Z Z Z (Qc Z Z Z Z (Qc Z Z Z Z (Qa (Qr Z Z) Z (Qa (Qe Z) Z (Qc Z Z Z Z (Qc Z Z Z Z (Qc Z Z Z Z (Qc Z Z Z Z (Qc Z Z Z Z (Qc Z Z Z Z (Qc Z Z Z Z (Qa (Qr Z Z) Z (Qa (Qe Z) Z (Qc Z Z Z Z (Qc Z Z Z Z (Qc Z Z Z Z (Qc Z Z Z Z (Qa (Qr Z Z) Z (Qo ⟨Z, Z, Z, Z, Z, Z, Z, congrArg (fun b => some (Value.bool b)) (show true = ((((!(Xv x.graph)) || (((x.workers.length : Nat) : Int) != x.graph.workers)) || (((x.links.length : Nat) : Int) != (IntKind.i64.wrap (x.graph.workers * x.graph.workers)))) || (((x.tokens.length : Nat) : Int) != 4)) by first | (rw [hg1] <;> rfl) | (simp [hg1]; done) | (simp only [Qn] <;> simp)), trivial⟩ Z)))))))))))))))))))))
  ·refine Qk Z Z (Qb Xk Z) Z (Qk Z Z (Qi sc35 Z (h1.one 3 Z)) Z (Qk Z Z (Q4 Tryz.underlying35 Z (hd2.ext E).len) Z (Qk Z Z (Qe Z) Z (Qk Z Z (Yr Z Z) Z (Qa (Qs Z Z) Z (Qa (Qe Z) Z ?_))))))
   refine Ym (gd := 23) Z Z (fun hg2 => ?_) (fun hg2 => ?_)
   ·refine Qc Z Z Z Z (Qc Z Z Z Z (Qc Z Z Z Z (Qc Z Z Z Z (Qc Z Z Z Z (Qc Z Z Z Z (Qc Z Z Z Z (Qa (Qr Z Z) Z (Qa (Qe Z) Z (Qc Z Z Z Z (Qc Z Z Z Z (Qc Z Z Z Z (Qc Z Z Z Z (Qa (Qr Z Z) Z (Qo ⟨Z, Z, Z, Z, Z, Z, Z, congrArg (fun b => some (Value.bool b)) (show true = ((((!(Xv x.graph)) || (((x.workers.length : Nat) : Int) != x.graph.workers)) || (((x.links.length : Nat) : Int) != (IntKind.i64.wrap (x.graph.workers * x.graph.workers)))) || (((x.tokens.length : Nat) : Int) != 4)) by first | (rw [hg1, hg2] <;> rfl) | (simp [hg1, hg2]; done) | (simp only [Qn] <;> simp)), trivial⟩ Z))))))))))))))
   ·refine Qk Z Z (Qb X1 Z) Z (Qk Z Z (Qi sc36 Z (h1.one 4 Z)) Z (Qk Z Z (Q4 Tryz.underlying36 Z (hd3.ext E).len) Z (Qk Z Z (Qe Z) Z (Qk Z Z (Qe Z) Z (Qk Z Z (R_mul Z Z Z) Z (Qk Z Z (Yr Z Z) Z (Qa (Qs Z Z) Z (Qa (Qe Z) Z ?_))))))))
    refine Ym (gd := 32) Z Z (fun hg3 => ?_) (fun hg3 => ?_)
    ·refine Qc Z Z Z Z (Qc Z Z Z Z (Qc Z Z Z Z (Qc Z Z Z Z (Qa (Qr Z Z) Z (Qo ⟨Z, Z, Z, Z, Z, Z, Z, congrArg (fun b => some (Value.bool b)) (show true = ((((!(Xv x.graph)) || (((x.workers.length : Nat) : Int) != x.graph.workers)) || (((x.links.length : Nat) : Int) != (IntKind.i64.wrap (x.graph.workers * x.graph.workers)))) || (((x.tokens.length : Nat) : Int) != 4)) by first | (rw [hg1, hg2, hg3] <;> rfl) | (simp [hg1, hg2, hg3]; done) | (simp only [Qn] <;> simp)), trivial⟩ Z)))))
    ·refine Qk Z Z (Qb Kj Z) Z (Qk Z Z (Qi sc37 Z (h1.one 5 Z)) Z (Qk Z Z (Q4 Tryz.underlying37 Z (hd4.ext E).len) Z (Qk Z Z (Yr Z Z) Z (Qa (Qs Z Z) Z (Qo ⟨Z, Z, Z, Z, Z, Z, Z, congrArg (fun b => some (Value.bool b)) (show (((x.tokens.length : Nat) : Int) != 4) = ((((!(Xv x.graph)) || (((x.workers.length : Nat) : Int) != x.graph.workers)) || (((x.links.length : Nat) : Int) != (IntKind.i64.wrap (x.graph.workers * x.graph.workers)))) || (((x.tokens.length : Nat) : Int) != 4)) by first | (rw [hg1, hg2, hg3] <;> rfl) | (simp [hg1, hg2, hg3]; done) | (simp only [Qn] <;> simp)), trivial⟩ Z)))))
 rintro _ rfl
 refine Qd (Qu Z (fun hc1 => ?_) (fun hc1 => ?_))
 ·refine Qf (Qh [true] Z Z (Qa (Qg Z) Z (Qd (Qw (Qm Z Z E ?_)))))
  exact cl_0 hc1
 ·have hgw := cl_g hc1
  have hlw := cl_w hc1
  refine Qp (Qf (Qf (Qh [true] Z Z (Qa (Qg Z) Z (Qd (Qy (Yh (fun (k : Nat) => [(1, .pointer (some ⟨b1, 0, none⟩)), (2, .bool false), (3, .int .i64 x.graph.workers), (4, .int .i64 ((k : Nat) : Int))]) (fun (k : Nat) w' => Ext w w' ∧ w2.heap.size ≤ w'.heap.size ∧ Blk w' b1 ([o1, .int .i64 x.graph.workers, .int .i64 x.graph.cap, o2, o3, o4, o5]) ∧ k ≤ x.workers.length ∧ (x.workers.take k).all (Xe x.graph) = true) (fun (k : Nat) => x.workers.length - k) 0 ⟨Z, Z, Z, Z, trivial⟩ ⟨E, Nat.le_refl _, h1, Nat.zero_le _, Z⟩ ?_)))))))
  clear E h1
  rintro k w4 ⟨E, z3, h1, hk, hI1⟩
  have hmw := hd2.1.1
  unfold maxLen at hmw
  refine Qf (Qf (Qh [true, true, true] Z Z (Qa (Qe Z) Z (Qa (Qe Z) Z (Qa (Yb Z Z) Z (Qd (Qu Z (fun hc2 => ?_) (fun hc2 => ?_))))))))
  ·have hlt := of_decide_eq_true hc2
   refine Qp (Qf (Qy (Qf (Y7 Y8 [(0, true), (1, true), (2, true), (3, true), (4, true), (5, true), (6, true), (7, false), (8, true)] (by decide +kernel) Z (fun w5 e3 => ?_)))))
   replace E := E.trans e3; replace h1 := h1.ext e3
   have z4 := e3.size
   refine Qa (Qb Kd Z) Z (Qa (Q1 X2 Z (h1.part 0 [o1, .int .i64 x.graph.workers, .int .i64 x.graph.cap] Z) Z) Z (Qa (Qb Xk Z) Z (Qa (Qi sc35 Z (h1.one 3 Z)) Z (Qa (Qe Z) Z ?_))))
   have hi1 : k < x.workers.length := (by first | assumption | omega | (simp only [List.length_set]; first | assumption | omega))
   obtain ⟨_, hr1, ha1⟩ := RdD.get hd2 hi1
   obtain ⟨o6, o7, o8, o9, o10, o11, o12, o13, rfl, hd6, hd7, hd8, hd9, hd10, hd11, hd12, hd13⟩ := Worker.op hr1
   replace ha1 : At w (Xm o2) (Xl o2 + k * 8) [o6, o7, o8, o9, o10, o11, o12, o13] := ha1
   refine Qa (Qv (i := k) Kf Z Z (hd2.ext E).1 hi1) Z (Qa (Q1 Xt Z (ha1.ext E) Z) Z (Q0 Tryz.call96 Z (s_WorkerOk [o1, .int .i64 x.graph.workers, .int .i64 x.graph.cap] x.graph [o6, o7, o8, o9, o10, o11, o12, o13] (x.workers[k]'hi1) _ (Graph.mkR x.graph (RdD.any (hd1.ext E))) (Worker.mkR (x.workers[k]'hi1) (RdD.any (hd6.ext E)) (RdD.any (hd7.ext E)) (RdD.any (hd8.ext E)) (RdD.any (hd9.ext E)) (RdD.any (hd10.ext E)) (RdD.any (hd11.ext E)) (RdD.any (hd12.ext E)) (RdD.any (hd13.ext E)))) Z (fun _ w6 e4 hv => ?_)))
   subst hv
   replace E := E.trans e4; replace h1 := h1.ext e4
   have z5 := e4.size
   refine Qa (Yn Z) Z (Qd (Qu Z (fun hc3 => ?_) (fun hc3 => ?_)))
   ·refine Qf (Qh [true] Z Z (Qa (Qg Z) Z (Qd (Qw (Qx (Yg (Qx (Qm Z Z E ?_))))))))
    exact cl_1 (by assumption) (by simpa using hc3)
   ·refine Qp (Q5 (Yt (Qh [true, true, true] Z Z (Qa (Qe Z) Z (Qa (Q8 Z Z (Yc (by unfold maxLen; omega))) Z (Qa (Qg Z) Z (Qd (Q5 (Q9 (k + 1) (by omega) ⟨Z, Z, Z, Z, trivial⟩ ⟨E, (by omega), h1, (by omega), Y4 hI1 (by assumption) (by simpa using hc3)⟩)))))))))
  ·have hge := of_decide_eq_false hc2
   refine Yi (Q3 (Q2 ?_))
   refine Qf (Qf (Qh [true] Z Z (Qa (Qg Z) Z (Qd (Qy (Yh (fun (k : Nat) => [(1, .pointer (some ⟨b1, 0, none⟩)), (2, .bool false), (3, .int .i64 x.graph.workers), (5, .int .i64 ((k : Nat) : Int))]) (fun (k : Nat) w' => Ext w w' ∧ w4.heap.size ≤ w'.heap.size ∧ Blk w' b1 ([o1, .int .i64 x.graph.workers, .int .i64 x.graph.cap, o2, o3, o4, o5]) ∧ k ≤ x.links.length ∧ allR k (fun j => !lkBad x.graph j (List.getD x.links j default)) = true) (fun (k : Nat) => x.links.length - k) 0 ⟨Z, Z, Z, Z, trivial⟩ ⟨E, Nat.le_refl _, h1, Nat.zero_le _, Z⟩ ?_))))))
   clear E h1
   rintro k w7 ⟨E, z6, h1, hk, hI2⟩
   have hml := hd3.1.1
   unfold maxLen at hml
   refine Qf (Qf (Qh [true, true, true, true, true] Z Z (Qa (Qe Z) Z (Qa (Qb X1 Z) Z (Qa (Qi sc36 Z (h1.one 4 Z)) Z (Qa (Q4 Tryz.underlying36 Z (hd3.ext E).len) Z (Qa (Yb Z Z) Z (Qd (Qu Z (fun hc4 => ?_) (fun hc4 => ?_))))))))))
   ·have hc4n : k < x.links.length := by first | (have h := of_decide_eq_true hc4; omega) | (have h := hc4; simp at h; omega)
    refine Qp (Qf (Qy (Qf (Qh [true, true, true, true, true, false, false] Z Z (Qa (Qb X1 Z) Z (Qa (Qi sc36 Z (h1.one 4 Z)) Z (Qa (Qe Z) Z ?_)))))))
    have hi2 : k < x.links.length := (by first | assumption | omega | (simp only [List.length_set]; first | assumption | omega))
    obtain ⟨_, hr2, ha2⟩ := RdD.get hd3 hi2
    obtain ⟨o14, rfl, hd14⟩ := Link.op hr2
    replace ha2 : At w (Xm o3) (Xl o3 + k * 6) [.int .i64 ((x.links[k]'hi2).cap), o14, .int .i64 ((x.links[k]'hi2).credits), .int .i64 ((x.links[k]'hi2).back), .int .i64 ((x.links[k]'hi2).sent), .int .i64 ((x.links[k]'hi2).got)] := ha2
    refine Qa (Qv (i := k) sl36 Z Z (hd3.ext E).1 hi2) Z (Qa (Q1 st88 Z (ha2.ext E) Z) Z (Yu st88 Z (fun b2 w8 e5 s2 h2 => ?_)))
    have g_b2 : w.heap.size ≤ b2 := by have := E.size; omega
    have y_b2 := h2.lt
    replace E := E.trans e5; replace h1 := h1.ext e5
    have z7 := e5.size
    refine Ya (cs' := [.int .i64 ((x.links[k]'hi2).cap), o14, .int .i64 ((x.links[k]'hi2).credits), .int .i64 ((x.links[k]'hi2).back), .int .i64 ((x.links[k]'hi2).sent), .int .i64 ((x.links[k]'hi2).got)]) st88 Z Z Z (Ql Z (Ql (RdD.one (hd14.ext E)) (Ql Z (Ql Z (Ql Z (Ql Z Z)))))) h2 (Nat.le_of_ble_eq_true Z) Z (fun w9 m1 h2' => ?_)
    replace h2 := h2'
    replace E := E.step m1 (fun g hg => by cases hg; omega); replace h1 := h1.mod m1 (fun g hg => by cases hg; omega)
    have z8 := m1.size
    refine Qd (Qf (Y7 Y8 [(0, true), (1, false), (2, true), (3, true), (4, true), (5, true), (6, true), (7, true), (8, true), (9, true), (10, true), (11, true), (12, true), (13, true), (14, true), (15, true), (16, false), (17, true), (18, true), (19, true), (20, true), (21, true), (22, true), (23, true), (24, true), (25, true), (26, true), (27, true), (28, true), (29, true), (30, true), (31, true), (32, true), (33, true)] (by decide +kernel) Z (fun w10 e6 => ?_)))
    replace E := E.trans e6; replace h1 := h1.ext e6; replace h2 := h2.ext e6
    have z9 := e6.size
    refine Qa (Q1 st88 Z h2.at Z) Z (Q0 Tryz.call97 Z (s_LinkOk [.int .i64 ((x.links[k]'hi2).cap), o14, .int .i64 ((x.links[k]'hi2).credits), .int .i64 ((x.links[k]'hi2).back), .int .i64 ((x.links[k]'hi2).sent), .int .i64 ((x.links[k]'hi2).got)] (x.links[k]'hi2) _ (Link.mkR (x.links[k]'hi2) (RdD.any (hd14.ext E)))) Z (fun _ w11 e7 hv => ?_))
    subst hv
    replace E := E.trans e7; replace h1 := h1.ext e7; replace h2 := h2.ext e7
    have z10 := e7.size
    refine Qa (Yn Z) Z (Qa (Qe Z) Z (Yz 30 [(1, .pointer (some ⟨b1, 0, none⟩)), (2, .bool false), (3, .int .i64 x.graph.workers), (5, .int .i64 ((k : Nat) : Int)), (6, .pointer (some ⟨b2, 0, none⟩)), (52, .int .i64 ((k : Nat) : Int)), (53, .pointer (some ⟨b1, 4, none⟩)), (54, o3), (55, .int .i64 ((x.links.length : Nat) : Int)), (56, .bool (decide (((k : Nat) : Int) < ((x.links.length : Nat) : Int)))), (59, .pointer (some ⟨b1, 4, none⟩)), (60, o3), (61, .int .i64 ((k : Nat) : Int)), (62, .pointer (some ⟨Xm o3, Xl o3 + k * 6, none⟩)), (63, .agg [.int .i64 ((x.links[k]'hi2).cap), o14, .int .i64 ((x.links[k]'hi2).credits), .int .i64 ((x.links[k]'hi2).back), .int .i64 ((x.links[k]'hi2).sent), .int .i64 ((x.links[k]'hi2).got)].toArray), (97, .bool ((((!(linkOk (x.links[k]'hi2))) || (((x.links[k]'hi2).cap) != x.graph.cap)) || (!(((x.links[k]'hi2).queue).all (Xg x.graph)))) || (((IntKind.i64.wrap (Int.tdiv ((k : Nat) : Int) x.graph.workers)) == (Int.tmod ((k : Nat) : Int) x.graph.workers)) && (decide (0 < ((((x.links[k]'hi2).queue).length : Nat) : Int))))))] (fun w' => Ext w w' ∧ w11.heap.size ≤ w'.heap.size ∧ Blk w' b1 ([o1, .int .i64 x.graph.workers, .int .i64 x.graph.cap, o2, o3, o4, o5]) ∧ Blk w' b2 [.int .i64 ((x.links[k]'hi2).cap), o14, .int .i64 ((x.links[k]'hi2).credits), .int .i64 ((x.links[k]'hi2).back), .int .i64 ((x.links[k]'hi2).sent), .int .i64 ((x.links[k]'hi2).got)]) ?_ ?_))
    ·refine Ym (gd := 67) Z Z (fun hg4 => ?_) (fun hg4 => ?_)
     ·refine Qc Z Z Z Z (Qc Z Z Z Z (Qc Z Z Z Z (Qc Z Z Z Z (Qc Z Z Z Z (Qc Z Z Z Z (Qa (Qr Z Z) Z (Qa (Qe Z) Z (Qc Z Z Z Z (Qc Z Z Z Z (Qc Z Z Z Z (Qc Z Z Z Z ?_)))))))))))
      refine Yv Z Z Z Z ?_
      refine Qc Z Z Z Z (Qa (Qr Z Z) Z (Qa (Qe Z) Z (Qc Z Z Z Z (Qc Z Z Z Z (Qc Z Z Z Z (Qc Z Z Z Z (Qc Z Z Z Z (Qc Z Z Z Z (Qc Z Z Z Z (Qc Z Z Z Z (Qt Z Z Z (Qt Z Z Z (Qt Z Z Z (Qt Z Z Z (Qc Z Z Z Z (Qa (Qr Z Z) Z (Qo ⟨Z, Z, Z, Z, Z, Z, Z, Z, Z, Z, Z, Z, Z, Z, Z, congrArg (fun b => some (Value.bool b)) (show true = ((((!(linkOk (x.links[k]'hi2))) || (((x.links[k]'hi2).cap) != x.graph.cap)) || (!(((x.links[k]'hi2).queue).all (Xg x.graph)))) || (((IntKind.i64.wrap (Int.tdiv ((k : Nat) : Int) x.graph.workers)) == (Int.tmod ((k : Nat) : Int) x.graph.workers)) && (decide (0 < ((((x.links[k]'hi2).queue).length : Nat) : Int))))) by first | (rw [hg4] <;> rfl) | (simp [hg4]; done) | (simp only [Qn] <;> simp)), trivial⟩ ⟨E, (by omega), h1, h2⟩)))))))))))))))))
     ·refine Qk Z Z (Qb fl88_0 Z) Z (Qk Z Z (Qi Yk Z (h2.one 0 Z)) Z (Qk Z Z (Qb Kd Z) Z (Qk Z Z (Qb fl34_2 Z) Z (Qk Z Z (Qi Yk Z (h1.one 2 Z)) Z (Qk Z Z (Yr Z Z) Z (Qa (Qs Z Z) Z (Qa (Qe Z) Z ?_)))))))
      refine Ym (gd := 75) Z Z (fun hg5 => ?_) (fun hg5 => ?_)
      ·refine Qc Z Z Z Z (Qc Z Z Z Z (Qc Z Z Z Z (Qc Z Z Z Z ?_)))
       refine Yv Z Z Z Z ?_
       refine Qc Z Z Z Z (Qa (Qr Z Z) Z (Qa (Qe Z) Z (Qc Z Z Z Z (Qc Z Z Z Z (Qc Z Z Z Z (Qc Z Z Z Z (Qc Z Z Z Z (Qc Z Z Z Z (Qc Z Z Z Z (Qc Z Z Z Z (Qt Z Z Z (Qt Z Z Z (Qt Z Z Z (Qt Z Z Z (Qc Z Z Z Z (Qa (Qr Z Z) Z (Qo ⟨Z, Z, Z, Z, Z, Z, Z, Z, Z, Z, Z, Z, Z, Z, Z, congrArg (fun b => some (Value.bool b)) (show true = ((((!(linkOk (x.links[k]'hi2))) || (((x.links[k]'hi2).cap) != x.graph.cap)) || (!(((x.links[k]'hi2).queue).all (Xg x.graph)))) || (((IntKind.i64.wrap (Int.tdiv ((k : Nat) : Int) x.graph.workers)) == (Int.tmod ((k : Nat) : Int) x.graph.workers)) && (decide (0 < ((((x.links[k]'hi2).queue).length : Nat) : Int))))) by first | (rw [hg4, hg5] <;> rfl) | (simp [hg4, hg5]; done) | (simp only [Qn] <;> simp)), trivial⟩ ⟨E, (by omega), h1, h2⟩)))))))))))))))))
      ·refine Qk Z Z (Qb Kd Z) Z (Qk Z Z (Q1 X2 Z (h1.part 0 [o1, .int .i64 x.graph.workers, .int .i64 x.graph.cap] Z) Z) Z (Qk Z Z (Qb X5 Z) Z (Qk Z Z (Qi Xa Z (h2.one 1 Z)) Z ?_)))
       refine Xf Z Z ?_
       refine Q0 Tryz.call98 Z (s_l12Records [o1, .int .i64 x.graph.workers, .int .i64 x.graph.cap] x.graph o14 ((x.links[k]'hi2).queue) _ (Graph.mkR x.graph (RdD.any (hd1.ext E))) (hd14.rd.ext E)) Z (fun _ w13 e8 hv => ?_)
       subst hv
       replace E := E.trans e8; replace h1 := h1.ext e8; replace h2 := h2.ext e8
       have z11 := e8.size
       refine Qk Z Z (Yn Z) Z (Qa (Qs Z Z) Z (Qa (Qe Z) Z ?_))
       refine Ym (gd := 83) Z Z (fun hg6 => ?_) (fun hg6 => ?_)
       ·refine Qc Z Z Z Z (Qc Z Z Z Z (Qc Z Z Z Z (Qc Z Z Z Z (Qc Z Z Z Z (Qc Z Z Z Z (Qc Z Z Z Z (Qc Z Z Z Z (Qt Z Z Z (Qt Z Z Z (Qt Z Z Z (Qt Z Z Z (Qc Z Z Z Z (Qa (Qr Z Z) Z (Qo ⟨Z, Z, Z, Z, Z, Z, Z, Z, Z, Z, Z, Z, Z, Z, Z, congrArg (fun b => some (Value.bool b)) (show true = ((((!(linkOk (x.links[k]'hi2))) || (((x.links[k]'hi2).cap) != x.graph.cap)) || (!(((x.links[k]'hi2).queue).all (Xg x.graph)))) || (((IntKind.i64.wrap (Int.tdiv ((k : Nat) : Int) x.graph.workers)) == (Int.tmod ((k : Nat) : Int) x.graph.workers)) && (decide (0 < ((((x.links[k]'hi2).queue).length : Nat) : Int))))) by first | (rw [hg4, hg5, hg6] <;> rfl) | (simp [hg4, hg5, hg6]; done) | (simp only [Qn] <;> simp)), trivial⟩ ⟨E, (by omega), h1, h2⟩))))))))))))))
       ·refine Qk Z Z (Qe Z) Z (Qk Z Z (Qe Z) Z (Qk Z Z (R_quo Z Z (by omega) Z) Z (Qk Z Z (Qe Z) Z (Qk Z Z (Qe Z) Z (Qk Z Z (R_rem Z Z (by omega) Z) Z (Qk Z Z (Yw Z Z) Z (Qk Z Z (Qe Z) Z ?_)))))))
        refine Ym (gd := 91) Z Z (fun hg7 => ?_) (fun hg7 => ?_)
        ·refine Qk Z Z (Qb X5 Z) Z (Qk Z Z (Qi Xa Z (h2.one 1 Z)) Z (Qk Z Z (Q4 Tryz.underlying66 Z (hd14.ext E).len) Z (Qk Z Z (Xc Z Z) Z (Qk Z Z (Qr Z Z) Z (Qa (Qs Z Z) Z (Qo ⟨Z, Z, Z, Z, Z, Z, Z, Z, Z, Z, Z, Z, Z, Z, Z, congrArg (fun b => some (Value.bool b)) (show (decide (0 < ((((x.links[k]'hi2).queue).length : Nat) : Int))) = ((((!(linkOk (x.links[k]'hi2))) || (((x.links[k]'hi2).cap) != x.graph.cap)) || (!(((x.links[k]'hi2).queue).all (Xg x.graph)))) || (((IntKind.i64.wrap (Int.tdiv ((k : Nat) : Int) x.graph.workers)) == (Int.tmod ((k : Nat) : Int) x.graph.workers)) && (decide (0 < ((((x.links[k]'hi2).queue).length : Nat) : Int))))) by first | (rw [hg4, hg5, hg6, hg7] <;> rfl) | (simp [hg4, hg5, hg6, hg7]; done) | (simp only [Qn] <;> simp)), trivial⟩ ⟨E, (by omega), h1, h2⟩))))))
        ·refine Qc Z Z Z Z (Qc Z Z Z Z (Qc Z Z Z Z (Qc Z Z Z Z (Qk Z Z (Qs Z Z) Z (Qa (Qs Z Z) Z (Qo ⟨Z, Z, Z, Z, Z, Z, Z, Z, Z, Z, Z, Z, Z, Z, Z, congrArg (fun b => some (Value.bool b)) (show false = ((((!(linkOk (x.links[k]'hi2))) || (((x.links[k]'hi2).cap) != x.graph.cap)) || (!(((x.links[k]'hi2).queue).all (Xg x.graph)))) || (((IntKind.i64.wrap (Int.tdiv ((k : Nat) : Int) x.graph.workers)) == (Int.tmod ((k : Nat) : Int) x.graph.workers)) && (decide (0 < ((((x.links[k]'hi2).queue).length : Nat) : Int))))) by first | (rw [hg4, hg5, hg6, hg7] <;> rfl) | (simp [hg4, hg5, hg6, hg7]; done) | (simp only [Qn] <;> simp)), trivial⟩ ⟨E, (by omega), h1, h2⟩))))))
    clear E h1 h2
    rintro w12 ⟨E, z12, h1, h2⟩
    refine Qd (Qu Z (fun hc5 => ?_) (fun hc5 => ?_))
    ·refine Qf (Qh [true] Z Z (Qa (Qg Z) Z (Qd (Qw (Qx (Yg (Qx (Qm Z Z E ?_))))))))
     exact cl_2 (by assumption) hc5
    ·refine Qp (Q5 (Yt (Qh [true, true, true] Z Z (Qa (Qe Z) Z (Qa (Q8 Z Z (Yc (by unfold maxLen; omega))) Z (Qa (Qg Z) Z (Qd (Q5 (Q9 (k + 1) (by omega) ⟨Z, Z, Z, Z, trivial⟩ ⟨E, (by omega), h1, (by omega), allR_s hI2 (lk_at (by assumption) hc5)⟩)))))))))
   ·have hc4n : ¬ k < x.links.length := by first | (have h := of_decide_eq_false hc4; omega) | (have h := hc4; simp at h; omega)
    refine Yi (Q3 (Q2 ?_))
    refine Qf (Qf (Qh [true] Z Z (Qa (Qg Z) Z (Qd (Qy (Yh (fun (k : Nat) => [(1, .pointer (some ⟨b1, 0, none⟩)), (2, .bool false), (3, .int .i64 x.graph.workers), (7, .int .i64 ((k : Nat) : Int))]) (fun (k : Nat) w' => Ext w w' ∧ w7.heap.size ≤ w'.heap.size ∧ Blk w' b1 ([o1, .int .i64 x.graph.workers, .int .i64 x.graph.cap, o2, o3, o4, o5]) ∧ k ≤ x.tokens.length ∧ (x.tokens.take k).all (fun t => !tkBad x.graph t) = true) (fun (k : Nat) => x.tokens.length - k) 0 ⟨Z, Z, Z, Z, trivial⟩ ⟨E, Nat.le_refl _, h1, Nat.zero_le _, Z⟩ ?_))))))
    clear E h1
    rintro k w14 ⟨E, z13, h1, hk, hI3⟩
    have hmt := hd4.1.1
    unfold maxLen at hmt
    refine Qf (Qf (Qh [true, true, true, true, true] Z Z (Qa (Qe Z) Z (Qa (Qb Kj Z) Z (Qa (Qi sc37 Z (h1.one 5 Z)) Z (Qa (Q4 Tryz.underlying37 Z (hd4.ext E).len) Z (Qa (Yb Z Z) Z (Qd (Qu Z (fun hc6 => ?_) (fun hc6 => ?_))))))))))
    ·have hc6n : k < x.tokens.length := by first | (have h := of_decide_eq_true hc6; omega) | (have h := hc6; simp at h; omega)
     refine Qp (Qf (Qy (Qf (Qh [true, true, true, true, true, true, true, true, false, true, true, true, true, true, true, true, true, true, true, true, true, true, true, true, true, true, true, true, true, true, true, true, true, true, true, false, true, true] Z Z (Qa (Qb Kj Z) Z (Qa (Qi sc37 Z (h1.one 5 Z)) Z (Qa (Qe Z) Z ?_)))))))
     have hi3 : k < x.tokens.length := (by first | assumption | omega | (simp only [List.length_set]; first | assumption | omega))
     refine Qa (Qv (i := k) sl37 Z Z (hd4.rd.ext E) hi3) Z (Qa (Qz fl110_1 Z) Z (Qa (Qi Yk Z (((hd4.rd.ext E).get hi3).one 1 Z)) Z (Qa (Qe Z) Z (Qa (Ka Z Z Z) Z (Q0 Tryz.call99 Z (s_l01In ((x.tokens[k]'hi3).place) 0 (IntKind.i64.wrap (x.graph.workers - 1)) _ ) Z (fun _ w15 e9 hv => ?_))))))
     subst hv
     replace E := E.trans e9; replace h1 := h1.ext e9
     have z14 := e9.size
     refine Qa (Yn Z) Z (Qa (Qe Z) Z (Yz 27 [(1, .pointer (some ⟨b1, 0, none⟩)), (2, .bool false), (3, .int .i64 x.graph.workers), (7, .int .i64 ((k : Nat) : Int)), (98, .int .i64 ((k : Nat) : Int)), (99, .pointer (some ⟨b1, 5, none⟩)), (100, o4), (101, .int .i64 ((x.tokens.length : Nat) : Int)), (102, .bool (decide (((k : Nat) : Int) < ((x.tokens.length : Nat) : Int)))), (142, .bool (((!(Yo ((x.tokens[k]'hi3).place) 0 (IntKind.i64.wrap (x.graph.workers - 1)))) || ((!((x.tokens[k]'hi3).going)) && (((x.tokens[k]'hi3).place) != 0))) || (!(Yo ((x.tokens[k]'hi3).sum) (-1000000) 1000000))))] (fun w' => Ext w w' ∧ w15.heap.size ≤ w'.heap.size ∧ Blk w' b1 ([o1, .int .i64 x.graph.workers, .int .i64 x.graph.cap, o2, o3, o4, o5])) ?_ ?_))
     ·refine Ym (gd := 115) Z Z (fun hg8 => ?_) (fun hg8 => ?_)
      ·refine Qc Z Z Z Z (Qc Z Z Z Z (Qc Z Z Z Z (Qc Z Z Z Z (Qc Z Z Z Z (Qc Z Z Z Z (Qc Z Z Z Z (Qc Z Z Z Z (Qt Z Z Z (Qt Z Z Z (Qt Z Z Z (Qt Z Z Z (Qt Z Z Z (Qt Z Z Z (Qt Z Z Z (Qc Z Z Z Z (Qa (Qr Z Z) Z (Qa (Qe Z) Z (Qc Z Z Z Z (Qc Z Z Z Z (Qc Z Z Z Z (Qc Z Z Z Z (Qc Z Z Z Z (Qc Z Z Z Z ?_)))))))))))))))))))))))
       refine Yv Z Z Z Z ?_
       refine Qc Z Z Z Z (Qa (Qr Z Z) Z (Qo ⟨Z, Z, Z, Z, Z, Z, Z, Z, Z, congrArg (fun b => some (Value.bool b)) (show true = (((!(Yo ((x.tokens[k]'hi3).place) 0 (IntKind.i64.wrap (x.graph.workers - 1)))) || ((!((x.tokens[k]'hi3).going)) && (((x.tokens[k]'hi3).place) != 0))) || (!(Yo ((x.tokens[k]'hi3).sum) (-1000000) 1000000))) by first | (rw [hg8] <;> rfl) | (simp [hg8]; done) | (simp only [Qn] <;> simp)), trivial⟩ ⟨E, (by omega), h1⟩))
      ·refine Qk Z Z (Qb Kj Z) Z (Qk Z Z (Qi sc37 Z (h1.one 5 Z)) Z (Qk Z Z (Qe Z) Z (Qk Z Z (Qv (i := k) sl37 Z Z (hd4.rd.ext E) hi3) Z (Qk Z Z (Qz fl110_0 Z) Z (Qk Z Z (Qi sc4 Z (((hd4.rd.ext E).get hi3).one 0 Z)) Z (Qk Z Z (Yn Z) Z (Qk Z Z (Qe Z) Z ?_)))))))
       refine Ym (gd := 123) Z Z (fun hg9 => ?_) (fun hg9 => ?_)
       ·refine Qk Z Z (Qb Kj Z) Z (Qk Z Z (Qi sc37 Z (h1.one 5 Z)) Z (Qk Z Z (Qe Z) Z (Qk Z Z (Qv (i := k) sl37 Z Z (hd4.rd.ext E) hi3) Z (Qk Z Z (Qz fl110_1 Z) Z (Qk Z Z (Qi Yk Z (((hd4.rd.ext E).get hi3).one 1 Z)) Z (Qk Z Z (Yr Z Z) Z (Qk Z Z (Qr Z Z) Z (Qa (Qs Z Z) Z (Qa (Qe Z) Z ?_)))))))))
        refine Ym (gd := 133) Z Z (fun hg10 => ?_) (fun hg10 => ?_)
        ·refine Qc Z Z Z Z (Qc Z Z Z Z (Qc Z Z Z Z (Qc Z Z Z Z (Qc Z Z Z Z (Qc Z Z Z Z ?_)))))
         refine Yv Z Z Z Z ?_
         refine Qc Z Z Z Z (Qa (Qr Z Z) Z (Qo ⟨Z, Z, Z, Z, Z, Z, Z, Z, Z, congrArg (fun b => some (Value.bool b)) (show true = (((!(Yo ((x.tokens[k]'hi3).place) 0 (IntKind.i64.wrap (x.graph.workers - 1)))) || ((!((x.tokens[k]'hi3).going)) && (((x.tokens[k]'hi3).place) != 0))) || (!(Yo ((x.tokens[k]'hi3).sum) (-1000000) 1000000))) by first | (rw [hg8, hg9, hg10] <;> rfl) | (simp [hg8, hg9, hg10]; done) | (simp only [Qn] <;> simp)), trivial⟩ ⟨E, (by omega), h1⟩))
        ·refine Qk Z Z (Qb Kj Z) Z (Qk Z Z (Qi sc37 Z (h1.one 5 Z)) Z (Qk Z Z (Qe Z) Z (Qk Z Z (Qv (i := k) sl37 Z Z (hd4.rd.ext E) hi3) Z (Qk Z Z (Qz fl110_2 Z) Z (Qk Z Z (Qi Yk Z (((hd4.rd.ext E).get hi3).one 2 Z)) Z ?_)))))
         refine Xf Z Z ?_
         refine Q0 Tryz.call99 Z (s_l01In ((x.tokens[k]'hi3).sum) (-1000000) 1000000 _ ) Z (fun _ w17 e10 hv => ?_)
         subst hv
         replace E := E.trans e10; replace h1 := h1.ext e10
         have z15 := e10.size
         refine Qk Z Z (Yn Z) Z (Qa (Qs Z Z) Z (Qo ⟨Z, Z, Z, Z, Z, Z, Z, Z, Z, congrArg (fun b => some (Value.bool b)) (show (!(Yo ((x.tokens[k]'hi3).sum) (-1000000) 1000000)) = (((!(Yo ((x.tokens[k]'hi3).place) 0 (IntKind.i64.wrap (x.graph.workers - 1)))) || ((!((x.tokens[k]'hi3).going)) && (((x.tokens[k]'hi3).place) != 0))) || (!(Yo ((x.tokens[k]'hi3).sum) (-1000000) 1000000))) by first | (rw [hg8, hg9, hg10] <;> rfl) | (simp [hg8, hg9, hg10]; done) | (simp only [Qn] <;> simp)), trivial⟩ ⟨E, (by omega), h1⟩))
       ·refine Qc Z Z Z Z (Qc Z Z Z Z (Qc Z Z Z Z (Qc Z Z Z Z (Qc Z Z Z Z (Qc Z Z Z Z (Qc Z Z Z Z (Qk Z Z (Qs Z Z) Z (Qa (Qs Z Z) Z (Qa (Qe Z) Z (Qk Z Z (Qb Kj Z) Z (Qk Z Z (Qi sc37 Z (h1.one 5 Z)) Z (Qk Z Z (Qe Z) Z (Qk Z Z (Qv (i := k) sl37 Z Z (hd4.rd.ext E) hi3) Z (Qk Z Z (Qz fl110_2 Z) Z (Qk Z Z (Qi Yk Z (((hd4.rd.ext E).get hi3).one 2 Z)) Z ?_)))))))))))))))
        refine Xf Z Z ?_
        refine Q0 Tryz.call99 Z (s_l01In ((x.tokens[k]'hi3).sum) (-1000000) 1000000 _ ) Z (fun _ w18 e11 hv => ?_)
        subst hv
        replace E := E.trans e11; replace h1 := h1.ext e11
        have z16 := e11.size
        refine Qk Z Z (Yn Z) Z (Qa (Qs Z Z) Z (Qo ⟨Z, Z, Z, Z, Z, Z, Z, Z, Z, congrArg (fun b => some (Value.bool b)) (show (!(Yo ((x.tokens[k]'hi3).sum) (-1000000) 1000000)) = (((!(Yo ((x.tokens[k]'hi3).place) 0 (IntKind.i64.wrap (x.graph.workers - 1)))) || ((!((x.tokens[k]'hi3).going)) && (((x.tokens[k]'hi3).place) != 0))) || (!(Yo ((x.tokens[k]'hi3).sum) (-1000000) 1000000))) by first | (rw [hg8, hg9] <;> rfl) | (simp [hg8, hg9]; done) | (simp only [Qn] <;> simp)), trivial⟩ ⟨E, (by omega), h1⟩))
     clear E h1
     rintro w16 ⟨E, z17, h1⟩
     refine Qd (Qu Z (fun hc7 => ?_) (fun hc7 => ?_))
     ·refine Qf (Qh [true] Z Z (Qa (Qg Z) Z (Qd (Qw (Qx (Yg (Qx (Qm Z Z E ?_))))))))
      exact cl_3 (by assumption) hc7
     ·refine Qp (Q5 (Yt (Qh [true, true, true] Z Z (Qa (Qe Z) Z (Qa (Q8 Z Z (Yc (by unfold maxLen; omega))) Z (Qa (Qg Z) Z (Qd (Q5 (Q9 (k + 1) (by omega) ⟨Z, Z, Z, Z, trivial⟩ ⟨E, (by omega), h1, (by omega), Y4 hI3 (by assumption) (nb hc7)⟩)))))))))
    ·have hc6n : ¬ k < x.tokens.length := by first | (have h := of_decide_eq_false hc6; omega) | (have h := hc6; simp at h; omega)
     refine Yi (Q3 (Q2 ?_))
     refine Qf (Qf (Qh [true] Z Z (Qa (Qg Z) Z (Qd (Qy (Yh (fun (k : Nat) => [(1, .pointer (some ⟨b1, 0, none⟩)), (2, .bool false), (3, .int .i64 x.graph.workers), (8, .int .i64 ((k : Nat) : Int))]) (fun (k : Nat) w' => Ext w w' ∧ w14.heap.size ≤ w'.heap.size ∧ Blk w' b1 ([o1, .int .i64 x.graph.workers, .int .i64 x.graph.cap, o2, o3, o4, o5]) ∧ k ≤ x.news.length ∧ (x.news.take k).all (fun t => !nwBad x.graph t) = true) (fun (k : Nat) => x.news.length - k) 0 ⟨Z, Z, Z, Z, trivial⟩ ⟨E, Nat.le_refl _, h1, Nat.zero_le _, Z⟩ ?_))))))
     clear E h1
     rintro k w19 ⟨E, z18, h1, hk, hI4⟩
     have hmn := hd5.1.1
     unfold maxLen at hmn
     refine Qf (Qf (Qh [true, true, true, true, true] Z Z (Qa (Qe Z) Z (Qa (Qb fl40_4 Z) Z (Qa (Qi sc38 Z (h1.one 6 Z)) Z (Qa (Q4 Tryz.underlying38 Z (hd5.ext E).len) Z (Qa (Yb Z Z) Z (Qd (Qu Z (fun hc8 => ?_) (fun hc8 => ?_))))))))))
     ·have hc8n : k < x.news.length := by first | (have h := of_decide_eq_true hc8; omega) | (have h := hc8; simp at h; omega)
      refine Qp (Qf (Qy (Qf (Qh [true, true, true, true, true, true, true, true, false, true, true, true, true, true, true, true, true, false, true, true] Z Z (Qa (Qb fl40_4 Z) Z (Qa (Qi sc38 Z (h1.one 6 Z)) Z (Qa (Qe Z) Z ?_)))))))
      have hi4 : k < x.news.length := (by first | assumption | omega | (simp only [List.length_set]; first | assumption | omega))
      refine Qa (Qv (i := k) sl38 Z Z (hd5.rd.ext E) hi4) Z (Qa (Qz fl114_0 Z) Z (Qa (Qi Yk Z (((hd5.rd.ext E).get hi4).one 0 Z)) Z (Qa (Qe Z) Z (Qa (Ka Z Z Z) Z (Q0 Tryz.call99 Z (s_l01In ((x.news[k]'hi4).dest) 0 (IntKind.i64.wrap (x.graph.workers - 1)) _ ) Z (fun _ w20 e12 hv => ?_))))))
      subst hv
      replace E := E.trans e12; replace h1 := h1.ext e12
      have z19 := e12.size
      refine Qa (Yn Z) Z (Qa (Qe Z) Z (Yz 9 [(1, .pointer (some ⟨b1, 0, none⟩)), (2, .bool false), (3, .int .i64 x.graph.workers), (8, .int .i64 ((k : Nat) : Int)), (143, .int .i64 ((k : Nat) : Int)), (144, .pointer (some ⟨b1, 6, none⟩)), (145, o5), (146, .int .i64 ((x.news.length : Nat) : Int)), (147, .bool (decide (((k : Nat) : Int) < ((x.news.length : Nat) : Int)))), (169, .bool ((!(Yo ((x.news[k]'hi4).dest) 0 (IntKind.i64.wrap (x.graph.workers - 1)))) || (!(Yo ((x.news[k]'hi4).epoch) 0 3))))] (fun w' => Ext w w' ∧ w20.heap.size ≤ w'.heap.size ∧ Blk w' b1 ([o1, .int .i64 x.graph.workers, .int .i64 x.graph.cap, o2, o3, o4, o5])) ?_ ?_))
      ·refine Ym (gd := 160) Z Z (fun hg11 => ?_) (fun hg11 => ?_)
       ·refine Qc Z Z Z Z (Qc Z Z Z Z (Qc Z Z Z Z (Qc Z Z Z Z (Qc Z Z Z Z (Qc Z Z Z Z ?_)))))
        refine Yv Z Z Z Z ?_
        refine Qc Z Z Z Z (Qa (Qr Z Z) Z (Qo ⟨Z, Z, Z, Z, Z, Z, Z, Z, Z, congrArg (fun b => some (Value.bool b)) (show true = ((!(Yo ((x.news[k]'hi4).dest) 0 (IntKind.i64.wrap (x.graph.workers - 1)))) || (!(Yo ((x.news[k]'hi4).epoch) 0 3))) by first | (rw [hg11] <;> rfl) | (simp [hg11]; done) | (simp only [Qn] <;> simp)), trivial⟩ ⟨E, (by omega), h1⟩))
       ·refine Qk Z Z (Qb fl40_4 Z) Z (Qk Z Z (Qi sc38 Z (h1.one 6 Z)) Z (Qk Z Z (Qe Z) Z (Qk Z Z (Qv (i := k) sl38 Z Z (hd5.rd.ext E) hi4) Z (Qk Z Z (Qz fl114_1 Z) Z (Qk Z Z (Qi Yk Z (((hd5.rd.ext E).get hi4).one 1 Z)) Z ?_)))))
        refine Xf Z Z ?_
        refine Q0 Tryz.call99 Z (s_l01In ((x.news[k]'hi4).epoch) 0 3 _ ) Z (fun _ w22 e13 hv => ?_)
        subst hv
        replace E := E.trans e13; replace h1 := h1.ext e13
        have z20 := e13.size
        refine Qk Z Z (Yn Z) Z (Qa (Qs Z Z) Z (Qo ⟨Z, Z, Z, Z, Z, Z, Z, Z, Z, congrArg (fun b => some (Value.bool b)) (show (!(Yo ((x.news[k]'hi4).epoch) 0 3)) = ((!(Yo ((x.news[k]'hi4).dest) 0 (IntKind.i64.wrap (x.graph.workers - 1)))) || (!(Yo ((x.news[k]'hi4).epoch) 0 3))) by first | (rw [hg11] <;> rfl) | (simp [hg11]; done) | (simp only [Qn] <;> simp)), trivial⟩ ⟨E, (by omega), h1⟩))
      clear E h1
      rintro w21 ⟨E, z21, h1⟩
      refine Qd (Qu Z (fun hc9 => ?_) (fun hc9 => ?_))
      ·refine Qf (Qh [true] Z Z (Qa (Qg Z) Z (Qd (Qw (Qx (Yg (Qx (Qm Z Z E ?_))))))))
       exact cl_4 (by assumption) hc9
      ·refine Qp (Q5 (Yt (Qh [true, true, true] Z Z (Qa (Qe Z) Z (Qa (Q8 Z Z (Yc (by unfold maxLen; omega))) Z (Qa (Qg Z) Z (Qd (Q5 (Q9 (k + 1) (by omega) ⟨Z, Z, Z, Z, trivial⟩ ⟨E, (by omega), h1, (by omega), Y4 hI4 (by assumption) (nb hc9)⟩)))))))))
     ·have hc8n : ¬ k < x.news.length := by first | (have h := of_decide_eq_false hc8; omega) | (have h := hc8; simp at h; omega)
      refine Yi (Q3 (Q2 ?_))
      refine Qf (Qh [true] Z Z (Qa (Qg Z) Z (Qd (Qw (Qm Z Z E ?_)))))
      exact cl_5 hc1 (all_end hI1 (by omega)) (allR_le hI2 (by omega)) (all_end hI3 (by omega)) (all_end hI4 (by omega))

set_option maxHeartbeats 4000000 in
set_option maxRecDepth 20000 in
theorem c_ClusterOk (cx : List Value) (x : Cluster) (w : World) (hx : Dat.R w 0 w.heap.size cx x) (hok : ∀ l ∈ x.links, rg l.got) : Ct Tryz.prog 61 [.agg cx.toArray] w (fun v _ => v = .bool (clOk x)) := by
 refine Yj Tryz.func61 Z Tryz.ntmps61 Z ?_
 obtain ⟨o1, o2, o3, o4, o5, rfl, hd1, hd2, hd3, hd4, hd5⟩ := Cluster.op hx
 refine Q7 [(0, .agg [o1, .int .i64 x.graph.workers, .int .i64 x.graph.cap, o2, o3, o4, o5].toArray)] ⟨Z, trivial⟩ ?_
 have E : Ext w w := Ext.refl w
 refine Qf (Qh [false, true] Z Z (Yx Z Z (fun b1 w1 e1 s1 h1 => ?_)))
 have g_b1 : w.heap.size ≤ b1 := by have := E.size; omega
 have y_b1 := h1.lt
 replace E := E.trans e1
 have z1 := e1.size
 refine Qa (Qg Z) Z (Qd (Qf (Qh [true, true, true, true] Z Z (Qa (Qb Kd Z) Z (Qa (Qb fl34_1 Z) Z (Qa (Qi Yk Z (h1.one 1 Z)) Z (Qa (Qg Z) Z (Qd (Qf (Qf (Qh [true, true, false, true, true, true, true, true, true, true, true, true, true, true, true, true, true, true, true, true, true, true, true, true, true, true] Z Z (Qa (Qb Kd Z) Z (Qa (Q1 X2 Z (h1.part 0 [o1, .int .i64 x.graph.workers, .int .i64 x.graph.cap] Z) Z) Z (Q0 Tryz.call63 Z (c_GraphOk [o1, .int .i64 x.graph.workers, .int .i64 x.graph.cap] x.graph _ (Graph.mkR x.graph (RdD.any (hd1.ext E)))) Z (fun _ w2 e2 hv => ?_)))))))))))))))
 subst hv
 replace E := E.trans e2; replace h1 := h1.ext e2
 have z2 := e2.size
 refine Qa (Yn Z) Z (Qa (Qe Z) Z (Yz 21 [(0, .agg [o1, .int .i64 x.graph.workers, .int .i64 x.graph.cap, o2, o3, o4, o5].toArray), (1, .pointer (some ⟨b1, 0, none⟩)), (2, .bool false), (3, .int .i64 x.graph.workers), (12, .pointer (some ⟨b1, 0, none⟩)), (13, .pointer (some ⟨b1, 1, none⟩)), (14, .int .i64 x.graph.workers), (40, .bool ((((!(Xv x.graph)) || (((x.workers.length : Nat) : Int) != x.graph.workers)) || (((x.links.length : Nat) : Int) != (IntKind.i64.wrap (x.graph.workers * x.graph.workers)))) || (((x.tokens.length : Nat) : Int) != 4)))] (fun w' => w2 = w') ?_ ?_))
 ·refine Ym (gd := 19) Z Z (fun hg1 => ?_) (fun hg1 => ?_)
  ·refine Qc Z Z Z Z (Qc Z Z Z Z (Qc Z Z Z Z (Qc Z Z Z Z (Qc Z Z Z Z (Qa (Qr Z Z) Z (Qa (Qe Z) Z (Qc Z Z Z Z (Qc Z Z Z Z (Qc Z Z Z Z (Qc Z Z Z Z (Qc Z Z Z Z (Qc Z Z Z Z (Qc Z Z Z Z (Qa (Qr Z Z) Z (Qa (Qe Z) Z (Qc Z Z Z Z (Qc Z Z Z Z (Qc Z Z Z Z (Qc Z Z Z Z (Qa (Qr Z Z) Z (Qo ⟨Z, Z, Z, Z, Z, Z, Z, congrArg (fun b => some (Value.bool b)) (show true = ((((!(Xv x.graph)) || (((x.workers.length : Nat) : Int) != x.graph.workers)) || (((x.links.length : Nat) : Int) != (IntKind.i64.wrap (x.graph.workers * x.graph.workers)))) || (((x.tokens.length : Nat) : Int) != 4)) by first | (rw [hg1] <;> rfl) | (simp [hg1]; done) | (simp only [Qn] <;> simp)), trivial⟩ Z)))))))))))))))))))))
  ·refine Qk Z Z (Qb Xk Z) Z (Qk Z Z (Qi sc35 Z (h1.one 3 Z)) Z (Qk Z Z (Q4 Tryz.underlying35 Z (hd2.ext E).len) Z (Qk Z Z (Qe Z) Z (Qk Z Z (Yr Z Z) Z (Qa (Qs Z Z) Z (Qa (Qe Z) Z ?_))))))
   refine Ym (gd := 26) Z Z (fun hg2 => ?_) (fun hg2 => ?_)
   ·refine Qc Z Z Z Z (Qc Z Z Z Z (Qc Z Z Z Z (Qc Z Z Z Z (Qc Z Z Z Z (Qc Z Z Z Z (Qc Z Z Z Z (Qa (Qr Z Z) Z (Qa (Qe Z) Z (Qc Z Z Z Z (Qc Z Z Z Z (Qc Z Z Z Z (Qc Z Z Z Z (Qa (Qr Z Z) Z (Qo ⟨Z, Z, Z, Z, Z, Z, Z, congrArg (fun b => some (Value.bool b)) (show true = ((((!(Xv x.graph)) || (((x.workers.length : Nat) : Int) != x.graph.workers)) || (((x.links.length : Nat) : Int) != (IntKind.i64.wrap (x.graph.workers * x.graph.workers)))) || (((x.tokens.length : Nat) : Int) != 4)) by first | (rw [hg1, hg2] <;> rfl) | (simp [hg1, hg2]; done) | (simp only [Qn] <;> simp)), trivial⟩ Z))))))))))))))
   ·refine Qk Z Z (Qb X1 Z) Z (Qk Z Z (Qi sc36 Z (h1.one 4 Z)) Z (Qk Z Z (Q4 Tryz.underlying36 Z (hd3.ext E).len) Z (Qk Z Z (Qe Z) Z (Qk Z Z (Qe Z) Z (Qk Z Z (R_mul Z Z Z) Z (Qk Z Z (Yr Z Z) Z (Qa (Qs Z Z) Z (Qa (Qe Z) Z ?_))))))))
    refine Ym (gd := 35) Z Z (fun hg3 => ?_) (fun hg3 => ?_)
    ·refine Qc Z Z Z Z (Qc Z Z Z Z (Qc Z Z Z Z (Qc Z Z Z Z (Qa (Qr Z Z) Z (Qo ⟨Z, Z, Z, Z, Z, Z, Z, congrArg (fun b => some (Value.bool b)) (show true = ((((!(Xv x.graph)) || (((x.workers.length : Nat) : Int) != x.graph.workers)) || (((x.links.length : Nat) : Int) != (IntKind.i64.wrap (x.graph.workers * x.graph.workers)))) || (((x.tokens.length : Nat) : Int) != 4)) by first | (rw [hg1, hg2, hg3] <;> rfl) | (simp [hg1, hg2, hg3]; done) | (simp only [Qn] <;> simp)), trivial⟩ Z)))))
    ·refine Qk Z Z (Qb Kj Z) Z (Qk Z Z (Qi sc37 Z (h1.one 5 Z)) Z (Qk Z Z (Q4 Tryz.underlying37 Z (hd4.ext E).len) Z (Qk Z Z (Yr Z Z) Z (Qa (Qs Z Z) Z (Qo ⟨Z, Z, Z, Z, Z, Z, Z, congrArg (fun b => some (Value.bool b)) (show (((x.tokens.length : Nat) : Int) != 4) = ((((!(Xv x.graph)) || (((x.workers.length : Nat) : Int) != x.graph.workers)) || (((x.links.length : Nat) : Int) != (IntKind.i64.wrap (x.graph.workers * x.graph.workers)))) || (((x.tokens.length : Nat) : Int) != 4)) by first | (rw [hg1, hg2, hg3] <;> rfl) | (simp [hg1, hg2, hg3]; done) | (simp only [Qn] <;> simp)), trivial⟩ Z)))))
 rintro _ rfl
 refine Qd (Qu Z (fun hc1 => ?_) (fun hc1 => ?_))
 ·refine Qf (Qh [true] Z Z (Qa (Qg Z) Z (Qd (Qw (Qm Z Z E ?_)))))
  exact cl_0 hc1
 ·have hgw := cl_g hc1
  have hlw := cl_w hc1
  refine Qp (Qf (Qf (Qh [true, true, true, true] Z Z (Qa (Qb Xk Z) Z (Qa (Qi sc35 Z (h1.one 3 Z)) Z (Qa (Q4 Tryz.underlying35 Z (hd2.ext E).len) Z (Qa (Qe Z) Z (Qd (Qy (Yh (fun (k : Nat) => [(1, .pointer (some ⟨b1, 0, none⟩)), (2, .bool false), (3, .int .i64 x.graph.workers), (42, o2), (43, .int .i64 ((x.workers.length : Nat) : Int)), (44, .int .i64 ((k : Nat) : Int))]) (fun (k : Nat) w' => Ext w w' ∧ w2.heap.size ≤ w'.heap.size ∧ Blk w' b1 ([o1, .int .i64 x.graph.workers, .int .i64 x.graph.cap, o2, o3, o4, o5]) ∧ k ≤ x.workers.length ∧ (x.workers.take k).all (Xe x.graph) = true) (fun (k : Nat) => x.workers.length - k) 0 ⟨Z, Z, Z, Z, Z, Z, trivial⟩ ⟨E, Nat.le_refl _, h1, Nat.zero_le _, Z⟩ ?_))))))))))
  clear E h1
  rintro k w4 ⟨E, z3, h1, hk, hI1⟩
  have hmw := hd2.1.1
  unfold maxLen at hmw
  refine Qf (Qh [true] Z Z (Qa (Yb Z Z) Z (Qd (Qf (Qu Z (fun hc2 => ?_) (fun hc2 => ?_))))))
  ·have hc2n : k < x.workers.length := by first | (have h := of_decide_eq_true hc2; omega) | (have h := hc2; simp at h; omega)
   refine Qp (Qf (Qy (Qf (Qh [true, true, false, false] Z Z ?_))))
   have hi1 : k < x.workers.length := (by first | assumption | omega | (simp only [List.length_set]; first | assumption | omega))
   obtain ⟨_, hr1, ha1⟩ := RdD.get hd2 hi1
   obtain ⟨o6, o7, o8, o9, o10, o11, o12, o13, rfl, hd6, hd7, hd8, hd9, hd10, hd11, hd12, hd13⟩ := Worker.op hr1
   replace ha1 : At w (Xm o2) (Xl o2 + k * 8) [o6, o7, o8, o9, o10, o11, o12, o13] := ha1
   refine Qa (Qv (i := k) Kf Z Z (hd2.ext E).1 hi1) Z (Qa (Q1 Xt Z (ha1.ext E) Z) Z (Yu Xt Z (fun b2 w5 e3 s2 h2 => ?_)))
   have g_b2 : w.heap.size ≤ b2 := by have := E.size; omega
   have y_b2 := h2.lt
   replace E := E.trans e3; replace h1 := h1.ext e3
   have z4 := e3.size
   refine Ya (cs' := [o6, o7, o8, o9, o10, o11, o12, o13]) Xt Z Z Z (Ql (RdD.one (hd6.ext E)) (Ql (RdD.one (hd7.ext E)) (Ql (RdD.one (hd8.ext E)) (Ql (RdD.one (hd9.ext E)) (Ql (RdD.one (hd10.ext E)) (Ql (RdD.one (hd11.ext E)) (Ql (RdD.one (hd12.ext E)) (Ql (RdD.one (hd13.ext E)) Z)))))))) h2 (Nat.le_of_ble_eq_true Z) Z (fun w6 m1 h2' => ?_)
   replace h2 := h2'
   replace E := E.step m1 (fun g hg => by cases hg; omega); replace h1 := h1.mod m1 (fun g hg => by cases hg; omega)
   have z5 := m1.size
   refine Qd (Qf (Qh [true, true, true, false, true] Z Z (Qa (Qb Kd Z) Z (Qa (Q1 X2 Z (h1.part 0 [o1, .int .i64 x.graph.workers, .int .i64 x.graph.cap] Z) Z) Z (Qa (Q1 Xt Z h2.at Z) Z (Q0 Tryz.call64 Z (c_WorkerOk [o1, .int .i64 x.graph.workers, .int .i64 x.graph.cap] x.graph [o6, o7, o8, o9, o10, o11, o12, o13] (x.workers[k]'hi1) _ (Graph.mkR x.graph (RdD.any (hd1.ext E))) (Worker.mkR (x.workers[k]'hi1) (RdD.any (hd6.ext E)) (RdD.any (hd7.ext E)) (RdD.any (hd8.ext E)) (RdD.any (hd9.ext E)) (RdD.any (hd10.ext E)) (RdD.any (hd11.ext E)) (RdD.any (hd12.ext E)) (RdD.any (hd13.ext E)))) Z (fun _ w7 e4 hv => ?_)))))))
   subst hv
   replace E := E.trans e4; replace h1 := h1.ext e4; replace h2 := h2.ext e4
   have z6 := e4.size
   refine Qa (Yn Z) Z (Qd (Qu Z (fun hc3 => ?_) (fun hc3 => ?_)))
   ·refine Qf (Qh [true] Z Z (Qa (Qg Z) Z (Qd (Qw (Qx (Yg (Qx (Qm Z Z E ?_))))))))
    exact cl_1 (by assumption) (by simpa using hc3)
   ·refine Qp (Q5 (Yt (Qh [true, true] Z Z (Qa (Q8 Z Z (Yc (by unfold maxLen; omega))) Z (Qa (Qe Z) Z (Qd (Q5 (Q9 (k + 1) (by omega) ⟨Z, Z, Z, Z, Z, Z, trivial⟩ ⟨E, (by omega), h1, (by omega), Y4 hI1 (by assumption) (by simpa using hc3)⟩))))))))
  ·have hc2n : ¬ k < x.workers.length := by first | (have h := of_decide_eq_false hc2; omega) | (have h := hc2; simp at h; omega)
   refine Yi (Q3 (Q2 ?_))
   refine Qf (Qf (Qh [true, true, true, true] Z Z (Qa (Qb X1 Z) Z (Qa (Qi sc36 Z (h1.one 4 Z)) Z (Qa (Q4 Tryz.underlying36 Z (hd3.ext E).len) Z (Qa (Qe Z) Z (Qd (Qy (Yh (fun (k : Nat) => [(1, .pointer (some ⟨b1, 0, none⟩)), (2, .bool false), (3, .int .i64 x.graph.workers), (55, o3), (56, .int .i64 ((x.links.length : Nat) : Int)), (57, .int .i64 ((k : Nat) : Int))]) (fun (k : Nat) w' => Ext w w' ∧ w4.heap.size ≤ w'.heap.size ∧ Blk w' b1 ([o1, .int .i64 x.graph.workers, .int .i64 x.graph.cap, o2, o3, o4, o5]) ∧ k ≤ x.links.length ∧ allR k (fun j => !lkBad x.graph j (List.getD x.links j default)) = true) (fun (k : Nat) => x.links.length - k) 0 ⟨Z, Z, Z, Z, Z, Z, trivial⟩ ⟨E, Nat.le_refl _, h1, Nat.zero_le _, Z⟩ ?_)))))))))
   clear E h1
   rintro k w8 ⟨E, z7, h1, hk, hI2⟩
   have hml := hd3.1.1
   unfold maxLen at hml
   refine Qf (Qh [true] Z Z (Qa (Yb Z Z) Z (Qd (Qf (Qu Z (fun hc4 => ?_) (fun hc4 => ?_))))))
   ·have hc4n : k < x.links.length := by first | (have h := of_decide_eq_true hc4; omega) | (have h := hc4; simp at h; omega)
    refine Qp (Qf (Qy (Qf (Qh [true, true, true, false, true, false] Z Z (Qa (Qe Z) Z ?_)))))
    have hi2 : k < x.links.length := (by first | assumption | omega | (simp only [List.length_set]; first | assumption | omega))
    obtain ⟨_, hr2, ha2⟩ := RdD.get hd3 hi2
    obtain ⟨o14, rfl, hd14⟩ := Link.op hr2
    replace ha2 : At w (Xm o3) (Xl o3 + k * 6) [.int .i64 ((x.links[k]'hi2).cap), o14, .int .i64 ((x.links[k]'hi2).credits), .int .i64 ((x.links[k]'hi2).back), .int .i64 ((x.links[k]'hi2).sent), .int .i64 ((x.links[k]'hi2).got)] := ha2
    refine Qa (Qv (i := k) sl36 Z Z (hd3.ext E).1 hi2) Z (Qa (Q1 st88 Z (ha2.ext E) Z) Z (Yu st88 Z (fun b3 w9 e5 s3 h3 => ?_)))
    have g_b3 : w.heap.size ≤ b3 := by have := E.size; omega
    have y_b3 := h3.lt
    replace E := E.trans e5; replace h1 := h1.ext e5
    have z8 := e5.size
    refine Qa (Qg Z) Z (Ya (cs' := [.int .i64 ((x.links[k]'hi2).cap), o14, .int .i64 ((x.links[k]'hi2).credits), .int .i64 ((x.links[k]'hi2).back), .int .i64 ((x.links[k]'hi2).sent), .int .i64 ((x.links[k]'hi2).got)]) st88 Z Z Z (Ql Z (Ql (RdD.one (hd14.ext E)) (Ql Z (Ql Z (Ql Z (Ql Z Z)))))) h3 (Nat.le_of_ble_eq_true Z) Z (fun w10 m2 h3' => ?_))
    replace h3 := h3'
    replace E := E.step m2 (fun g hg => by cases hg; omega); replace h1 := h1.mod m2 (fun g hg => by cases hg; omega)
    have z9 := m2.size
    refine Qd (Qf (Y7 Y8 [(0, true), (1, false), (2, true), (3, true), (4, true), (5, true), (6, true), (7, true), (8, true), (9, true), (10, true), (11, true), (12, true), (13, true), (14, true), (15, true), (16, false), (17, true), (18, true), (19, true), (20, true), (21, true), (22, true), (23, true), (24, true), (25, true), (26, true), (27, true), (28, true), (29, true), (30, true), (31, true), (32, true), (33, true)] (by decide +kernel) Z (fun w11 e6 => ?_)))
    replace E := E.trans e6; replace h1 := h1.ext e6; replace h3 := h3.ext e6
    have z10 := e6.size
    refine Qa (Q1 st88 Z h3.at Z) Z (Q0 Tryz.call85 Z (c_LinkOk [.int .i64 ((x.links[k]'hi2).cap), o14, .int .i64 ((x.links[k]'hi2).credits), .int .i64 ((x.links[k]'hi2).back), .int .i64 ((x.links[k]'hi2).sent), .int .i64 ((x.links[k]'hi2).got)] (x.links[k]'hi2) _ (Link.mkR (x.links[k]'hi2) (RdD.any (hd14.ext E))) (hok _ (List.getElem_mem _))) Z (fun _ w12 e7 hv => ?_))
    subst hv
    replace E := E.trans e7; replace h1 := h1.ext e7; replace h3 := h3.ext e7
    have z11 := e7.size
    refine Qa (Yn Z) Z (Qa (Qe Z) Z (Yz 30 [(1, .pointer (some ⟨b1, 0, none⟩)), (2, .bool false), (3, .int .i64 x.graph.workers), (6, .int .i64 ((k : Nat) : Int)), (7, .pointer (some ⟨b3, 0, none⟩)), (55, o3), (56, .int .i64 ((x.links.length : Nat) : Int)), (57, .int .i64 ((k : Nat) : Int)), (58, .bool (decide (((k : Nat) : Int) < ((x.links.length : Nat) : Int)))), (59, .int .i64 ((k : Nat) : Int)), (60, .pointer (some ⟨Xm o3, Xl o3 + k * 6, none⟩)), (61, .agg [.int .i64 ((x.links[k]'hi2).cap), o14, .int .i64 ((x.links[k]'hi2).credits), .int .i64 ((x.links[k]'hi2).back), .int .i64 ((x.links[k]'hi2).sent), .int .i64 ((x.links[k]'hi2).got)].toArray), (95, .bool ((((!(linkOk (x.links[k]'hi2))) || (((x.links[k]'hi2).cap) != x.graph.cap)) || (!(((x.links[k]'hi2).queue).all (Xg x.graph)))) || (((IntKind.i64.wrap (Int.tdiv ((k : Nat) : Int) x.graph.workers)) == (Int.tmod ((k : Nat) : Int) x.graph.workers)) && (decide (0 < ((((x.links[k]'hi2).queue).length : Nat) : Int))))))] (fun w' => Ext w w' ∧ w12.heap.size ≤ w'.heap.size ∧ Blk w' b1 ([o1, .int .i64 x.graph.workers, .int .i64 x.graph.cap, o2, o3, o4, o5]) ∧ Blk w' b3 [.int .i64 ((x.links[k]'hi2).cap), o14, .int .i64 ((x.links[k]'hi2).credits), .int .i64 ((x.links[k]'hi2).back), .int .i64 ((x.links[k]'hi2).sent), .int .i64 ((x.links[k]'hi2).got)]) ?_ ?_))
    ·refine Ym (gd := 65) Z Z (fun hg4 => ?_) (fun hg4 => ?_)
     ·refine Qc Z Z Z Z (Qc Z Z Z Z (Qc Z Z Z Z (Qc Z Z Z Z (Qc Z Z Z Z (Qc Z Z Z Z (Qa (Qr Z Z) Z (Qa (Qe Z) Z (Qc Z Z Z Z (Qc Z Z Z Z (Qc Z Z Z Z (Qc Z Z Z Z ?_)))))))))))
      refine Yv Z Z Z Z ?_
      refine Qc Z Z Z Z (Qa (Qr Z Z) Z (Qa (Qe Z) Z (Qc Z Z Z Z (Qc Z Z Z Z (Qc Z Z Z Z (Qc Z Z Z Z (Qc Z Z Z Z (Qc Z Z Z Z (Qc Z Z Z Z (Qc Z Z Z Z (Qt Z Z Z (Qt Z Z Z (Qt Z Z Z (Qt Z Z Z (Qc Z Z Z Z (Qa (Qr Z Z) Z (Qo ⟨Z, Z, Z, Z, Z, Z, Z, Z, Z, Z, Z, Z, congrArg (fun b => some (Value.bool b)) (show true = ((((!(linkOk (x.links[k]'hi2))) || (((x.links[k]'hi2).cap) != x.graph.cap)) || (!(((x.links[k]'hi2).queue).all (Xg x.graph)))) || (((IntKind.i64.wrap (Int.tdiv ((k : Nat) : Int) x.graph.workers)) == (Int.tmod ((k : Nat) : Int) x.graph.workers)) && (decide (0 < ((((x.links[k]'hi2).queue).length : Nat) : Int))))) by first | (rw [hg4] <;> rfl) | (simp [hg4]; done) | (simp only [Qn] <;> simp)), trivial⟩ ⟨E, (by omega), h1, h3⟩)))))))))))))))))
     ·refine Qk Z Z (Qb fl88_0 Z) Z (Qk Z Z (Qi Yk Z (h3.one 0 Z)) Z (Qk Z Z (Qb Kd Z) Z (Qk Z Z (Qb fl34_2 Z) Z (Qk Z Z (Qi Yk Z (h1.one 2 Z)) Z (Qk Z Z (Yr Z Z) Z (Qa (Qs Z Z) Z (Qa (Qe Z) Z ?_)))))))
      refine Ym (gd := 73) Z Z (fun hg5 => ?_) (fun hg5 => ?_)
      ·refine Qc Z Z Z Z (Qc Z Z Z Z (Qc Z Z Z Z (Qc Z Z Z Z ?_)))
       refine Yv Z Z Z Z ?_
       refine Qc Z Z Z Z (Qa (Qr Z Z) Z (Qa (Qe Z) Z (Qc Z Z Z Z (Qc Z Z Z Z (Qc Z Z Z Z (Qc Z Z Z Z (Qc Z Z Z Z (Qc Z Z Z Z (Qc Z Z Z Z (Qc Z Z Z Z (Qt Z Z Z (Qt Z Z Z (Qt Z Z Z (Qt Z Z Z (Qc Z Z Z Z (Qa (Qr Z Z) Z (Qo ⟨Z, Z, Z, Z, Z, Z, Z, Z, Z, Z, Z, Z, congrArg (fun b => some (Value.bool b)) (show true = ((((!(linkOk (x.links[k]'hi2))) || (((x.links[k]'hi2).cap) != x.graph.cap)) || (!(((x.links[k]'hi2).queue).all (Xg x.graph)))) || (((IntKind.i64.wrap (Int.tdiv ((k : Nat) : Int) x.graph.workers)) == (Int.tmod ((k : Nat) : Int) x.graph.workers)) && (decide (0 < ((((x.links[k]'hi2).queue).length : Nat) : Int))))) by first | (rw [hg4, hg5] <;> rfl) | (simp [hg4, hg5]; done) | (simp only [Qn] <;> simp)), trivial⟩ ⟨E, (by omega), h1, h3⟩)))))))))))))))))
      ·refine Qk Z Z (Qb Kd Z) Z (Qk Z Z (Q1 X2 Z (h1.part 0 [o1, .int .i64 x.graph.workers, .int .i64 x.graph.cap] Z) Z) Z (Qk Z Z (Qb X5 Z) Z (Qk Z Z (Qi Xa Z (h3.one 1 Z)) Z ?_)))
       refine Xf Z Z ?_
       refine Q0 Tryz.call109 Z (c_opsOk [o1, .int .i64 x.graph.workers, .int .i64 x.graph.cap] x.graph o14 ((x.links[k]'hi2).queue) _ (Graph.mkR x.graph (RdD.any (hd1.ext E))) (hd14.rd.ext E)) Z (fun _ w14 e8 hv => ?_)
       subst hv
       replace E := E.trans e8; replace h1 := h1.ext e8; replace h3 := h3.ext e8
       have z12 := e8.size
       refine Qk Z Z (Yn Z) Z (Qa (Qs Z Z) Z (Qa (Qe Z) Z ?_))
       refine Ym (gd := 81) Z Z (fun hg6 => ?_) (fun hg6 => ?_)
       ·refine Qc Z Z Z Z (Qc Z Z Z Z (Qc Z Z Z Z (Qc Z Z Z Z (Qc Z Z Z Z (Qc Z Z Z Z (Qc Z Z Z Z (Qc Z Z Z Z (Qt Z Z Z (Qt Z Z Z (Qt Z Z Z (Qt Z Z Z (Qc Z Z Z Z (Qa (Qr Z Z) Z (Qo ⟨Z, Z, Z, Z, Z, Z, Z, Z, Z, Z, Z, Z, congrArg (fun b => some (Value.bool b)) (show true = ((((!(linkOk (x.links[k]'hi2))) || (((x.links[k]'hi2).cap) != x.graph.cap)) || (!(((x.links[k]'hi2).queue).all (Xg x.graph)))) || (((IntKind.i64.wrap (Int.tdiv ((k : Nat) : Int) x.graph.workers)) == (Int.tmod ((k : Nat) : Int) x.graph.workers)) && (decide (0 < ((((x.links[k]'hi2).queue).length : Nat) : Int))))) by first | (rw [hg4, hg5, hg6] <;> rfl) | (simp [hg4, hg5, hg6]; done) | (simp only [Qn] <;> simp)), trivial⟩ ⟨E, (by omega), h1, h3⟩))))))))))))))
       ·refine Qk Z Z (Qe Z) Z (Qk Z Z (Qe Z) Z (Qk Z Z (R_quo Z Z (by omega) Z) Z (Qk Z Z (Qe Z) Z (Qk Z Z (Qe Z) Z (Qk Z Z (R_rem Z Z (by omega) Z) Z (Qk Z Z (Yw Z Z) Z (Qk Z Z (Qe Z) Z ?_)))))))
        refine Ym (gd := 89) Z Z (fun hg7 => ?_) (fun hg7 => ?_)
        ·refine Qk Z Z (Qb X5 Z) Z (Qk Z Z (Qi Xa Z (h3.one 1 Z)) Z (Qk Z Z (Q4 Tryz.underlying66 Z (hd14.ext E).len) Z (Qk Z Z (Xc Z Z) Z (Qk Z Z (Qr Z Z) Z (Qa (Qs Z Z) Z (Qo ⟨Z, Z, Z, Z, Z, Z, Z, Z, Z, Z, Z, Z, congrArg (fun b => some (Value.bool b)) (show (decide (0 < ((((x.links[k]'hi2).queue).length : Nat) : Int))) = ((((!(linkOk (x.links[k]'hi2))) || (((x.links[k]'hi2).cap) != x.graph.cap)) || (!(((x.links[k]'hi2).queue).all (Xg x.graph)))) || (((IntKind.i64.wrap (Int.tdiv ((k : Nat) : Int) x.graph.workers)) == (Int.tmod ((k : Nat) : Int) x.graph.workers)) && (decide (0 < ((((x.links[k]'hi2).queue).length : Nat) : Int))))) by first | (rw [hg4, hg5, hg6, hg7] <;> rfl) | (simp [hg4, hg5, hg6, hg7]; done) | (simp only [Qn] <;> simp)), trivial⟩ ⟨E, (by omega), h1, h3⟩))))))
        ·refine Qc Z Z Z Z (Qc Z Z Z Z (Qc Z Z Z Z (Qc Z Z Z Z (Qk Z Z (Qs Z Z) Z (Qa (Qs Z Z) Z (Qo ⟨Z, Z, Z, Z, Z, Z, Z, Z, Z, Z, Z, Z, congrArg (fun b => some (Value.bool b)) (show false = ((((!(linkOk (x.links[k]'hi2))) || (((x.links[k]'hi2).cap) != x.graph.cap)) || (!(((x.links[k]'hi2).queue).all (Xg x.graph)))) || (((IntKind.i64.wrap (Int.tdiv ((k : Nat) : Int) x.graph.workers)) == (Int.tmod ((k : Nat) : Int) x.graph.workers)) && (decide (0 < ((((x.links[k]'hi2).queue).length : Nat) : Int))))) by first | (rw [hg4, hg5, hg6, hg7] <;> rfl) | (simp [hg4, hg5, hg6, hg7]; done) | (simp only [Qn] <;> simp)), trivial⟩ ⟨E, (by omega), h1, h3⟩))))))
    clear E h1 h3
    rintro w13 ⟨E, z13, h1, h3⟩
    refine Qd (Qu Z (fun hc5 => ?_) (fun hc5 => ?_))
    ·refine Qf (Qh [true] Z Z (Qa (Qg Z) Z (Qd (Qw (Qx (Yg (Qx (Qm Z Z E ?_))))))))
     exact cl_2 (by assumption) hc5
    ·refine Qp (Q5 (Yt (Qh [true, true] Z Z (Qa (Q8 Z Z (Yc (by unfold maxLen; omega))) Z (Qa (Qe Z) Z (Qd (Q5 (Q9 (k + 1) (by omega) ⟨Z, Z, Z, Z, Z, Z, trivial⟩ ⟨E, (by omega), h1, (by omega), allR_s hI2 (lk_at (by assumption) hc5)⟩))))))))
   ·have hc4n : ¬ k < x.links.length := by first | (have h := of_decide_eq_false hc4; omega) | (have h := hc4; simp at h; omega)
    refine Yi (Q3 (Q2 ?_))
    refine Qf (Qf (Qh [true, true, true, true] Z Z (Qa (Qb Kj Z) Z (Qa (Qi sc37 Z (h1.one 5 Z)) Z (Qa (Q4 Tryz.underlying37 Z (hd4.ext E).len) Z (Qa (Qe Z) Z (Qd (Qy (Yh (fun (k : Nat) => [(1, .pointer (some ⟨b1, 0, none⟩)), (2, .bool false), (3, .int .i64 x.graph.workers), (98, o4), (99, .int .i64 ((x.tokens.length : Nat) : Int)), (100, .int .i64 ((k : Nat) : Int))]) (fun (k : Nat) w' => Ext w w' ∧ w8.heap.size ≤ w'.heap.size ∧ Blk w' b1 ([o1, .int .i64 x.graph.workers, .int .i64 x.graph.cap, o2, o3, o4, o5]) ∧ k ≤ x.tokens.length ∧ (x.tokens.take k).all (fun t => !tkBad x.graph t) = true) (fun (k : Nat) => x.tokens.length - k) 0 ⟨Z, Z, Z, Z, Z, Z, trivial⟩ ⟨E, Nat.le_refl _, h1, Nat.zero_le _, Z⟩ ?_)))))))))
    clear E h1
    rintro k w15 ⟨E, z14, h1, hk, hI3⟩
    have hmt := hd4.1.1
    unfold maxLen at hmt
    refine Qf (Qh [true] Z Z (Qa (Yb Z Z) Z (Qd (Qf (Qu Z (fun hc6 => ?_) (fun hc6 => ?_))))))
    ·have hc6n : k < x.tokens.length := by first | (have h := of_decide_eq_true hc6; omega) | (have h := hc6; simp at h; omega)
     refine Qp (Qf (Qy (Qf (Qh [true, true, false, false] Z Z ?_))))
     have hi3 : k < x.tokens.length := (by first | assumption | omega | (simp only [List.length_set]; first | assumption | omega))
     refine Qa (Qv (i := k) sl37 Z Z (hd4.rd.ext E) hi3) Z (Qa (Q1 st110 Z ((hd4.rd.ext E).get hi3) Z) Z (Yu st110 Z (fun b4 w16 e9 s4 h4 => ?_)))
     have g_b4 : w.heap.size ≤ b4 := by have := E.size; omega
     have y_b4 := h4.lt
     replace E := E.trans e9; replace h1 := h1.ext e9
     have z15 := e9.size
     refine Ya (cs' := [.bool ((x.tokens[k]'hi3).going), .int .i64 ((x.tokens[k]'hi3).place), .int .i64 ((x.tokens[k]'hi3).sum), .bool ((x.tokens[k]'hi3).black), .bool ((x.tokens[k]'hi3).capped)]) st110 Z Z Z Z h4 (Nat.le_of_ble_eq_true Z) Z (fun w17 m3 h4' => ?_)
     replace h4 := h4'
     replace E := E.step m3 (fun g hg => by cases hg; omega); replace h1 := h1.mod m3 (fun g hg => by cases hg; omega)
     have z16 := m3.size
     refine Qd (Qf (Qh [true, true, true, true, false, true, true, true, true, true, true, true, true, true, true, true, true, true, true, false, true, true] Z Z (Qa (Qb fl110_1 Z) Z (Qa (Qi Yk Z (h4.one 1 Z)) Z (Qa (Qe Z) Z (Qa (Ka Z Z Z) Z (Q0 Tryz.call62 Z (c_within ((x.tokens[k]'hi3).place) 0 (IntKind.i64.wrap (x.graph.workers - 1)) _ ) Z (fun _ w18 e10 hv => ?_))))))))
     subst hv
     replace E := E.trans e10; replace h1 := h1.ext e10; replace h4 := h4.ext e10
     have z17 := e10.size
     refine Qa (Yn Z) Z (Qa (Qe Z) Z (Yz 15 [(1, .pointer (some ⟨b1, 0, none⟩)), (2, .bool false), (3, .int .i64 x.graph.workers), (9, .pointer (some ⟨b4, 0, none⟩)), (98, o4), (99, .int .i64 ((x.tokens.length : Nat) : Int)), (100, .int .i64 ((k : Nat) : Int)), (101, .bool (decide (((k : Nat) : Int) < ((x.tokens.length : Nat) : Int)))), (102, .pointer (some ⟨Xm o4, Xl o4 + k * 5, none⟩)), (103, .agg (Enc.enc (x.tokens[k]'hi3)).toArray), (125, .bool (((!(Yo ((x.tokens[k]'hi3).place) 0 (IntKind.i64.wrap (x.graph.workers - 1)))) || ((!((x.tokens[k]'hi3).going)) && (((x.tokens[k]'hi3).place) != 0))) || (!(Yo ((x.tokens[k]'hi3).sum) (-1000000) 1000000))))] (fun w' => Ext w w' ∧ w18.heap.size ≤ w'.heap.size ∧ Blk w' b1 ([o1, .int .i64 x.graph.workers, .int .i64 x.graph.cap, o2, o3, o4, o5]) ∧ Blk w' b4 [.bool ((x.tokens[k]'hi3).going), .int .i64 ((x.tokens[k]'hi3).place), .int .i64 ((x.tokens[k]'hi3).sum), .bool ((x.tokens[k]'hi3).black), .bool ((x.tokens[k]'hi3).capped)]) ?_ ?_))
     ·refine Ym (gd := 110) Z Z (fun hg8 => ?_) (fun hg8 => ?_)
      ·refine Qc Z Z Z Z (Qc Z Z Z Z (Qc Z Z Z Z (Qc Z Z Z Z (Qt Z Z Z (Qt Z Z Z (Qt Z Z Z (Qc Z Z Z Z (Qa (Qr Z Z) Z (Qa (Qe Z) Z (Qc Z Z Z Z (Qc Z Z Z Z ?_)))))))))))
       refine Yv Z Z Z Z ?_
       refine Qc Z Z Z Z (Qa (Qr Z Z) Z (Qo ⟨Z, Z, Z, Z, Z, Z, Z, Z, Z, Z, congrArg (fun b => some (Value.bool b)) (show true = (((!(Yo ((x.tokens[k]'hi3).place) 0 (IntKind.i64.wrap (x.graph.workers - 1)))) || ((!((x.tokens[k]'hi3).going)) && (((x.tokens[k]'hi3).place) != 0))) || (!(Yo ((x.tokens[k]'hi3).sum) (-1000000) 1000000))) by first | (rw [hg8] <;> rfl) | (simp [hg8]; done) | (simp only [Qn] <;> simp)), trivial⟩ ⟨E, (by omega), h1, h4⟩))
      ·refine Qk Z Z (Qb fl110_0 Z) Z (Qk Z Z (Qi sc4 Z (h4.one 0 Z)) Z (Qk Z Z (Yn Z) Z (Qk Z Z (Qe Z) Z ?_)))
       refine Ym (gd := 114) Z Z (fun hg9 => ?_) (fun hg9 => ?_)
       ·refine Qk Z Z (Qb fl110_1 Z) Z (Qk Z Z (Qi Yk Z (h4.one 1 Z)) Z (Qk Z Z (Yr Z Z) Z (Qk Z Z (Qr Z Z) Z (Qa (Qs Z Z) Z (Qa (Qe Z) Z ?_)))))
        refine Ym (gd := 120) Z Z (fun hg10 => ?_) (fun hg10 => ?_)
        ·refine Qc Z Z Z Z (Qc Z Z Z Z ?_)
         refine Yv Z Z Z Z ?_
         refine Qc Z Z Z Z (Qa (Qr Z Z) Z (Qo ⟨Z, Z, Z, Z, Z, Z, Z, Z, Z, Z, congrArg (fun b => some (Value.bool b)) (show true = (((!(Yo ((x.tokens[k]'hi3).place) 0 (IntKind.i64.wrap (x.graph.workers - 1)))) || ((!((x.tokens[k]'hi3).going)) && (((x.tokens[k]'hi3).place) != 0))) || (!(Yo ((x.tokens[k]'hi3).sum) (-1000000) 1000000))) by first | (rw [hg8, hg9, hg10] <;> rfl) | (simp [hg8, hg9, hg10]; done) | (simp only [Qn] <;> simp)), trivial⟩ ⟨E, (by omega), h1, h4⟩))
        ·refine Qk Z Z (Qb fl110_2 Z) Z (Qk Z Z (Qi Yk Z (h4.one 2 Z)) Z ?_)
         refine Xf Z Z ?_
         refine Q0 Tryz.call62 Z (c_within ((x.tokens[k]'hi3).sum) (-1000000) 1000000 _ ) Z (fun _ w20 e11 hv => ?_)
         subst hv
         replace E := E.trans e11; replace h1 := h1.ext e11; replace h4 := h4.ext e11
         have z18 := e11.size
         refine Qk Z Z (Yn Z) Z (Qa (Qs Z Z) Z (Qo ⟨Z, Z, Z, Z, Z, Z, Z, Z, Z, Z, congrArg (fun b => some (Value.bool b)) (show (!(Yo ((x.tokens[k]'hi3).sum) (-1000000) 1000000)) = (((!(Yo ((x.tokens[k]'hi3).place) 0 (IntKind.i64.wrap (x.graph.workers - 1)))) || ((!((x.tokens[k]'hi3).going)) && (((x.tokens[k]'hi3).place) != 0))) || (!(Yo ((x.tokens[k]'hi3).sum) (-1000000) 1000000))) by first | (rw [hg8, hg9, hg10] <;> rfl) | (simp [hg8, hg9, hg10]; done) | (simp only [Qn] <;> simp)), trivial⟩ ⟨E, (by omega), h1, h4⟩))
       ·refine Qc Z Z Z Z (Qc Z Z Z Z (Qc Z Z Z Z (Qk Z Z (Qs Z Z) Z (Qa (Qs Z Z) Z (Qa (Qe Z) Z (Qk Z Z (Qb fl110_2 Z) Z (Qk Z Z (Qi Yk Z (h4.one 2 Z)) Z ?_)))))))
        refine Xf Z Z ?_
        refine Q0 Tryz.call62 Z (c_within ((x.tokens[k]'hi3).sum) (-1000000) 1000000 _ ) Z (fun _ w21 e12 hv => ?_)
        subst hv
        replace E := E.trans e12; replace h1 := h1.ext e12; replace h4 := h4.ext e12
        have z19 := e12.size
        refine Qk Z Z (Yn Z) Z (Qa (Qs Z Z) Z (Qo ⟨Z, Z, Z, Z, Z, Z, Z, Z, Z, Z, congrArg (fun b => some (Value.bool b)) (show (!(Yo ((x.tokens[k]'hi3).sum) (-1000000) 1000000)) = (((!(Yo ((x.tokens[k]'hi3).place) 0 (IntKind.i64.wrap (x.graph.workers - 1)))) || ((!((x.tokens[k]'hi3).going)) && (((x.tokens[k]'hi3).place) != 0))) || (!(Yo ((x.tokens[k]'hi3).sum) (-1000000) 1000000))) by first | (rw [hg8, hg9] <;> rfl) | (simp [hg8, hg9]; done) | (simp only [Qn] <;> simp)), trivial⟩ ⟨E, (by omega), h1, h4⟩))
     clear E h1 h4
     rintro w19 ⟨E, z20, h1, h4⟩
     refine Qd (Qu Z (fun hc7 => ?_) (fun hc7 => ?_))
     ·refine Qf (Qh [true] Z Z (Qa (Qg Z) Z (Qd (Qw (Qx (Yg (Qx (Qm Z Z E ?_))))))))
      exact cl_3 (by assumption) hc7
     ·refine Qp (Q5 (Yt (Qh [true, true] Z Z (Qa (Q8 Z Z (Yc (by unfold maxLen; omega))) Z (Qa (Qe Z) Z (Qd (Q5 (Q9 (k + 1) (by omega) ⟨Z, Z, Z, Z, Z, Z, trivial⟩ ⟨E, (by omega), h1, (by omega), Y4 hI3 (by assumption) (nb hc7)⟩))))))))
    ·have hc6n : ¬ k < x.tokens.length := by first | (have h := of_decide_eq_false hc6; omega) | (have h := hc6; simp at h; omega)
     refine Yi (Q3 (Q2 ?_))
     refine Qf (Qf (Qh [true, true, true, true] Z Z (Qa (Qb fl40_4 Z) Z (Qa (Qi sc38 Z (h1.one 6 Z)) Z (Qa (Q4 Tryz.underlying38 Z (hd5.ext E).len) Z (Qa (Qe Z) Z (Qd (Qy (Yh (fun (k : Nat) => [(2, .bool false), (3, .int .i64 x.graph.workers), (128, o5), (129, .int .i64 ((x.news.length : Nat) : Int)), (130, .int .i64 ((k : Nat) : Int))]) (fun (k : Nat) w' => Ext w w' ∧ w15.heap.size ≤ w'.heap.size ∧ Blk w' b1 ([o1, .int .i64 x.graph.workers, .int .i64 x.graph.cap, o2, o3, o4, o5]) ∧ k ≤ x.news.length ∧ (x.news.take k).all (fun t => !nwBad x.graph t) = true) (fun (k : Nat) => x.news.length - k) 0 ⟨Z, Z, Z, Z, Z, trivial⟩ ⟨E, Nat.le_refl _, h1, Nat.zero_le _, Z⟩ ?_)))))))))
     clear E h1
     rintro k w22 ⟨E, z21, h1, hk, hI4⟩
     have hmn := hd5.1.1
     unfold maxLen at hmn
     refine Qf (Qh [true] Z Z (Qa (Yb Z Z) Z (Qd (Qf (Qu Z (fun hc8 => ?_) (fun hc8 => ?_))))))
     ·have hc8n : k < x.news.length := by first | (have h := of_decide_eq_true hc8; omega) | (have h := hc8; simp at h; omega)
      refine Qp (Qf (Qy (Qf (Qh [true, true, false, false] Z Z ?_))))
      have hi4 : k < x.news.length := (by first | assumption | omega | (simp only [List.length_set]; first | assumption | omega))
      refine Qa (Qv (i := k) sl38 Z Z (hd5.rd.ext E) hi4) Z (Qa (Q1 st114 Z ((hd5.rd.ext E).get hi4) Z) Z (Yu st114 Z (fun b5 w23 e13 s5 h5 => ?_)))
      have g_b5 : w.heap.size ≤ b5 := by have := E.size; omega
      have y_b5 := h5.lt
      replace E := E.trans e13; replace h1 := h1.ext e13
      have z22 := e13.size
      refine Ya (cs' := [.int .i64 ((x.news[k]'hi4).dest), .int .i64 ((x.news[k]'hi4).epoch), .bool ((x.news[k]'hi4).capped)]) st114 Z Z Z Z h5 (Nat.le_of_ble_eq_true Z) Z (fun w24 m4 h5' => ?_)
      replace h5 := h5'
      replace E := E.step m4 (fun g hg => by cases hg; omega); replace h1 := h1.mod m4 (fun g hg => by cases hg; omega)
      have z23 := m4.size
      refine Qd (Qf (Qh [true, true, true, true, false, true, true, true, true, false, true, true] Z Z (Qa (Qb fl114_0 Z) Z (Qa (Qi Yk Z (h5.one 0 Z)) Z (Qa (Qe Z) Z (Qa (Ka Z Z Z) Z (Q0 Tryz.call62 Z (c_within ((x.news[k]'hi4).dest) 0 (IntKind.i64.wrap (x.graph.workers - 1)) _ ) Z (fun _ w25 e14 hv => ?_))))))))
      subst hv
      replace E := E.trans e14; replace h1 := h1.ext e14; replace h5 := h5.ext e14
      have z24 := e14.size
      refine Qa (Yn Z) Z (Qa (Qe Z) Z (Yz 5 [(2, .bool false), (3, .int .i64 x.graph.workers), (11, .pointer (some ⟨b5, 0, none⟩)), (128, o5), (129, .int .i64 ((x.news.length : Nat) : Int)), (130, .int .i64 ((k : Nat) : Int)), (131, .bool (decide (((k : Nat) : Int) < ((x.news.length : Nat) : Int)))), (132, .pointer (some ⟨Xm o5, Xl o5 + k * 3, none⟩)), (133, .agg (Enc.enc (x.news[k]'hi4)).toArray), (145, .bool ((!(Yo ((x.news[k]'hi4).dest) 0 (IntKind.i64.wrap (x.graph.workers - 1)))) || (!(Yo ((x.news[k]'hi4).epoch) 0 3))))] (fun w' => Ext w w' ∧ w25.heap.size ≤ w'.heap.size ∧ Blk w' b1 ([o1, .int .i64 x.graph.workers, .int .i64 x.graph.cap, o2, o3, o4, o5]) ∧ Blk w' b5 [.int .i64 ((x.news[k]'hi4).dest), .int .i64 ((x.news[k]'hi4).epoch), .bool ((x.news[k]'hi4).capped)]) ?_ ?_))
      ·refine Ym (gd := 140) Z Z (fun hg11 => ?_) (fun hg11 => ?_)
       ·refine Qc Z Z Z Z (Qc Z Z Z Z ?_)
        refine Yv Z Z Z Z ?_
        refine Qc Z Z Z Z (Qa (Qr Z Z) Z (Qo ⟨Z, Z, Z, Z, Z, Z, Z, Z, Z, congrArg (fun b => some (Value.bool b)) (show true = ((!(Yo ((x.news[k]'hi4).dest) 0 (IntKind.i64.wrap (x.graph.workers - 1)))) || (!(Yo ((x.news[k]'hi4).epoch) 0 3))) by first | (rw [hg11] <;> rfl) | (simp [hg11]; done) | (simp only [Qn] <;> simp)), trivial⟩ ⟨E, (by omega), h1, h5⟩))
       ·refine Qk Z Z (Qb fl114_1 Z) Z (Qk Z Z (Qi Yk Z (h5.one 1 Z)) Z ?_)
        refine Xf Z Z ?_
        refine Q0 Tryz.call62 Z (c_within ((x.news[k]'hi4).epoch) 0 3 _ ) Z (fun _ w27 e15 hv => ?_)
        subst hv
        replace E := E.trans e15; replace h1 := h1.ext e15; replace h5 := h5.ext e15
        have z25 := e15.size
        refine Qk Z Z (Yn Z) Z (Qa (Qs Z Z) Z (Qo ⟨Z, Z, Z, Z, Z, Z, Z, Z, Z, congrArg (fun b => some (Value.bool b)) (show (!(Yo ((x.news[k]'hi4).epoch) 0 3)) = ((!(Yo ((x.news[k]'hi4).dest) 0 (IntKind.i64.wrap (x.graph.workers - 1)))) || (!(Yo ((x.news[k]'hi4).epoch) 0 3))) by first | (rw [hg11] <;> rfl) | (simp [hg11]; done) | (simp only [Qn] <;> simp)), trivial⟩ ⟨E, (by omega), h1, h5⟩))
      clear E h1 h5
      rintro w26 ⟨E, z26, h1, h5⟩
      refine Qd (Qu Z (fun hc9 => ?_) (fun hc9 => ?_))
      ·refine Qf (Qh [true] Z Z (Qa (Qg Z) Z (Qd (Qw (Qx (Yg (Qx (Qm Z Z E ?_))))))))
       exact cl_4 (by assumption) hc9
      ·refine Qp (Q5 (Yt (Qh [true, true] Z Z (Qa (Q8 Z Z (Yc (by unfold maxLen; omega))) Z (Qa (Qe Z) Z (Qd (Q5 (Q9 (k + 1) (by omega) ⟨Z, Z, Z, Z, Z, trivial⟩ ⟨E, (by omega), h1, (by omega), Y4 hI4 (by assumption) (nb hc9)⟩))))))))
     ·have hc8n : ¬ k < x.news.length := by first | (have h := of_decide_eq_false hc8; omega) | (have h := hc8; simp at h; omega)
      refine Yi (Q3 (Q2 ?_))
      refine Qf (Qh [true] Z Z (Qa (Qg Z) Z (Qd (Qw (Qm Z Z E ?_)))))
      exact cl_5 hc1 (all_end hI1 (by omega)) (allR_le hI2 (by omega)) (all_end hI3 (by omega)) (all_end hI4 (by omega))

set_option maxHeartbeats 4000000 in
set_option maxRecDepth 20000 in
theorem c_TakeInput (cg : List Value) (g : Graph) (cx : List Value) (x : Worker) (w : World) (hg : Dat.R w 0 w.heap.size cg g) (hx : Dat.R w 0 w.heap.size cx x) (hb : Yd x ≤ 1048576) : Ct Tryz.prog 28 [.agg cg.toArray, .agg cx.toArray] w (fun v w' => ∃ c0, v = .tuple [.agg c0.toArray, .bool ((takeM g x).2)].toArray ∧ Own1.O w' w.heap.size w'.heap.size c0 ((takeM g x).1)) := by
 refine Yj Tryz.func28 Z Tryz.ntmps28 Z ?_
 obtain ⟨o1, rfl, hd1⟩ := Graph.op hg
 obtain ⟨o2, o3, o4, o5, o6, o7, o8, o9, rfl, hd2, hd3, hd4, hd5, hd6, hd7, hd8, hd9⟩ := Worker.op hx
 refine Q7 [(0, .agg [o1, .int .i64 g.workers, .int .i64 g.cap].toArray), (1, .agg [o2, o3, o4, o5, o6, o7, o8, o9].toArray)] ⟨Z, Z, trivial⟩ ?_
 have E : Ext w w := Ext.refl w
 refine Qf (Qh [false, false, false, true] Z Z (Yx Z Z (fun b1 w1 e1 s1 h1 => ?_)))
 have g_b1 : w.heap.size ≤ b1 := by have := E.size; omega
 have y_b1 := h1.lt
 replace E := E.trans e1
 have z1 := e1.size
 refine Yx Z Z (fun b2 w2 e2 s2 h2 => ?_)
 have g_b2 : w.heap.size ≤ b2 := by have := E.size; omega
 have y_b2 := h2.lt
 replace E := E.trans e2; replace h1 := h1.ext e2
 have z2 := e2.size
 refine Yu Xt Z (fun b3 w3 e3 s3 h3 => ?_)
 have g_b3 : w.heap.size ≤ b3 := by have := E.size; omega
 have y_b3 := h3.lt
 replace E := E.trans e3; replace h1 := h1.ext e3; replace h2 := h2.ext e3
 have z3 := e3.size
 refine Qa (Qg Z) Z (Qd (Qf (Qh [true, false, false, false] Z Z (Qa (Q1 Xt Z h2.at Z) Z (Q0 Tryz.call59 Z (c_copyWorker [o2, o3, o4, o5, o6, o7, o8, o9] x _ (Worker.mkR x (RdD.any (hd2.ext E)) (RdD.any (hd3.ext E)) (RdD.any (hd4.ext E)) (RdD.any (hd5.ext E)) (RdD.any (hd6.ext E)) (RdD.any (hd7.ext E)) (RdD.any (hd8.ext E)) (RdD.any (hd9.ext E))) (by first | omega | (simp only [Qj]; omega) | (rw [Qj]; done) | (simp only [Qj]; done))) Z (fun _ w4 e4 ho1 => ?_))))))
 obtain ⟨_, rfl, ho1⟩ := ho1
 have g_ho1 : w.heap.size ≤ w3.heap.size := E.size
 replace E := E.trans e4; replace h1 := h1.ext e4; replace h2 := h2.ext e4; replace h3 := h3.ext e4
 have z4 := e4.size
 obtain ⟨o10, o11, o12, o13, o14, o15, o16, o17, rfl, sp1, hw1, hw2, hw3, hw4, hw5, hw6, hw7, hw8⟩ := Worker.opO ho1
 refine Yu Xt Z (fun b4 w5 e5 s4 h4 => ?_)
 have g_b4 : w.heap.size ≤ b4 := by have := E.size; omega
 have y_b4 := h4.lt
 replace E := E.trans e5; replace h1 := h1.ext e5; replace h2 := h2.ext e5; replace h3 := h3.ext e5; replace hw1 := hw1.ext e5; replace hw2 := hw2.ext e5; replace hw3 := hw3.ext e5; replace hw4 := hw4.ext e5; replace hw5 := hw5.ext e5; replace hw6 := hw6.ext e5; replace hw7 := hw7.ext e5; replace hw8 := hw8.ext e5
 have z5 := e5.size
 refine Ya (cs' := [o10, o11, o12, o13, o14, o15, o16, o17]) Xt Z Z Z (Ql hw1.one (Ql hw2.one (Ql hw3.one (Ql hw4.one (Ql hw5.one (Ql hw6.one (Ql hw7.one (Ql hw8.one Z)))))))) h4 (Nat.le_of_ble_eq_true Z) Z (fun w6 m1 h4' => ?_)
 replace h4 := h4'
 replace E := E.step m1 (fun g hg => by cases hg; omega); replace h1 := h1.mod m1 (fun g hg => by cases hg; omega); replace h2 := h2.mod m1 (fun g hg => by cases hg; omega); replace h3 := h3.mod m1 (fun g hg => by cases hg; omega); replace hw1 := hw1.mod m1 (fun g hg => by cases hg; omega); replace hw2 := hw2.mod m1 (fun g hg => by cases hg; omega); replace hw3 := hw3.mod m1 (fun g hg => by cases hg; omega); replace hw4 := hw4.mod m1 (fun g hg => by cases hg; omega); replace hw5 := hw5.mod m1 (fun g hg => by cases hg; omega); replace hw6 := hw6.mod m1 (fun g hg => by cases hg; omega); replace hw7 := hw7.mod m1 (fun g hg => by cases hg; omega); replace hw8 := hw8.mod m1 (fun g hg => by cases hg; omega)
 have z6 := m1.size
 refine Qd (Qf (Qf (Qh [true, false, true, true, true, true, false, true, true, true, true, true, true, true, true, true, true, true, true, true, true, true, true, true, true, true, true] Z Z (Qa (Q1 X2 Z h1.at Z) Z (Q0 Tryz.call63 Z (c_GraphOk [o1, .int .i64 g.workers, .int .i64 g.cap] g _ (Graph.mkR g (RdD.any (hd1.ext E)))) Z (fun _ w7 e6 hv => ?_))))))
 subst hv
 replace E := E.trans e6; replace h1 := h1.ext e6; replace h2 := h2.ext e6; replace h3 := h3.ext e6; replace hw1 := hw1.ext e6; replace hw2 := hw2.ext e6; replace hw3 := hw3.ext e6; replace hw4 := hw4.ext e6; replace hw5 := hw5.ext e6; replace hw6 := hw6.ext e6; replace hw7 := hw7.ext e6; replace hw8 := hw8.ext e6; replace h4 := h4.ext e6
 have z7 := e6.size
 refine Qa (Yn Z) Z (Qa (Qe Z) Z (Yz 23 [(0, .agg [o1, .int .i64 g.workers, .int .i64 g.cap].toArray), (1, .agg [o2, o3, o4, o5, o6, o7, o8, o9].toArray), (2, .pointer (some ⟨b1, 0, none⟩)), (3, .pointer (some ⟨b2, 0, none⟩)), (4, .pointer (some ⟨b3, 0, none⟩)), (5, .bool false), (6, .pointer (some ⟨b4, 0, none⟩)), (7, .agg [o2, o3, o4, o5, o6, o7, o8, o9].toArray), (8, .agg [o10, o11, o12, o13, o14, o15, o16, o17].toArray), (35, .bool (((((!(Xv g)) || (!(Xe g x))) || (decide (0 < ((x.staged.length : Nat) : Int)))) || (decide (0 < ((x.queue.length : Nat) : Int)))) || (((x.inputs.length : Nat) : Int) == 0)))] (fun w' => Ext w w' ∧ w7.heap.size ≤ w'.heap.size ∧ Blk w' b1 ([o1, .int .i64 g.workers, .int .i64 g.cap]) ∧ Blk w' b2 ([o2, o3, o4, o5, o6, o7, o8, o9]) ∧ Blk w' b3 [.slice none 0 0, .slice none 0 0, .slice none 0 0, .slice none 0 0, .slice none 0 0, .slice none 0 0, .slice none 0 0, .slice none 0 0] ∧ Own w' w3.heap.size w4.heap.size 5 o10 (List.flatMap (Enc.enc (α := Record)) x.queue) ∧ Own w' w3.heap.size w4.heap.size 5 o11 (List.flatMap (Enc.enc (α := Record)) x.staged) ∧ Own w' w3.heap.size w4.heap.size 5 o12 (List.flatMap (Enc.enc (α := Record)) x.inputs) ∧ Own w' w3.heap.size w4.heap.size 4 o13 (List.flatMap (Enc.enc (α := Cell)) x.cells) ∧ Own w' w3.heap.size w4.heap.size 1 o14 (List.flatMap (Enc.enc (α := Int)) x.sums) ∧ Own w' w3.heap.size w4.heap.size 1 o15 (List.flatMap (Enc.enc (α := Bool)) x.black) ∧ Own w' w3.heap.size w4.heap.size 1 o16 (List.flatMap (Enc.enc (α := Bool)) x.caps) ∧ Own w' w3.heap.size w4.heap.size 2 o17 (List.flatMap (Enc.enc (α := Done)) x.dones) ∧ Blk w' b4 [o10, o11, o12, o13, o14, o15, o16, o17]) ?_ ?_))
 ·refine Ym (gd := 12) Z Z (fun hg1 => ?_) (fun hg1 => ?_)
  ·refine Qc Z Z Z Z (Qc Z Z Z Z ?_)
   refine Yv Z Z Z Z ?_
   refine Qc Z Z Z Z (Qa (Qr Z Z) Z (Qa (Qe Z) Z (Qc Z Z Z Z (Qc Z Z Z Z (Qc Z Z Z Z (Qc Z Z Z Z (Qa (Qr Z Z) Z (Qa (Qe Z) Z (Qc Z Z Z Z (Qc Z Z Z Z (Qc Z Z Z Z (Qc Z Z Z Z (Qa (Qr Z Z) Z (Qa (Qe Z) Z (Qc Z Z Z Z (Qc Z Z Z Z (Qc Z Z Z Z (Qc Z Z Z Z (Qa (Qr Z Z) Z (Qo ⟨Z, Z, Z, Z, Z, Z, Z, Z, Z, congrArg (fun b => some (Value.bool b)) (show true = (((((!(Xv g)) || (!(Xe g x))) || (decide (0 < ((x.staged.length : Nat) : Int)))) || (decide (0 < ((x.queue.length : Nat) : Int)))) || (((x.inputs.length : Nat) : Int) == 0)) by first | (rw [hg1] <;> rfl) | (simp [hg1]; done) | (simp only [Qn] <;> simp)), trivial⟩ ⟨E, (by omega), h1, h2, h3, hw1, hw2, hw3, hw4, hw5, hw6, hw7, hw8, h4⟩))))))))))))))))))))
  ·refine Qk Z Z (Q1 X2 Z h1.at Z) Z (Qk Z Z (Q1 Xt Z h2.at Z) Z ?_)
   refine Xf Z Z ?_
   refine Q0 Tryz.call64 Z (c_WorkerOk [o1, .int .i64 g.workers, .int .i64 g.cap] g [o2, o3, o4, o5, o6, o7, o8, o9] x _ (Graph.mkR g (RdD.any (hd1.ext E))) (Worker.mkR x (RdD.any (hd2.ext E)) (RdD.any (hd3.ext E)) (RdD.any (hd4.ext E)) (RdD.any (hd5.ext E)) (RdD.any (hd6.ext E)) (RdD.any (hd7.ext E)) (RdD.any (hd8.ext E)) (RdD.any (hd9.ext E)))) Z (fun _ w9 e7 hv => ?_)
   subst hv
   replace E := E.trans e7; replace h1 := h1.ext e7; replace h2 := h2.ext e7; replace h3 := h3.ext e7; replace hw1 := hw1.ext e7; replace hw2 := hw2.ext e7; replace hw3 := hw3.ext e7; replace hw4 := hw4.ext e7; replace hw5 := hw5.ext e7; replace hw6 := hw6.ext e7; replace hw7 := hw7.ext e7; replace hw8 := hw8.ext e7; replace h4 := h4.ext e7
   have z8 := e7.size
   refine Qk Z Z (Yn Z) Z (Qa (Qs Z Z) Z (Qa (Qe Z) Z ?_))
   refine Ym (gd := 18) Z Z (fun hg2 => ?_) (fun hg2 => ?_)
   ·refine Qc Z Z Z Z (Qc Z Z Z Z (Qc Z Z Z Z (Qc Z Z Z Z (Qa (Qr Z Z) Z (Qa (Qe Z) Z (Qc Z Z Z Z (Qc Z Z Z Z (Qc Z Z Z Z (Qc Z Z Z Z (Qa (Qr Z Z) Z (Qa (Qe Z) Z (Qc Z Z Z Z (Qc Z Z Z Z (Qc Z Z Z Z (Qc Z Z Z Z (Qa (Qr Z Z) Z (Qo ⟨Z, Z, Z, Z, Z, Z, Z, Z, Z, congrArg (fun b => some (Value.bool b)) (show true = (((((!(Xv g)) || (!(Xe g x))) || (decide (0 < ((x.staged.length : Nat) : Int)))) || (decide (0 < ((x.queue.length : Nat) : Int)))) || (((x.inputs.length : Nat) : Int) == 0)) by first | (rw [hg1, hg2] <;> rfl) | (simp [hg1, hg2]; done) | (simp only [Qn] <;> simp)), trivial⟩ ⟨E, (by omega), h1, h2, h3, hw1, hw2, hw3, hw4, hw5, hw6, hw7, hw8, h4⟩)))))))))))))))))
   ·refine Qk Z Z (Qb fl72_1 Z) Z (Qk Z Z (Qi Xa Z (h2.one 1 Z)) Z (Qk Z Z (Q4 Tryz.underlying66 Z (hd3.ext E).len) Z (Qk Z Z (Xc Z Z) Z (Qa (Qs Z Z) Z (Qa (Qe Z) Z ?_)))))
    refine Ym (gd := 24) Z Z (fun hg3 => ?_) (fun hg3 => ?_)
    ·have hg3n : x.staged.length > 0 := by first | (have h := of_decide_eq_true hg3; omega) | (have h := hg3; simp at h; omega)
     refine Qc Z Z Z Z (Qc Z Z Z Z (Qc Z Z Z Z (Qc Z Z Z Z (Qa (Qr Z Z) Z (Qa (Qe Z) Z (Qc Z Z Z Z (Qc Z Z Z Z (Qc Z Z Z Z (Qc Z Z Z Z (Qa (Qr Z Z) Z (Qo ⟨Z, Z, Z, Z, Z, Z, Z, Z, Z, congrArg (fun b => some (Value.bool b)) (show true = (((((!(Xv g)) || (!(Xe g x))) || (decide (0 < ((x.staged.length : Nat) : Int)))) || (decide (0 < ((x.queue.length : Nat) : Int)))) || (((x.inputs.length : Nat) : Int) == 0)) by first | (rw [hg1, hg2, hg3] <;> rfl) | (simp [hg1, hg2, hg3]; done) | (simp only [Qn] <;> simp)), trivial⟩ ⟨E, (by omega), h1, h2, h3, hw1, hw2, hw3, hw4, hw5, hw6, hw7, hw8, h4⟩)))))))))))
    ·have hg3n : ¬ x.staged.length > 0 := by first | (have h := of_decide_eq_false hg3; omega) | (have h := hg3; simp at h; omega)
     refine Qk Z Z (Qb fl72_0 Z) Z (Qk Z Z (Qi Xa Z (h2.one 0 Z)) Z (Qk Z Z (Q4 Tryz.underlying66 Z (hd2.ext E).len) Z (Qk Z Z (Xc Z Z) Z (Qa (Qs Z Z) Z (Qa (Qe Z) Z ?_)))))
     refine Ym (gd := 30) Z Z (fun hg4 => ?_) (fun hg4 => ?_)
     ·have hg4n : x.queue.length > 0 := by first | (have h := of_decide_eq_true hg4; omega) | (have h := hg4; simp at h; omega)
      refine Qc Z Z Z Z (Qc Z Z Z Z (Qc Z Z Z Z (Qc Z Z Z Z (Qa (Qr Z Z) Z (Qo ⟨Z, Z, Z, Z, Z, Z, Z, Z, Z, congrArg (fun b => some (Value.bool b)) (show true = (((((!(Xv g)) || (!(Xe g x))) || (decide (0 < ((x.staged.length : Nat) : Int)))) || (decide (0 < ((x.queue.length : Nat) : Int)))) || (((x.inputs.length : Nat) : Int) == 0)) by first | (rw [hg1, hg2, hg3, hg4] <;> rfl) | (simp [hg1, hg2, hg3, hg4]; done) | (simp only [Qn] <;> simp)), trivial⟩ ⟨E, (by omega), h1, h2, h3, hw1, hw2, hw3, hw4, hw5, hw6, hw7, hw8, h4⟩)))))
     ·have hg4n : ¬ x.queue.length > 0 := by first | (have h := of_decide_eq_false hg4; omega) | (have h := hg4; simp at h; omega)
      refine Qk Z Z (Qb Xo Z) Z (Qk Z Z (Qi Xa Z (h2.one 2 Z)) Z (Qk Z Z (Q4 Tryz.underlying66 Z (hd4.ext E).len) Z (Qk Z Z (Yw Z Z) Z (Qa (Qs Z Z) Z (Qo ⟨Z, Z, Z, Z, Z, Z, Z, Z, Z, congrArg (fun b => some (Value.bool b)) (show (((x.inputs.length : Nat) : Int) == 0) = (((((!(Xv g)) || (!(Xe g x))) || (decide (0 < ((x.staged.length : Nat) : Int)))) || (decide (0 < ((x.queue.length : Nat) : Int)))) || (((x.inputs.length : Nat) : Int) == 0)) by first | (rw [hg1, hg2, hg3, hg4] <;> rfl) | (simp [hg1, hg2, hg3, hg4]; done) | (simp only [Qn] <;> simp)), trivial⟩ ⟨E, (by omega), h1, h2, h3, hw1, hw2, hw3, hw4, hw5, hw6, hw7, hw8, h4⟩)))))
 clear E h1 h2 h3 hw1 hw2 hw3 hw4 hw5 hw6 hw7 hw8 h4
 rintro w8 ⟨E, z9, h1, h2, h3, hw1, hw2, hw3, hw4, hw5, hw6, hw7, hw8, h4⟩
 refine Qd (Qu Z (fun hc1 => ?_) (fun hc1 => ?_))
 ·refine Qf (Qh [true, false, true] Z Z (Qa (Q1 Xt Z h4.at Z) Z (Ya (cs' := [o10, o11, o12, o13, o14, o15, o16, o17]) Xt Z Z Z (Ql hw1.one (Ql hw2.one (Ql hw3.one (Ql hw4.one (Ql hw5.one (Ql hw6.one (Ql hw7.one (Ql hw8.one Z)))))))) h3 (Nat.le_of_ble_eq_true Z) Z (fun w10 m2 h3' => ?_))))
  replace h3 := h3'
  replace E := E.step m2 (fun g hg => by cases hg; omega); replace h1 := h1.mod m2 (fun g hg => by cases hg; omega); replace h2 := h2.mod m2 (fun g hg => by cases hg; omega); replace hw1 := hw1.mod m2 (fun g hg => by cases hg; omega); replace hw2 := hw2.mod m2 (fun g hg => by cases hg; omega); replace hw3 := hw3.mod m2 (fun g hg => by cases hg; omega); replace hw4 := hw4.mod m2 (fun g hg => by cases hg; omega); replace hw5 := hw5.mod m2 (fun g hg => by cases hg; omega); replace hw6 := hw6.mod m2 (fun g hg => by cases hg; omega); replace hw7 := hw7.mod m2 (fun g hg => by cases hg; omega); replace hw8 := hw8.mod m2 (fun g hg => by cases hg; omega); replace h4 := h4.mod m2 (fun g hg => by cases hg; omega)
  have z10 := m2.size
  refine Qa (Qg Z) Z (Qd (Qw (E_doneN (l := [.cell 4 72, .tmp 5]) (vs := [.agg [o10, o11, o12, o13, o14, o15, o16, o17].toArray, .bool false]) Z ⟨.cell Z (Ys Xt h3.at Z), .tmp Z, trivial⟩ Z E ?_)))
  rw [take_no hc1]
  exact ⟨_, Z, (Worker.mkO x sp1 (Own.widen hw1 (by omega) (by omega)) (Own.widen hw2 (by omega) (by omega)) (Own.widen hw3 (by omega) (by omega)) (Own.widen hw4 (by omega) (by omega)) (Own.widen hw5 (by omega) (by omega)) (Own.widen hw6 (by omega) (by omega)) (Own.widen hw7 (by omega) (by omega)) (Own.widen hw8 (by omega) (by omega)))⟩
 ·have htl := take_lt hc1
  refine Qp (Qf (S_regX Y8 [7] [(0, true), (1, true), (2, true), (3, true), (4, true), (5, true), (6, false)] [(7, false), (8, true), (9, false)] (by decide +kernel) Z Z (fun w11 e8 => ?_)))
  replace E := E.trans e8; replace h1 := h1.ext e8; replace h2 := h2.ext e8; replace h3 := h3.ext e8; replace hw1 := hw1.ext e8; replace hw2 := hw2.ext e8; replace hw3 := hw3.ext e8; replace hw4 := hw4.ext e8; replace hw5 := hw5.ext e8; replace hw6 := hw6.ext e8; replace hw7 := hw7.ext e8; replace hw8 := hw8.ext e8; replace h4 := h4.ext e8
  have z11 := e8.size
  refine Qa (Qb fl72_0 Z) Z (Qa (Qi Xa Z (h4.one 0 Z)) Z (Qa (Qb Xo Z) Z (Qa (Qi Xa Z (h2.one 2 Z)) Z ?_)))
  have hi1 : 0 < x.inputs.length := (by first | assumption | omega | (simp only [List.length_set]; first | assumption | omega))
  refine Qa (Qv (i := 0) Xx Z Z (hd4.rd.ext E) hi1) Z (Qa (Q1 Kg Z ((hd4.rd.ext E).get hi1) Z) Z (Y1 (vs := [.agg (Enc.enc (x.inputs[0]'hi1)).toArray]) (css := [[.int .i64 ((x.inputs[0]'hi1).op), .int .i64 (((x.inputs[0]'hi1).stamp).epoch), .int .i64 (((x.inputs[0]'hi1).stamp).turn), .int .i64 ((x.inputs[0]'hi1).key), .int .i64 ((x.inputs[0]'hi1).val)]]) Xx Z Z ⟨⟨Z, Z⟩, trivial⟩ Z Z (fun b5 w12 e9 s5 h5 => ?_)))
  replace h5 : Blk w12 b5 [.int .i64 ((x.inputs[0]'hi1).op), .int .i64 (((x.inputs[0]'hi1).stamp).epoch), .int .i64 (((x.inputs[0]'hi1).stamp).turn), .int .i64 ((x.inputs[0]'hi1).key), .int .i64 ((x.inputs[0]'hi1).val)] := h5
  have g_b5 : w.heap.size ≤ b5 := by have := E.size; omega
  have y_b5 := h5.lt
  replace E := E.trans e9; replace h1 := h1.ext e9; replace h2 := h2.ext e9; replace h3 := h3.ext e9; replace hw1 := hw1.ext e9; replace hw2 := hw2.ext e9; replace hw3 := hw3.ext e9; replace hw4 := hw4.ext e9; replace hw5 := hw5.ext e9; replace hw6 := hw6.ext e9; replace hw7 := hw7.ext e9; replace hw8 := hw8.ext e9; replace h4 := h4.ext e9
  have z12 := e9.size
  refine JX_tail ?_
  refine J2_X Z ?_
  refine J_appendB Xx Z Z hw1 (Src.ofBlk h5 Z) Z (by unfold Yd at hb; simp only [Y0, List.length_nil, List.length_cons, List.length_drop]; simp only [Enc.sz]; omega) (by decide) (by omega) (by omega) Z Z (fun v1 w13 m3 ho2 hb1 => ?_)
  have hn1 : ∀ g, Value.ownBlock v1 = some g → g < w4.heap.size ∨ w12.heap.size ≤ g := fun g hg => (hb1 g hg).elim (fun h => .inl (by have := Own.blk hw1 g h; omega)) (fun h => .inr h)
  have sq1 := sp1
  replace sp1 := SepL.set hb1 0 rfl sp1 ⟨(Own.lt hw1), (Own.lt hw2), (Own.lt hw3), (Own.lt hw4), (Own.lt hw5), (Own.lt hw6), (Own.lt hw7), (Own.lt hw8), trivial⟩
  replace sp1 : SepL [v1, o11, o12, o13, o14, o15, o16, o17] := sp1
  replace E := E.step m3 (fun g hg => by have := Own.blk hw1 g hg; omega); replace h1 := h1.mod m3 (fun g hg => by have := Own.blk hw1 g hg; omega); replace h2 := h2.mod m3 (fun g hg => by have := Own.blk hw1 g hg; omega); replace h3 := h3.mod m3 (fun g hg => by have := Own.blk hw1 g hg; omega); replace hw2 := Own.modS hw2 m3 sq1.1.1; replace hw3 := Own.modS hw3 m3 sq1.1.2.1; replace hw4 := Own.modS hw4 m3 sq1.1.2.2.1; replace hw5 := Own.modS hw5 m3 sq1.1.2.2.2.1; replace hw6 := Own.modS hw6 m3 sq1.1.2.2.2.2.1; replace hw7 := Own.modS hw7 m3 sq1.1.2.2.2.2.2.1; replace hw8 := Own.modS hw8 m3 sq1.1.2.2.2.2.2.2.1; replace h4 := h4.mod m3 (fun g hg => by have := Own.blk hw1 g hg; omega)
  have z13 := m3.size
  replace ho2 : Own w13 w3.heap.size w13.heap.size 5 v1 (List.flatMap (Enc.enc (α := Record)) (x.queue ++ [(x.inputs[0]'hi1)])) := by rw [List.flatMap_append]; exact ho2
  refine JX_go ?_
  refine Qa (Qb fl72_0 Z) Z (Ye (cs' := [v1, o11, o12, o13, o14, o15, o16, o17]) Xa Z Z ho2.one h4 (Nat.le_of_ble_eq_true Z) Z (fun w14 m4 h4' => ?_))
  replace h4 := h4'
  replace E := E.step m4 (fun g hg => by cases hg; omega); replace h1 := h1.mod m4 (fun g hg => by cases hg; omega); replace h2 := h2.mod m4 (fun g hg => by cases hg; omega); replace h3 := h3.mod m4 (fun g hg => by cases hg; omega); replace hw2 := hw2.mod m4 (fun g hg => by cases hg; omega); replace hw3 := hw3.mod m4 (fun g hg => by cases hg; omega); replace hw4 := hw4.mod m4 (fun g hg => by cases hg; omega); replace hw5 := hw5.mod m4 (fun g hg => by cases hg; omega); replace hw6 := hw6.mod m4 (fun g hg => by cases hg; omega); replace hw7 := hw7.mod m4 (fun g hg => by cases hg; omega); replace hw8 := hw8.mod m4 (fun g hg => by cases hg; omega); replace ho2 := Own.modN ho2 m4 (fun g hg hv => by have hN := hn1 g hv; have hB := Own.blk ho2 g hv; cases hg; omega)
  have z14 := m4.size
  refine Qd (Qf (Qh [true, true, true, true, false] Z Z (Qa (Qb Xo Z) Z (Qa (Qi Xa Z (h4.one 2 Z)) Z ?_))))
  have hk1 : 1 ≤ x.inputs.length := by first | assumption | omega
  have hs1 := Own.slFromE (α := Record) hw3 hk1
  replace hs1 : Own w14 w3.heap.size w4.heap.size 5 (slFrom o12 1 5) (List.flatMap (Enc.enc (α := Record)) (List.drop 1 x.inputs)) := hs1
  have hb2 : Become w14 o12 (slFrom o12 1 5) := fun g hg => .inl (by rwa [slFrom_blk] at hg)
  replace sp1 := SepL.set hb2 2 rfl sp1 ⟨(Own.lt ho2), (Own.lt hw2), (Own.lt hw3), (Own.lt hw4), (Own.lt hw5), (Own.lt hw6), (Own.lt hw7), (Own.lt hw8), trivial⟩
  replace sp1 : SepL [v1, o11, slFrom o12 1 5, o13, o14, o15, o16, o17] := sp1
  refine Qa (R_sliceFrom Xx Z Z (Own.roomE (α := Record) hw3) hk1) Z (Qa (Qb Xo Z) Z (Ye (cs' := [v1, o11, slFrom o12 1 5, o13, o14, o15, o16, o17]) Xa Z Z hs1.one h4 (Nat.le_of_ble_eq_true Z) Z (fun w15 m5 h4' => ?_)))
  replace h4 := h4'
  replace E := E.step m5 (fun g hg => by cases hg; omega); replace h1 := h1.mod m5 (fun g hg => by cases hg; omega); replace h2 := h2.mod m5 (fun g hg => by cases hg; omega); replace h3 := h3.mod m5 (fun g hg => by cases hg; omega); replace hw2 := hw2.mod m5 (fun g hg => by cases hg; omega); replace hw4 := hw4.mod m5 (fun g hg => by cases hg; omega); replace hw5 := hw5.mod m5 (fun g hg => by cases hg; omega); replace hw6 := hw6.mod m5 (fun g hg => by cases hg; omega); replace hw7 := hw7.mod m5 (fun g hg => by cases hg; omega); replace hw8 := hw8.mod m5 (fun g hg => by cases hg; omega); replace ho2 := Own.modN ho2 m5 (fun g hg hv => by have hN := hn1 g hv; have hB := Own.blk ho2 g hv; cases hg; omega); replace hs1 := hs1.mod m5 (fun g hg => by cases hg; omega)
  have z15 := m5.size
  refine Qd (Qf (Qh [true, false, true] Z Z (Qa (Q1 Xt Z h4.at Z) Z (Ya (cs' := [v1, o11, slFrom o12 1 5, o13, o14, o15, o16, o17]) Xt Z Z Z (Ql ho2.one (Ql hw2.one (Ql hs1.one (Ql hw4.one (Ql hw5.one (Ql hw6.one (Ql hw7.one (Ql hw8.one Z)))))))) h3 (Nat.le_of_ble_eq_true Z) Z (fun w16 m6 h3' => ?_)))))
  replace h3 := h3'
  replace E := E.step m6 (fun g hg => by cases hg; omega); replace h1 := h1.mod m6 (fun g hg => by cases hg; omega); replace h2 := h2.mod m6 (fun g hg => by cases hg; omega); replace hw2 := hw2.mod m6 (fun g hg => by cases hg; omega); replace hw4 := hw4.mod m6 (fun g hg => by cases hg; omega); replace hw5 := hw5.mod m6 (fun g hg => by cases hg; omega); replace hw6 := hw6.mod m6 (fun g hg => by cases hg; omega); replace hw7 := hw7.mod m6 (fun g hg => by cases hg; omega); replace hw8 := hw8.mod m6 (fun g hg => by cases hg; omega); replace h4 := h4.mod m6 (fun g hg => by cases hg; omega); replace ho2 := Own.modN ho2 m6 (fun g hg hv => by have hN := hn1 g hv; have hB := Own.blk ho2 g hv; cases hg; omega); replace hs1 := hs1.mod m6 (fun g hg => by cases hg; omega)
  have z16 := m6.size
  refine Qa (Qg Z) Z (Qd (Qw (E_doneN (l := [.cell 4 72, .tmp 5]) (vs := [.agg [v1, o11, slFrom o12 1 5, o13, o14, o15, o16, o17].toArray, .bool true]) Z ⟨.cell Z (Ys Xt h3.at Z), .tmp Z, trivial⟩ Z E ?_)))
  rw [take_yes hc1 htl]
  exact ⟨_, Z, (Worker.mkO (⟨x.queue ++ [(x.inputs[0]'hi1)], x.staged, List.drop 1 x.inputs, x.cells, x.sums, x.black, x.caps, x.dones⟩ : Worker) sp1 (Own.widen ho2 (by omega) (by omega)) (Own.widen hw2 (by omega) (by omega)) (Own.widen hs1 (by omega) (by omega)) (Own.widen hw4 (by omega) (by omega)) (Own.widen hw5 (by omega) (by omega)) (Own.widen hw6 (by omega) (by omega)) (Own.widen hw7 (by omega) (by omega)) (Own.widen hw8 (by omega) (by omega)))⟩

set_option maxRecDepth 20000 in
theorem markTokenS (vxs : Value) (lo hi : Nat) (xs : List Token) (k : Nat) (w : World) (hxs : Own w lo hi 5 vxs (List.flatMap (Enc.enc (α := Token)) xs)) (hb : k + xs.length * 5 ≤ 1099511627776) : CtR Tryz.prog 37 [vxs, .int .i64 ((k : Nat) : Int)] w lo hi (fun v w' => v = .int .i64 ((k + 5 * xs.length : Nat) : Int) ∧ Own w' lo hi 5 vxs (List.flatMap (Enc.enc (α := Token)) (mkL 5 mkToken k xs.length))) := by
 refine ctR_of Tryz.func37 Z Tryz.ntmps37 Z ?_
 refine Q7 [(0, vxs), (1, .int .i64 ((k : Nat) : Int))] ⟨Z, Z, trivial⟩ ?_
 have E : ModR w w lo hi := ModR.refl w lo hi
 refine Qf (Qh [true] Z Z (Qa (Qg Z) Z (Qd (Qf (Qf (Qh [true] Z Z (Qa (Qg Z) Z (Qd (Qy (Yh (fun (xq : Nat × Nat × List Token) => let ⟨i, q, bs⟩ := xq; [(0, vxs), (1, .int .i64 ((q : Nat) : Int)), (4, .int .i64 0), (5, .int .i64 ((i : Nat) : Int))]) (fun (xq : Nat × Nat × List Token) w' => let ⟨i, q, bs⟩ := xq; ModR w w' lo hi ∧ w.heap.size ≤ w'.heap.size ∧ i + bs.length = xs.length ∧ q = k + 5 * i ∧ Own w' lo hi 5 vxs (List.flatMap (Enc.enc (α := Token)) (mkL 5 mkToken k i ++ bs))) (fun (xq : Nat × Nat × List Token) => let ⟨i, q, bs⟩ := xq; xs.length - i) (0, k, xs) ⟨Z, Z, Z, Z, trivial⟩ ⟨E, Nat.le_refl _, (by simp), (by simp), (by simpa [mkL] using hxs)⟩ ?_))))))))))
 clear E hxs
 rintro ⟨i, q, bs⟩ w1 ⟨E, z1, hi, hq, hxs⟩
 refine Q7 [(0, vxs), (1, .int .i64 ((q : Nat) : Int)), (4, .int .i64 0), (5, .int .i64 ((i : Nat) : Int))] ⟨Z, Z, Z, Z, trivial⟩ ?_
 refine Qf (Qf (Qh [true, true, true, true] Z Z (Qa (Qe Z) Z (Qa (Qe Z) Z (Qa (Q4 Tryz.underlying37 Z (Own.lenE (by decide) hxs (by simp only [List.length_append, Qj, List.length_cons]; omega))) Z (Qa (Yb Z Z) Z (Qd (Qu Z (fun hc1 => ?_) (fun hc1 => ?_)))))))))
 ·rcases bs with _ | ⟨x, bs⟩
  ·exact absurd hi (by have h := hc1; simp at h ⊢; omega)
  simp only [List.length_cons] at hi
  have hc1n : i < xs.length := by first | (have h := of_decide_eq_true hc1; omega) | (have h := hc1; simp at h; omega)
  refine Qp (Qf (Qy (Qf (Qh [true, true, true, true, true, true, true, false] Z Z (Qa (Qe Z) Z (Qa (Qe Z) Z (Qa (Qe Z) Z (Qa (R_rem Z Z (by decide) Z) Z (Qa (Yw Z Z) Z (Qa (Qv sl37 Z Z (Own.rd (by decide) hxs) (by simp only [List.length_append, Qj, List.length_cons]; omega)) Z (Qa (Qz fl110_0 Z) Z (Y2 (α := Token) (i := i) (f := 0) (⟨(Int.tmod ((q : Nat) : Int) 3) == 0, x.place, x.sum, x.black, x.capped⟩ : Token) sc4 Z Z Z Z hxs (Qj _ _ _ _) (by decide) Z (fun w2 m1 hxs' => ?_)))))))))))))
  have hq := hxs.blk
  replace hxs := hxs'
  replace E := E.mod m1 (fun g hg => by have := hq g hg; omega)
  have z2 := m1.size
  clear hq
  refine Qd (Qf (Qh [true, true, true] Z Z (Qa (Qe Z) Z (Qa (Q8 Z Z (Yc (by unfold maxLen; omega))) Z (Qa (Qg Z) Z (Qd (Qf (Qh [true, true, true, true, true, false] Z Z (Qa (Qe Z) Z (Qa (Qe Z) Z (Qa (Qe Z) Z (Qa (Qv sl37 Z Z (Own.rd (by decide) hxs) (by simp only [List.length_append, Qj, List.length_cons]; omega)) Z (Qa (Qz fl110_1 Z) Z (Y2 (α := Token) (i := i) (f := 1) (⟨(Int.tmod ((q : Nat) : Int) 3) == 0, ((q + 1 : Nat) : Int), x.sum, x.black, x.capped⟩ : Token) Yk Z Z Z Z hxs (Qj _ _ _ _) (by decide) Z (fun w3 m2 hxs' => ?_)))))))))))))))
  have hq := hxs.blk
  replace hxs := hxs'
  replace E := E.mod m2 (fun g hg => by have := hq g hg; omega)
  have z3 := m2.size
  clear hq
  refine Qd (Qf (Qh [true, true, true] Z Z (Qa (Qe Z) Z (Qa (Q8 Z Z (Yc (by unfold maxLen; omega))) Z (Qa (Qg Z) Z (Qd (Qf (Qh [true, true, true, true, true, false] Z Z (Qa (Qe Z) Z (Qa (Qe Z) Z (Qa (Qe Z) Z (Qa (Qv sl37 Z Z (Own.rd (by decide) hxs) (by simp only [List.length_append, Qj, List.length_cons]; omega)) Z (Qa (Qz fl110_2 Z) Z (Y2 (α := Token) (i := i) (f := 2) (⟨(Int.tmod ((q : Nat) : Int) 3) == 0, ((q + 1 : Nat) : Int), ((q + 1 + 1 : Nat) : Int), x.black, x.capped⟩ : Token) Yk Z Z Z Z hxs (Qj _ _ _ _) (by decide) Z (fun w4 m3 hxs' => ?_)))))))))))))))
  have hq := hxs.blk
  replace hxs := hxs'
  replace E := E.mod m3 (fun g hg => by have := hq g hg; omega)
  have z4 := m3.size
  clear hq
  refine Qd (Qf (Qh [true, true, true] Z Z (Qa (Qe Z) Z (Qa (Q8 Z Z (Yc (by unfold maxLen; omega))) Z (Qa (Qg Z) Z (Qd (Qf (Qh [true, true, true, true, true, true, true, false] Z Z (Qa (Qe Z) Z (Qa (Qe Z) Z (Qa (Qe Z) Z (Qa (R_rem Z Z (by decide) Z) Z (Qa (Yw Z Z) Z (Qa (Qv sl37 Z Z (Own.rd (by decide) hxs) (by simp only [List.length_append, Qj, List.length_cons]; omega)) Z (Qa (Qz fl110_3 Z) Z (Y2 (α := Token) (i := i) (f := 3) (⟨(Int.tmod ((q : Nat) : Int) 3) == 0, ((q + 1 : Nat) : Int), ((q + 1 + 1 : Nat) : Int), (Int.tmod ((q + 1 + 1 + 1 : Nat) : Int) 3) == 0, x.capped⟩ : Token) sc4 Z Z Z Z hxs (Qj _ _ _ _) (by decide) Z (fun w5 m4 hxs' => ?_)))))))))))))))))
  have hq := hxs.blk
  replace hxs := hxs'
  replace E := E.mod m4 (fun g hg => by have := hq g hg; omega)
  have z5 := m4.size
  clear hq
  refine Qd (Qf (Qh [true, true, true] Z Z (Qa (Qe Z) Z (Qa (Q8 Z Z (Yc (by unfold maxLen; omega))) Z (Qa (Qg Z) Z (Qd (Qf (Qh [true, true, true, true, true, true, true, false] Z Z (Qa (Qe Z) Z (Qa (Qe Z) Z (Qa (Qe Z) Z (Qa (R_rem Z Z (by decide) Z) Z (Qa (Yw Z Z) Z (Qa (Qv sl37 Z Z (Own.rd (by decide) hxs) (by simp only [List.length_append, Qj, List.length_cons]; omega)) Z (Qa (Qz fl110_4 Z) Z (Y2 (α := Token) (i := i) (f := 4) (⟨(Int.tmod ((q : Nat) : Int) 3) == 0, ((q + 1 : Nat) : Int), ((q + 1 + 1 : Nat) : Int), (Int.tmod ((q + 1 + 1 + 1 : Nat) : Int) 3) == 0, (Int.tmod ((q + 1 + 1 + 1 + 1 : Nat) : Int) 3) == 0⟩ : Token) sc4 Z Z Z Z hxs (Qj _ _ _ _) (by decide) Z (fun w6 m5 hxs' => ?_)))))))))))))))))
  have hq := hxs.blk
  replace hxs := hxs'
  replace E := E.mod m5 (fun g hg => by have := hq g hg; omega)
  have z6 := m5.size
  clear hq
  refine Qd (Qh [true, true, true] Z Z (Qa (Qe Z) Z (Qa (Q8 Z Z (Yc (by unfold maxLen; omega))) Z (Qa (Qg Z) Z (Qd (Q5 (Yt (Qh [true, true, true] Z Z (Qa (Qe Z) Z (Qa (Q8 Z Z (Yc (by unfold maxLen; omega))) Z (Qa (Qg Z) Z (Qd (Q5 (Q9 (i + 1, q + 1 + 1 + 1 + 1 + 1, bs) (by simp; omega) ⟨rfl, rfl, rfl, rfl, trivial⟩ ⟨E, (by omega), (by omega), (by omega), (by subst hq; rw [← mkL_succ]; exact hxs)⟩))))))))))))))
 ·have hc1n : ¬ i < xs.length := by first | (have h := of_decide_eq_false hc1; omega) | (have h := hc1; simp at h; omega)
  refine Yi (Q3 (Q2 ?_))
  refine Qf (Qh [true, true] Z Z (Qa (Qe Z) Z (Qa (Qg Z) Z (Qd (Qw (Qm Z Z E ?_))))))
  exact ⟨by subst hq; rw [show i = xs.length from by omega], by obtain rfl : bs = [] := List.eq_nil_of_length_eq_zero (by omega); rw [show xs.length = i from by simp at hi; omega]; simpa using hxs⟩

set_option maxRecDepth 20000 in
theorem heldTokenS (vxs : Value) (xs : List Token) (k : Nat) (w : World) (hxs : RdS w vxs xs) (hm : xs = mkL 5 mkToken k xs.length) (hb : k + xs.length * 5 ≤ 1099511627776) : Ct Tryz.prog 42 [vxs, .int .i64 ((k : Nat) : Int)] w (fun v _ => v = .int .i64 ((k + 5 * xs.length : Nat) : Int)) := by
 refine Yj Tryz.func42 Z Tryz.ntmps42 Z ?_
 refine Q7 [(0, vxs), (1, .int .i64 ((k : Nat) : Int))] ⟨Z, Z, trivial⟩ ?_
 have E : Ext w w := Ext.refl w
 refine Qf (Qh [true] Z Z (Qa (Qg Z) Z (Qd (Qf (Qf (Qh [true] Z Z (Qa (Qg Z) Z (Qd (Qy (Yh (fun (xq : Nat × Nat) => let ⟨i, q⟩ := xq; [(0, vxs), (1, .int .i64 ((q : Nat) : Int)), (4, .int .i64 0), (5, .int .i64 ((i : Nat) : Int))]) (fun (xq : Nat × Nat) w' => let ⟨i, q⟩ := xq; Ext w w' ∧ w.heap.size ≤ w'.heap.size ∧ i ≤ xs.length ∧ q = k + 5 * i) (fun (xq : Nat × Nat) => let ⟨i, q⟩ := xq; xs.length - i) (0, k) ⟨Z, Z, Z, Z, trivial⟩ ⟨E, Nat.le_refl _, Nat.zero_le _, (by simp)⟩ ?_))))))))))
 clear E
 rintro ⟨i, q⟩ w1 ⟨E, z1, hi, hq⟩
 refine Q7 [(0, vxs), (1, .int .i64 ((q : Nat) : Int)), (4, .int .i64 0), (5, .int .i64 ((i : Nat) : Int))] ⟨Z, Z, Z, Z, trivial⟩ ?_
 refine Qf (Qf (Qh [true, true, true, true] Z Z (Qa (Qe Z) Z (Qa (Qe Z) Z (Qa (Q4 Tryz.underlying37 Z (hxs.ext E).len) Z (Qa (Yb Z Z) Z (Qd (Qu Z (fun hc1 => ?_) (fun hc1 => ?_)))))))))
 ·have hc1n : i < xs.length := by first | (have h := of_decide_eq_true hc1; omega) | (have h := hc1; simp at h; omega)
  refine Qp (Qf (Qy (Qf (Qf (Qh [true, true, true, true, true, true, true, true, true] Z Z (Qa (Qe Z) Z (Qa (Qe Z) Z ?_)))))))
  have hi1 : i < xs.length := (by first | assumption | omega | (simp only [List.length_set]; first | assumption | omega))
  refine Qa (Qv (i := i) sl37 Z Z (hxs.ext E) hi1) Z (Qa (Qz fl110_0 Z) Z (Qa (Qi sc4 Z (((hxs.ext E).get hi1).one 0 Z)) Z (Qa (Qe Z) Z (Qa (R_rem Z Z (by decide) Z) Z (Qa (Yw Z Z) Z (Qa (Ki (Tryz.underlying4) Z Z) Z (Qd (Yp rfl (by subst hq; rw [X0 hm (by omega)]; simp [mkToken]) (Qp (Qf (Qh [true, true, true] Z Z (Qa (Qe Z) Z (Qa (Q8 Z Z (Yc (by unfold maxLen; omega))) Z (Qa (Qg Z) Z (Qd (Qf (Qf (Qh [true, true, true, true, true, true, true] Z Z (Qa (Qe Z) Z (Qa (Qe Z) Z (Qa (Qv (i := i) sl37 Z Z (hxs.ext E) hi1) Z (Qa (Qz fl110_1 Z) Z (Qa (Qi Yk Z (((hxs.ext E).get hi1).one 1 Z)) Z (Qa (Qe Z) Z (Qa (Yr Z Z) Z (Qd (Yp rfl (by subst hq; rw [X0 hm (by omega)]; simp [mkToken]) (Qp (Qf (Qh [true, true, true] Z Z (Qa (Qe Z) Z (Qa (Q8 Z Z (Yc (by unfold maxLen; omega))) Z (Qa (Qg Z) Z (Qd (Qf (Qf (Qh [true, true, true, true, true, true, true] Z Z (Qa (Qe Z) Z (Qa (Qe Z) Z (Qa (Qv (i := i) sl37 Z Z (hxs.ext E) hi1) Z (Qa (Qz fl110_2 Z) Z (Qa (Qi Yk Z (((hxs.ext E).get hi1).one 2 Z)) Z (Qa (Qe Z) Z (Qa (Yr Z Z) Z (Qd (Yp rfl (by subst hq; rw [X0 hm (by omega)]; simp [mkToken]) (Qp (Qf (Qh [true, true, true] Z Z (Qa (Qe Z) Z (Qa (Q8 Z Z (Yc (by unfold maxLen; omega))) Z (Qa (Qg Z) Z (Qd (Qf (Qf (Qh [true, true, true, true, true, true, true, true, true] Z Z (Qa (Qe Z) Z (Qa (Qe Z) Z (Qa (Qv (i := i) sl37 Z Z (hxs.ext E) hi1) Z (Qa (Qz fl110_3 Z) Z (Qa (Qi sc4 Z (((hxs.ext E).get hi1).one 3 Z)) Z (Qa (Qe Z) Z (Qa (R_rem Z Z (by decide) Z) Z (Qa (Yw Z Z) Z (Qa (Ki (Tryz.underlying4) Z Z) Z (Qd (Yp rfl (by subst hq; rw [X0 hm (by omega)]; simp [mkToken]) (Qp (Qf (Qh [true, true, true] Z Z (Qa (Qe Z) Z (Qa (Q8 Z Z (Yc (by unfold maxLen; omega))) Z (Qa (Qg Z) Z (Qd (Qf (Qf (Qh [true, true, true, true, true, true, true, true, true] Z Z (Qa (Qe Z) Z (Qa (Qe Z) Z (Qa (Qv (i := i) sl37 Z Z (hxs.ext E) hi1) Z (Qa (Qz fl110_4 Z) Z (Qa (Qi sc4 Z (((hxs.ext E).get hi1).one 4 Z)) Z (Qa (Qe Z) Z (Qa (R_rem Z Z (by decide) Z) Z (Qa (Yw Z Z) Z (Qa (Ki (Tryz.underlying4) Z Z) Z (Qd (Yp rfl (by subst hq; rw [X0 hm (by omega)]; simp [mkToken]) (Qp (Qh [true, true, true] Z Z (Qa (Qe Z) Z (Qa (Q8 Z Z (Yc (by unfold maxLen; omega))) Z (Qa (Qg Z) Z (Qd (Q5 (Yt (Qh [true, true, true] Z Z (Qa (Qe Z) Z (Qa (Q8 Z Z (Yc (by unfold maxLen; omega))) Z (Qa (Qg Z) Z (Qd (Q5 (Q9 (i + 1, q + 1 + 1 + 1 + 1 + 1) (by simp; omega) ⟨Z, Z, Z, Z, trivial⟩ ⟨E, (by omega), (by omega), (by omega)⟩)))))))))))))))))))))))))))))))))))))))))))))))))))))))))))))))))))))))))))))))))))))))))))))))))))))))
 ·have hc1n : ¬ i < xs.length := by first | (have h := of_decide_eq_false hc1; omega) | (have h := hc1; simp at h; omega)
  refine Yi (Q3 (Q2 ?_))
  refine Qf (Qh [true, true] Z Z (Qa (Qe Z) Z (Qa (Qg Z) Z (Qd (Qw (Qm Z Z E ?_))))))
  subst hq; rw [show i = xs.length from by omega]

set_option maxRecDepth 20000 in
theorem markNewsS (vxs : Value) (lo hi : Nat) (xs : List News) (k : Nat) (w : World) (hxs : Own w lo hi 3 vxs (List.flatMap (Enc.enc (α := News)) xs)) (hb : k + xs.length * 3 ≤ 1099511627776) : CtR Tryz.prog 38 [vxs, .int .i64 ((k : Nat) : Int)] w lo hi (fun v w' => v = .int .i64 ((k + 3 * xs.length : Nat) : Int) ∧ Own w' lo hi 3 vxs (List.flatMap (Enc.enc (α := News)) (mkL 3 mkNews k xs.length))) := by
 refine ctR_of Tryz.func38 Z Tryz.ntmps38 Z ?_
 refine Q7 [(0, vxs), (1, .int .i64 ((k : Nat) : Int))] ⟨Z, Z, trivial⟩ ?_
 have E : ModR w w lo hi := ModR.refl w lo hi
 refine Qf (Qh [true] Z Z (Qa (Qg Z) Z (Qd (Qf (Qf (Qh [true] Z Z (Qa (Qg Z) Z (Qd (Qy (Yh (fun (xq : Nat × Nat × List News) => let ⟨i, q, bs⟩ := xq; [(0, vxs), (1, .int .i64 ((q : Nat) : Int)), (4, .int .i64 0), (5, .int .i64 ((i : Nat) : Int))]) (fun (xq : Nat × Nat × List News) w' => let ⟨i, q, bs⟩ := xq; ModR w w' lo hi ∧ w.heap.size ≤ w'.heap.size ∧ i + bs.length = xs.length ∧ q = k + 3 * i ∧ Own w' lo hi 3 vxs (List.flatMap (Enc.enc (α := News)) (mkL 3 mkNews k i ++ bs))) (fun (xq : Nat × Nat × List News) => let ⟨i, q, bs⟩ := xq; xs.length - i) (0, k, xs) ⟨Z, Z, Z, Z, trivial⟩ ⟨E, Nat.le_refl _, (by simp), (by simp), (by simpa [mkL] using hxs)⟩ ?_))))))))))
 clear E hxs
 rintro ⟨i, q, bs⟩ w1 ⟨E, z1, hi, hq, hxs⟩
 refine Q7 [(0, vxs), (1, .int .i64 ((q : Nat) : Int)), (4, .int .i64 0), (5, .int .i64 ((i : Nat) : Int))] ⟨Z, Z, Z, Z, trivial⟩ ?_
 refine Qf (Qf (Qh [true, true, true, true] Z Z (Qa (Qe Z) Z (Qa (Qe Z) Z (Qa (Q4 Tryz.underlying38 Z (Own.lenE (by decide) hxs (by simp only [List.length_append, Qj, List.length_cons]; omega))) Z (Qa (Yb Z Z) Z (Qd (Qu Z (fun hc1 => ?_) (fun hc1 => ?_)))))))))
 ·rcases bs with _ | ⟨x, bs⟩
  ·exact absurd hi (by have h := hc1; simp at h ⊢; omega)
  simp only [List.length_cons] at hi
  have hc1n : i < xs.length := by first | (have h := of_decide_eq_true hc1; omega) | (have h := hc1; simp at h; omega)
  refine Qp (Qf (Qy (Qf (Qh [true, true, true, true, true, false] Z Z (Qa (Qe Z) Z (Qa (Qe Z) Z (Qa (Qe Z) Z (Qa (Qv sl38 Z Z (Own.rd (by decide) hxs) (by simp only [List.length_append, Qj, List.length_cons]; omega)) Z (Qa (Qz fl114_0 Z) Z (Y2 (α := News) (i := i) (f := 0) (⟨((q : Nat) : Int), x.epoch, x.capped⟩ : News) Yk Z Z Z Z hxs (Qj _ _ _ _) (by decide) Z (fun w2 m1 hxs' => ?_)))))))))))
  have hq := hxs.blk
  replace hxs := hxs'
  replace E := E.mod m1 (fun g hg => by have := hq g hg; omega)
  have z2 := m1.size
  clear hq
  refine Qd (Qf (Qh [true, true, true] Z Z (Qa (Qe Z) Z (Qa (Q8 Z Z (Yc (by unfold maxLen; omega))) Z (Qa (Qg Z) Z (Qd (Qf (Qh [true, true, true, true, true, false] Z Z (Qa (Qe Z) Z (Qa (Qe Z) Z (Qa (Qe Z) Z (Qa (Qv sl38 Z Z (Own.rd (by decide) hxs) (by simp only [List.length_append, Qj, List.length_cons]; omega)) Z (Qa (Qz fl114_1 Z) Z (Y2 (α := News) (i := i) (f := 1) (⟨((q : Nat) : Int), ((q + 1 : Nat) : Int), x.capped⟩ : News) Yk Z Z Z Z hxs (Qj _ _ _ _) (by decide) Z (fun w3 m2 hxs' => ?_)))))))))))))))
  have hq := hxs.blk
  replace hxs := hxs'
  replace E := E.mod m2 (fun g hg => by have := hq g hg; omega)
  have z3 := m2.size
  clear hq
  refine Qd (Qf (Qh [true, true, true] Z Z (Qa (Qe Z) Z (Qa (Q8 Z Z (Yc (by unfold maxLen; omega))) Z (Qa (Qg Z) Z (Qd (Qf (Qh [true, true, true, true, true, true, true, false] Z Z (Qa (Qe Z) Z (Qa (Qe Z) Z (Qa (Qe Z) Z (Qa (R_rem Z Z (by decide) Z) Z (Qa (Yw Z Z) Z (Qa (Qv sl38 Z Z (Own.rd (by decide) hxs) (by simp only [List.length_append, Qj, List.length_cons]; omega)) Z (Qa (Qz fl114_2 Z) Z (Y2 (α := News) (i := i) (f := 2) (⟨((q : Nat) : Int), ((q + 1 : Nat) : Int), (Int.tmod ((q + 1 + 1 : Nat) : Int) 3) == 0⟩ : News) sc4 Z Z Z Z hxs (Qj _ _ _ _) (by decide) Z (fun w4 m3 hxs' => ?_)))))))))))))))))
  have hq := hxs.blk
  replace hxs := hxs'
  replace E := E.mod m3 (fun g hg => by have := hq g hg; omega)
  have z4 := m3.size
  clear hq
  refine Qd (Qh [true, true, true] Z Z (Qa (Qe Z) Z (Qa (Q8 Z Z (Yc (by unfold maxLen; omega))) Z (Qa (Qg Z) Z (Qd (Q5 (Yt (Qh [true, true, true] Z Z (Qa (Qe Z) Z (Qa (Q8 Z Z (Yc (by unfold maxLen; omega))) Z (Qa (Qg Z) Z (Qd (Q5 (Q9 (i + 1, q + 1 + 1 + 1, bs) (by simp; omega) ⟨rfl, rfl, rfl, rfl, trivial⟩ ⟨E, (by omega), (by omega), (by omega), (by subst hq; rw [← mkL_succ]; exact hxs)⟩))))))))))))))
 ·have hc1n : ¬ i < xs.length := by first | (have h := of_decide_eq_false hc1; omega) | (have h := hc1; simp at h; omega)
  refine Yi (Q3 (Q2 ?_))
  refine Qf (Qh [true, true] Z Z (Qa (Qe Z) Z (Qa (Qg Z) Z (Qd (Qw (Qm Z Z E ?_))))))
  exact ⟨by subst hq; rw [show i = xs.length from by omega], by obtain rfl : bs = [] := List.eq_nil_of_length_eq_zero (by omega); rw [show xs.length = i from by simp at hi; omega]; simpa using hxs⟩

set_option maxRecDepth 20000 in
theorem heldNewsS (vxs : Value) (xs : List News) (k : Nat) (w : World) (hxs : RdS w vxs xs) (hm : xs = mkL 3 mkNews k xs.length) (hb : k + xs.length * 3 ≤ 1099511627776) : Ct Tryz.prog 43 [vxs, .int .i64 ((k : Nat) : Int)] w (fun v _ => v = .int .i64 ((k + 3 * xs.length : Nat) : Int)) := by
 refine Yj Tryz.func43 Z Tryz.ntmps43 Z ?_
 refine Q7 [(0, vxs), (1, .int .i64 ((k : Nat) : Int))] ⟨Z, Z, trivial⟩ ?_
 have E : Ext w w := Ext.refl w
 refine Qf (Qh [true] Z Z (Qa (Qg Z) Z (Qd (Qf (Qf (Qh [true] Z Z (Qa (Qg Z) Z (Qd (Qy (Yh (fun (xq : Nat × Nat) => let ⟨i, q⟩ := xq; [(0, vxs), (1, .int .i64 ((q : Nat) : Int)), (4, .int .i64 0), (5, .int .i64 ((i : Nat) : Int))]) (fun (xq : Nat × Nat) w' => let ⟨i, q⟩ := xq; Ext w w' ∧ w.heap.size ≤ w'.heap.size ∧ i ≤ xs.length ∧ q = k + 3 * i) (fun (xq : Nat × Nat) => let ⟨i, q⟩ := xq; xs.length - i) (0, k) ⟨Z, Z, Z, Z, trivial⟩ ⟨E, Nat.le_refl _, Nat.zero_le _, (by simp)⟩ ?_))))))))))
 clear E
 rintro ⟨i, q⟩ w1 ⟨E, z1, hi, hq⟩
 refine Q7 [(0, vxs), (1, .int .i64 ((q : Nat) : Int)), (4, .int .i64 0), (5, .int .i64 ((i : Nat) : Int))] ⟨Z, Z, Z, Z, trivial⟩ ?_
 refine Qf (Qf (Qh [true, true, true, true] Z Z (Qa (Qe Z) Z (Qa (Qe Z) Z (Qa (Q4 Tryz.underlying38 Z (hxs.ext E).len) Z (Qa (Yb Z Z) Z (Qd (Qu Z (fun hc1 => ?_) (fun hc1 => ?_)))))))))
 ·have hc1n : i < xs.length := by first | (have h := of_decide_eq_true hc1; omega) | (have h := hc1; simp at h; omega)
  refine Qp (Qf (Qy (Qf (Qf (Qh [true, true, true, true, true, true, true] Z Z (Qa (Qe Z) Z (Qa (Qe Z) Z ?_)))))))
  have hi1 : i < xs.length := (by first | assumption | omega | (simp only [List.length_set]; first | assumption | omega))
  refine Qa (Qv (i := i) sl38 Z Z (hxs.ext E) hi1) Z (Qa (Qz fl114_0 Z) Z (Qa (Qi Yk Z (((hxs.ext E).get hi1).one 0 Z)) Z (Qa (Qe Z) Z (Qa (Yr Z Z) Z (Qd (Yp rfl (by subst hq; rw [X0 hm (by omega)]; simp [mkNews]) (Qp (Qf (Qh [true, true, true] Z Z (Qa (Qe Z) Z (Qa (Q8 Z Z (Yc (by unfold maxLen; omega))) Z (Qa (Qg Z) Z (Qd (Qf (Qf (Qh [true, true, true, true, true, true, true] Z Z (Qa (Qe Z) Z (Qa (Qe Z) Z (Qa (Qv (i := i) sl38 Z Z (hxs.ext E) hi1) Z (Qa (Qz fl114_1 Z) Z (Qa (Qi Yk Z (((hxs.ext E).get hi1).one 1 Z)) Z (Qa (Qe Z) Z (Qa (Yr Z Z) Z (Qd (Yp rfl (by subst hq; rw [X0 hm (by omega)]; simp [mkNews]) (Qp (Qf (Qh [true, true, true] Z Z (Qa (Qe Z) Z (Qa (Q8 Z Z (Yc (by unfold maxLen; omega))) Z (Qa (Qg Z) Z (Qd (Qf (Qf (Qh [true, true, true, true, true, true, true, true, true] Z Z (Qa (Qe Z) Z (Qa (Qe Z) Z (Qa (Qv (i := i) sl38 Z Z (hxs.ext E) hi1) Z (Qa (Qz fl114_2 Z) Z (Qa (Qi sc4 Z (((hxs.ext E).get hi1).one 2 Z)) Z (Qa (Qe Z) Z (Qa (R_rem Z Z (by decide) Z) Z (Qa (Yw Z Z) Z (Qa (Ki (Tryz.underlying4) Z Z) Z (Qd (Yp rfl (by subst hq; rw [X0 hm (by omega)]; simp [mkNews]) (Qp (Qh [true, true, true] Z Z (Qa (Qe Z) Z (Qa (Q8 Z Z (Yc (by unfold maxLen; omega))) Z (Qa (Qg Z) Z (Qd (Q5 (Yt (Qh [true, true, true] Z Z (Qa (Qe Z) Z (Qa (Q8 Z Z (Yc (by unfold maxLen; omega))) Z (Qa (Qg Z) Z (Qd (Q5 (Q9 (i + 1, q + 1 + 1 + 1) (by simp; omega) ⟨Z, Z, Z, Z, trivial⟩ ⟨E, (by omega), (by omega), (by omega)⟩)))))))))))))))))))))))))))))))))))))))))))))))))))))))))))))
 ·have hc1n : ¬ i < xs.length := by first | (have h := of_decide_eq_false hc1; omega) | (have h := hc1; simp at h; omega)
  refine Yi (Q3 (Q2 ?_))
  refine Qf (Qh [true, true] Z Z (Qa (Qe Z) Z (Qa (Qg Z) Z (Qd (Qw (Qm Z Z E ?_))))))
  subst hq; rw [show i = xs.length from by omega]

set_option maxHeartbeats 4000000 in
set_option maxRecDepth 20000 in
theorem markWorkerS (vxs : Value) (lo hi : Nat) (fp : List Nat) (xs : List Worker) (k : Nat) (w : World) (gxs : OwF w lo hi vxs xs fp) (hhi : hi ≤ w.heap.size) (hb : k + 5 * Xu Yd xs ≤ 1099511627776) : CtR Tryz.prog 35 [vxs, .int .i64 ((k : Nat) : Int)] w lo hi (fun v w' => v = .int .i64 (((X7 numW) k xs : Nat) : Int) ∧ OwF w' lo hi vxs ((markA numW markW) k xs) fp ∧ Kq w w' fp) := by
 have hxs : OwK w fp w lo hi vxs xs := ⟨gxs, Kq.refl _ _⟩
 have hmx : xs.length ≤ maxLen := hxs.rd.1.1
 unfold maxLen at hmx
 refine ctR_of Tryz.func35 Z Tryz.ntmps35 Z ?_
 refine Q7 [(0, vxs), (1, .int .i64 ((k : Nat) : Int))] ⟨Z, Z, trivial⟩ ?_
 have E : ModR w w lo hi := ModR.refl w lo hi
 refine Qf (Qh [true] Z Z (Qa (Qg Z) Z (Qd (Qf (Qf (Qh [true] Z Z (Qa (Qg Z) Z (Qd (Qy (Yh (fun (xq : Nat × Nat) => let ⟨i, q⟩ := xq; [(0, vxs), (1, .int .i64 ((q : Nat) : Int)), (4, .int .i64 0), (5, .int .i64 ((i : Nat) : Int))]) (fun (xq : Nat × Nat) w' => let ⟨i, q⟩ := xq; ModR w w' lo hi ∧ w.heap.size ≤ w'.heap.size ∧ i ≤ xs.length ∧ q = (X7 numW) k (xs.take i) ∧ OwK w fp w' lo hi vxs ((markA numW markW) k (xs.take i) ++ xs.drop i)) (fun (xq : Nat × Nat) => let ⟨i, q⟩ := xq; xs.length - i) (0, k) ⟨Z, Z, Z, Z, trivial⟩ ⟨E, Nat.le_refl _, Nat.zero_le _, Z, (by simpa [markA] using hxs)⟩ ?_))))))))))
 clear E hxs
 rintro ⟨i, q⟩ w1 ⟨E, z1, hi0, hq, hxs⟩
 refine Q7 [(0, vxs), (1, .int .i64 ((q : Nat) : Int)), (4, .int .i64 0), (5, .int .i64 ((i : Nat) : Int))] ⟨Z, Z, Z, Z, trivial⟩ ?_
 refine Qf (Qf (Qh [true, true, true, true] Z Z (Qa (Qe Z) Z (Qa (Qe Z) Z (Qa (Q4 Tryz.underlying35 Z (OwK.lenE (n := xs.length) hxs (by simp [markA_length]; omega))) Z (Qa (Yb Z Z) Z (Qd (Qu Z (fun hc1 => ?_) (fun hc1 => ?_)))))))))
 ·have hlt : i < xs.length := by have h := of_decide_eq_true hc1; omega
  rw [drop_split hlt] at hxs
  obtain ⟨_, ho1, hrow⟩ := OwK.focus hxs
  obtain ⟨o1, o2, o3, o4, o5, o6, o7, o8, rfl, sp1, hw1, hw2, hw3, hw4, hw5, hw6, hw7, hw8⟩ := Worker.opO ho1
  clear hxs
  have hl0 : ((markA numW markW) k (xs.take i)).length = i := by rw [markA_length]; simp; omega
  have hn0 : i + 1 + (xs.drop (i + 1)).length = xs.length := by simp; omega
  have hqk := numA_le (k := k) numW_bd hlt; rw [← hq] at hqk; unfold numW at hqk
  have hc1n : i < xs.length := by first | (have h := of_decide_eq_true hc1; omega) | (have h := hc1; simp at h; omega)
  refine Qp (Qf (Qy (Qf (Qh [true, true, true, true, true, true, false, true] Z Z (Qa (Qe Z) Z (Qa (Qe Z) Z (Qa (Qv (i := i) Kf Z Z (RowK.same1 hrow hl0 hn0) (by simp; omega)) Z (Qa (Qz fl72_0 Z) Z (Qa (Qi Xa Z ((RowK.at hrow hl0).one 0 Z)) Z (Qa (Qe Z) Z (Xs Tryz.call71 Z Z (markRecordS o1 (bl o1) (bh o1) ((xs[i]'hlt).queue) q _ (Own.tight hw1) (by first | omega | (simp only [Qj]; omega) | (rw [Qj]; done) | (simp only [Qj]; done))) Z (fun _ w2 e1 hv => ?_))))))))))))
  obtain ⟨rfl, hw1'⟩ := hv
  have e1c := ModR.loose e1 (Own.blk hw1)
  replace hw1 := Own.loose hw1' (Own.blk hw1)
  clear hw1'
  replace E := E.trans e1c (by omega) (by omega); replace hw2 := Own.modRS hw2 e1 sp1.1.1; replace hw3 := Own.modRS hw3 e1 sp1.1.2.1; replace hw4 := Own.modRS hw4 e1 sp1.1.2.2.1; replace hw5 := Own.modRS hw5 e1 sp1.1.2.2.2.1; replace hw6 := Own.modRS hw6 e1 sp1.1.2.2.2.2.1; replace hw7 := Own.modRS hw7 e1 sp1.1.2.2.2.2.2.1; replace hw8 := Own.modRS hw8 e1 sp1.1.2.2.2.2.2.2.1; replace hrow := RowK.modRS hrow e1 (by simp)
  have z2 := e1c.size
  refine Qa (Qg Z) Z (Qd (Qf (Qh [true, true, true, true, true, true, false, true] Z Z (Qa (Qe Z) Z (Qa (Qe Z) Z (Qa (Qv (i := i) Kf Z Z (RowK.same1 hrow hl0 hn0) (by simp; omega)) Z (Qa (Qz fl72_1 Z) Z (Qa (Qi Xa Z ((RowK.at hrow hl0).one 1 Z)) Z (Qa (Qe Z) Z (Xs Tryz.call71 Z Z (markRecordS o2 (bl o2) (bh o2) ((xs[i]'hlt).staged) (q + 5 * ((xs[i]'hlt).queue).length) _ (Own.tight hw2) (by first | omega | (simp only [Qj]; omega) | (rw [Qj]; done) | (simp only [Qj]; done))) Z (fun _ w3 e2 hv => ?_)))))))))))
  obtain ⟨rfl, hw2'⟩ := hv
  have e2c := ModR.loose e2 (Own.blk hw2)
  replace hw2 := Own.loose hw2' (Own.blk hw2)
  clear hw2'
  replace E := E.trans e2c (by omega) (by omega); replace hw1 := Own.modRS hw1 e2 (sp1.1.1).symm; replace hw3 := Own.modRS hw3 e2 sp1.2.1.1; replace hw4 := Own.modRS hw4 e2 sp1.2.1.2.1; replace hw5 := Own.modRS hw5 e2 sp1.2.1.2.2.1; replace hw6 := Own.modRS hw6 e2 sp1.2.1.2.2.2.1; replace hw7 := Own.modRS hw7 e2 sp1.2.1.2.2.2.2.1; replace hw8 := Own.modRS hw8 e2 sp1.2.1.2.2.2.2.2.1; replace hrow := RowK.modRS hrow e2 (by simp)
  have z3 := e2c.size
  refine Qa (Qg Z) Z (Qd (Qf (Qh [true, true, true, true, true, true, false, true] Z Z (Qa (Qe Z) Z (Qa (Qe Z) Z (Qa (Qv (i := i) Kf Z Z (RowK.same1 hrow hl0 hn0) (by simp; omega)) Z (Qa (Qz Xo Z) Z (Qa (Qi Xa Z ((RowK.at hrow hl0).one 2 Z)) Z (Qa (Qe Z) Z (Xs Tryz.call71 Z Z (markRecordS o3 (bl o3) (bh o3) ((xs[i]'hlt).inputs) ((q + 5 * ((xs[i]'hlt).queue).length) + 5 * ((xs[i]'hlt).staged).length) _ (Own.tight hw3) (by first | omega | (simp only [Qj]; omega) | (rw [Qj]; done) | (simp only [Qj]; done))) Z (fun _ w4 e3 hv => ?_)))))))))))
  obtain ⟨rfl, hw3'⟩ := hv
  have e3c := ModR.loose e3 (Own.blk hw3)
  replace hw3 := Own.loose hw3' (Own.blk hw3)
  clear hw3'
  replace E := E.trans e3c (by omega) (by omega); replace hw1 := Own.modRS hw1 e3 (sp1.1.2.1).symm; replace hw2 := Own.modRS hw2 e3 (sp1.2.1.1).symm; replace hw4 := Own.modRS hw4 e3 sp1.2.2.1.1; replace hw5 := Own.modRS hw5 e3 sp1.2.2.1.2.1; replace hw6 := Own.modRS hw6 e3 sp1.2.2.1.2.2.1; replace hw7 := Own.modRS hw7 e3 sp1.2.2.1.2.2.2.1; replace hw8 := Own.modRS hw8 e3 sp1.2.2.1.2.2.2.2.1; replace hrow := RowK.modRS hrow e3 (by simp)
  have z4 := e3c.size
  refine Qa (Qg Z) Z (Qd (Qf (Qh [true, true, true, true, true, true, false, true] Z Z (Qa (Qe Z) Z (Qa (Qe Z) Z (Qa (Qv (i := i) Kf Z Z (RowK.same1 hrow hl0 hn0) (by simp; omega)) Z (Qa (Qz fl72_3 Z) Z (Qa (Qi sc67 Z ((RowK.at hrow hl0).one 3 Z)) Z (Qa (Qe Z) Z (Xs Tryz.call72 Z Z (markCellS o4 (bl o4) (bh o4) ((xs[i]'hlt).cells) (((q + 5 * ((xs[i]'hlt).queue).length) + 5 * ((xs[i]'hlt).staged).length) + 5 * ((xs[i]'hlt).inputs).length) _ (Own.tight hw4) (by first | omega | (simp only [Qj]; omega) | (rw [Qj]; done) | (simp only [Qj]; done))) Z (fun _ w5 e4 hv => ?_)))))))))))
  obtain ⟨rfl, hw4'⟩ := hv
  have e4c := ModR.loose e4 (Own.blk hw4)
  replace hw4 := Own.loose hw4' (Own.blk hw4)
  clear hw4'
  replace E := E.trans e4c (by omega) (by omega); replace hw1 := Own.modRS hw1 e4 (sp1.1.2.2.1).symm; replace hw2 := Own.modRS hw2 e4 (sp1.2.1.2.1).symm; replace hw3 := Own.modRS hw3 e4 (sp1.2.2.1.1).symm; replace hw5 := Own.modRS hw5 e4 sp1.2.2.2.1.1; replace hw6 := Own.modRS hw6 e4 sp1.2.2.2.1.2.1; replace hw7 := Own.modRS hw7 e4 sp1.2.2.2.1.2.2.1; replace hw8 := Own.modRS hw8 e4 sp1.2.2.2.1.2.2.2.1; replace hrow := RowK.modRS hrow e4 (by simp)
  have z5 := e4c.size
  refine Qa (Qg Z) Z (Qd (Qf (Qh [true, true, true, true, true, true, false, true] Z Z (Qa (Qe Z) Z (Qa (Qe Z) Z (Qa (Qv (i := i) Kf Z Z (RowK.same1 hrow hl0 hn0) (by simp; omega)) Z (Qa (Qz fl72_4 Z) Z (Qa (Qi Yy Z ((RowK.at hrow hl0).one 4 Z)) Z (Qa (Qe Z) Z (Xs Tryz.call73 Z Z (markIntS o5 (bl o5) (bh o5) ((xs[i]'hlt).sums) ((((q + 5 * ((xs[i]'hlt).queue).length) + 5 * ((xs[i]'hlt).staged).length) + 5 * ((xs[i]'hlt).inputs).length) + 4 * ((xs[i]'hlt).cells).length) _ (Own.tight hw5) (by first | omega | (simp only [Qj]; omega) | (rw [Qj]; done) | (simp only [Qj]; done))) Z (fun _ w6 e5 hv => ?_)))))))))))
  obtain ⟨rfl, hw5'⟩ := hv
  have e5c := ModR.loose e5 (Own.blk hw5)
  replace hw5 := Own.loose hw5' (Own.blk hw5)
  clear hw5'
  replace E := E.trans e5c (by omega) (by omega); replace hw1 := Own.modRS hw1 e5 (sp1.1.2.2.2.1).symm; replace hw2 := Own.modRS hw2 e5 (sp1.2.1.2.2.1).symm; replace hw3 := Own.modRS hw3 e5 (sp1.2.2.1.2.1).symm; replace hw4 := Own.modRS hw4 e5 (sp1.2.2.2.1.1).symm; replace hw6 := Own.modRS hw6 e5 sp1.2.2.2.2.1.1; replace hw7 := Own.modRS hw7 e5 sp1.2.2.2.2.1.2.1; replace hw8 := Own.modRS hw8 e5 sp1.2.2.2.2.1.2.2.1; replace hrow := RowK.modRS hrow e5 (by simp)
  have z6 := e5c.size
  refine Qa (Qg Z) Z (Qd (Qf (Qh [true, true, true, true, true, true, false, true] Z Z (Qa (Qe Z) Z (Qa (Qe Z) Z (Qa (Qv (i := i) Kf Z Z (RowK.same1 hrow hl0 hn0) (by simp; omega)) Z (Qa (Qz fl72_5 Z) Z (Qa (Qi sc69 Z ((RowK.at hrow hl0).one 5 Z)) Z (Qa (Qe Z) Z (Xs Tryz.call74 Z Z (markBoolS o6 (bl o6) (bh o6) ((xs[i]'hlt).black) (((((q + 5 * ((xs[i]'hlt).queue).length) + 5 * ((xs[i]'hlt).staged).length) + 5 * ((xs[i]'hlt).inputs).length) + 4 * ((xs[i]'hlt).cells).length) + 1 * ((xs[i]'hlt).sums).length) _ (Own.tight hw6) (by first | omega | (simp only [Qj]; omega) | (rw [Qj]; done) | (simp only [Qj]; done))) Z (fun _ w7 e6 hv => ?_)))))))))))
  obtain ⟨rfl, hw6'⟩ := hv
  have e6c := ModR.loose e6 (Own.blk hw6)
  replace hw6 := Own.loose hw6' (Own.blk hw6)
  clear hw6'
  replace E := E.trans e6c (by omega) (by omega); replace hw1 := Own.modRS hw1 e6 (sp1.1.2.2.2.2.1).symm; replace hw2 := Own.modRS hw2 e6 (sp1.2.1.2.2.2.1).symm; replace hw3 := Own.modRS hw3 e6 (sp1.2.2.1.2.2.1).symm; replace hw4 := Own.modRS hw4 e6 (sp1.2.2.2.1.2.1).symm; replace hw5 := Own.modRS hw5 e6 (sp1.2.2.2.2.1.1).symm; replace hw7 := Own.modRS hw7 e6 sp1.2.2.2.2.2.1.1; replace hw8 := Own.modRS hw8 e6 sp1.2.2.2.2.2.1.2.1; replace hrow := RowK.modRS hrow e6 (by simp)
  have z7 := e6c.size
  refine Qa (Qg Z) Z (Qd (Qf (Qh [true, true, true, true, true, true, false, true] Z Z (Qa (Qe Z) Z (Qa (Qe Z) Z (Qa (Qv (i := i) Kf Z Z (RowK.same1 hrow hl0 hn0) (by simp; omega)) Z (Qa (Qz fl72_6 Z) Z (Qa (Qi sc69 Z ((RowK.at hrow hl0).one 6 Z)) Z (Qa (Qe Z) Z (Xs Tryz.call74 Z Z (markBoolS o7 (bl o7) (bh o7) ((xs[i]'hlt).caps) ((((((q + 5 * ((xs[i]'hlt).queue).length) + 5 * ((xs[i]'hlt).staged).length) + 5 * ((xs[i]'hlt).inputs).length) + 4 * ((xs[i]'hlt).cells).length) + 1 * ((xs[i]'hlt).sums).length) + 1 * ((xs[i]'hlt).black).length) _ (Own.tight hw7) (by first | omega | (simp only [Qj]; omega) | (rw [Qj]; done) | (simp only [Qj]; done))) Z (fun _ w8 e7 hv => ?_)))))))))))
  obtain ⟨rfl, hw7'⟩ := hv
  have e7c := ModR.loose e7 (Own.blk hw7)
  replace hw7 := Own.loose hw7' (Own.blk hw7)
  clear hw7'
  replace E := E.trans e7c (by omega) (by omega); replace hw1 := Own.modRS hw1 e7 (sp1.1.2.2.2.2.2.1).symm; replace hw2 := Own.modRS hw2 e7 (sp1.2.1.2.2.2.2.1).symm; replace hw3 := Own.modRS hw3 e7 (sp1.2.2.1.2.2.2.1).symm; replace hw4 := Own.modRS hw4 e7 (sp1.2.2.2.1.2.2.1).symm; replace hw5 := Own.modRS hw5 e7 (sp1.2.2.2.2.1.2.1).symm; replace hw6 := Own.modRS hw6 e7 (sp1.2.2.2.2.2.1.1).symm; replace hw8 := Own.modRS hw8 e7 sp1.2.2.2.2.2.2.1.1; replace hrow := RowK.modRS hrow e7 (by simp)
  have z8 := e7c.size
  refine Qa (Qg Z) Z (Qd (Qh [true, true, true, true, true, true, false, true] Z Z (Qa (Qe Z) Z (Qa (Qe Z) Z (Qa (Qv (i := i) Kf Z Z (RowK.same1 hrow hl0 hn0) (by simp; omega)) Z (Qa (Qz fl72_7 Z) Z (Qa (Qi sc70 Z ((RowK.at hrow hl0).one 7 Z)) Z (Qa (Qe Z) Z (Xs Tryz.call75 Z Z (markDoneS o8 (bl o8) (bh o8) ((xs[i]'hlt).dones) (((((((q + 5 * ((xs[i]'hlt).queue).length) + 5 * ((xs[i]'hlt).staged).length) + 5 * ((xs[i]'hlt).inputs).length) + 4 * ((xs[i]'hlt).cells).length) + 1 * ((xs[i]'hlt).sums).length) + 1 * ((xs[i]'hlt).black).length) + 1 * ((xs[i]'hlt).caps).length) _ (Own.tight hw8) (by first | omega | (simp only [Qj]; omega) | (rw [Qj]; done) | (simp only [Qj]; done))) Z (fun _ w9 e8 hv => ?_))))))))))
  obtain ⟨rfl, hw8'⟩ := hv
  have e8c := ModR.loose e8 (Own.blk hw8)
  replace hw8 := Own.loose hw8' (Own.blk hw8)
  clear hw8'
  replace E := E.trans e8c (by omega) (by omega); replace hw1 := Own.modRS hw1 e8 (sp1.1.2.2.2.2.2.2.1).symm; replace hw2 := Own.modRS hw2 e8 (sp1.2.1.2.2.2.2.2.1).symm; replace hw3 := Own.modRS hw3 e8 (sp1.2.2.1.2.2.2.2.1).symm; replace hw4 := Own.modRS hw4 e8 (sp1.2.2.2.1.2.2.2.1).symm; replace hw5 := Own.modRS hw5 e8 (sp1.2.2.2.2.1.2.2.1).symm; replace hw6 := Own.modRS hw6 e8 (sp1.2.2.2.2.2.1.2.1).symm; replace hw7 := Own.modRS hw7 e8 (sp1.2.2.2.2.2.2.1.1).symm; replace hrow := RowK.modRS hrow e8 (by simp)
  have z9 := e8c.size
  refine Qa (Qg Z) Z (Qd (Q5 (Yt (Qh [true, true, true] Z Z (Qa (Qe Z) Z (Qa (Q8 Z Z (Yc (by unfold maxLen; omega))) Z (Qa (Qg Z) Z (Qd ?_))))))))
  have hxs := RowK.close hrow (Worker.mkO (⟨mkL 5 Kc q ((xs[i]'hlt).queue).length, mkL 5 Kc (q + 5 * ((xs[i]'hlt).queue).length) ((xs[i]'hlt).staged).length, mkL 5 Kc ((q + 5 * ((xs[i]'hlt).queue).length) + 5 * ((xs[i]'hlt).staged).length) ((xs[i]'hlt).inputs).length, mkL 4 mkCell (((q + 5 * ((xs[i]'hlt).queue).length) + 5 * ((xs[i]'hlt).staged).length) + 5 * ((xs[i]'hlt).inputs).length) ((xs[i]'hlt).cells).length, mkL 1 mkInt ((((q + 5 * ((xs[i]'hlt).queue).length) + 5 * ((xs[i]'hlt).staged).length) + 5 * ((xs[i]'hlt).inputs).length) + 4 * ((xs[i]'hlt).cells).length) ((xs[i]'hlt).sums).length, mkL 1 mkBool (((((q + 5 * ((xs[i]'hlt).queue).length) + 5 * ((xs[i]'hlt).staged).length) + 5 * ((xs[i]'hlt).inputs).length) + 4 * ((xs[i]'hlt).cells).length) + 1 * ((xs[i]'hlt).sums).length) ((xs[i]'hlt).black).length, mkL 1 mkBool ((((((q + 5 * ((xs[i]'hlt).queue).length) + 5 * ((xs[i]'hlt).staged).length) + 5 * ((xs[i]'hlt).inputs).length) + 4 * ((xs[i]'hlt).cells).length) + 1 * ((xs[i]'hlt).sums).length) + 1 * ((xs[i]'hlt).black).length) ((xs[i]'hlt).caps).length, mkL 2 mkDone (((((((q + 5 * ((xs[i]'hlt).queue).length) + 5 * ((xs[i]'hlt).staged).length) + 5 * ((xs[i]'hlt).inputs).length) + 4 * ((xs[i]'hlt).cells).length) + 1 * ((xs[i]'hlt).sums).length) + 1 * ((xs[i]'hlt).black).length) + 1 * ((xs[i]'hlt).caps).length) ((xs[i]'hlt).dones).length⟩ : Worker) sp1 (Own.widen hw1 (by omega) (by omega)) (Own.widen hw2 (by omega) (by omega)) (Own.widen hw3 (by omega) (by omega)) (Own.widen hw4 (by omega) (by omega)) (Own.widen hw5 (by omega) (by omega)) (Own.widen hw6 (by omega) (by omega)) (Own.widen hw7 (by omega) (by omega)) (Own.widen hw8 (by omega) (by omega)))
  refine Q5 (Q9 (i + 1, (((((((q + 5 * ((xs[i]'hlt).queue).length) + 5 * ((xs[i]'hlt).staged).length) + 5 * ((xs[i]'hlt).inputs).length) + 4 * ((xs[i]'hlt).cells).length) + 1 * ((xs[i]'hlt).sums).length) + 1 * ((xs[i]'hlt).black).length) + 1 * ((xs[i]'hlt).caps).length) + 2 * ((xs[i]'hlt).dones).length) (by simp; omega) ⟨Z, Z, Z, Z, trivial⟩ ⟨E, (by omega), (by omega), (by rw [numA_take hlt, ← hq]; rfl), (by rw [markA_take hlt, ← hq]; exact hxs)⟩)
 ·have hc1n : ¬ i < xs.length := by first | (have h := of_decide_eq_false hc1; omega) | (have h := hc1; simp at h; omega)
  refine Yi (Q3 (Q2 ?_))
  refine Qf (Qh [true, true] Z Z (Qa (Qe Z) Z (Qa (Qg Z) Z (Qd (Qw (Qm Z Z E ?_))))))
  have hi9 : xs.length ≤ i := by have h := of_decide_eq_false hc1; omega
  rw [List.take_of_length_le hi9] at hq hxs
  rw [List.drop_of_length_le hi9, List.append_nil] at hxs
  exact ⟨by rw [hq], hxs.1, hxs.2⟩

set_option maxHeartbeats 4000000 in
set_option maxRecDepth 20000 in
theorem markLinkS (vxs : Value) (lo hi : Nat) (fp : List Nat) (xs : List Link) (k : Nat) (w : World) (gxs : OwF w lo hi vxs xs fp) (hhi : hi ≤ w.heap.size) (hb : k + 5 * Xu Y9 xs ≤ 1099511627776) : CtR Tryz.prog 36 [vxs, .int .i64 ((k : Nat) : Int)] w lo hi (fun v w' => v = .int .i64 (((X7 numL1) k xs : Nat) : Int) ∧ OwF w' lo hi vxs ((markA numL1 markL1) k xs) fp ∧ Kq w w' fp) := by
 have hxs : OwK w fp w lo hi vxs xs := ⟨gxs, Kq.refl _ _⟩
 have hmx : xs.length ≤ maxLen := hxs.rd.1.1
 unfold maxLen at hmx
 refine ctR_of Tryz.func36 Z Tryz.ntmps36 Z ?_
 refine Q7 [(0, vxs), (1, .int .i64 ((k : Nat) : Int))] ⟨Z, Z, trivial⟩ ?_
 have E : ModR w w lo hi := ModR.refl w lo hi
 refine Qf (Qh [true] Z Z (Qa (Qg Z) Z (Qd (Qf (Qf (Qh [true] Z Z (Qa (Qg Z) Z (Qd (Qy (Yh (fun (xq : Nat × Nat) => let ⟨i, q⟩ := xq; [(0, vxs), (1, .int .i64 ((q : Nat) : Int)), (4, .int .i64 0), (5, .int .i64 ((i : Nat) : Int))]) (fun (xq : Nat × Nat) w' => let ⟨i, q⟩ := xq; ModR w w' lo hi ∧ w.heap.size ≤ w'.heap.size ∧ i ≤ xs.length ∧ q = (X7 numL1) k (xs.take i) ∧ OwK w fp w' lo hi vxs ((markA numL1 markL1) k (xs.take i) ++ xs.drop i)) (fun (xq : Nat × Nat) => let ⟨i, q⟩ := xq; xs.length - i) (0, k) ⟨Z, Z, Z, Z, trivial⟩ ⟨E, Nat.le_refl _, Nat.zero_le _, Z, (by simpa [markA] using hxs)⟩ ?_))))))))))
 clear E hxs
 rintro ⟨i, q⟩ w1 ⟨E, z1, hi0, hq, hxs⟩
 refine Q7 [(0, vxs), (1, .int .i64 ((q : Nat) : Int)), (4, .int .i64 0), (5, .int .i64 ((i : Nat) : Int))] ⟨Z, Z, Z, Z, trivial⟩ ?_
 refine Qf (Qf (Qh [true, true, true, true] Z Z (Qa (Qe Z) Z (Qa (Qe Z) Z (Qa (Q4 Tryz.underlying36 Z (OwK.lenE (n := xs.length) hxs (by simp [markA_length]; omega))) Z (Qa (Yb Z Z) Z (Qd (Qu Z (fun hc1 => ?_) (fun hc1 => ?_)))))))))
 ·have hlt : i < xs.length := by have h := of_decide_eq_true hc1; omega
  rw [drop_split hlt] at hxs
  obtain ⟨_, ho1, hrow⟩ := OwK.focus hxs
  obtain ⟨o1, rfl, sp1, hw1⟩ := Link.opO ho1
  clear hxs
  have hl0 : ((markA numL1 markL1) k (xs.take i)).length = i := by rw [markA_length]; simp; omega
  have hn0 : i + 1 + (xs.drop (i + 1)).length = xs.length := by simp; omega
  have hqk := numA_le (k := k) numL1_bd hlt; rw [← hq] at hqk; unfold numL1 at hqk
  have hc1n : i < xs.length := by first | (have h := of_decide_eq_true hc1; omega) | (have h := hc1; simp at h; omega)
  refine Qp (Qf (Qy (Qf (Qh [true, true, true, true, true, false] Z Z (Qa (Qe Z) Z (Qa (Qe Z) Z (Qa (Qe Z) Z (Qa (Qv (i := i) sl36 Z Z (RowK.same1 hrow hl0 hn0) (by simp; omega)) Z (Qa (Qz fl88_0 Z) Z ?_)))))))))
  have hq1 := RowK.sep hrow (u := o1) (by simp)
  have hqb := RowK.blk hrow
  refine Ke (i := i) (f := 0) (cs' := [.int .i64 ((q : Nat) : Int), o1, .int .i64 ((xs[i]'hlt).credits), .int .i64 ((xs[i]'hlt).back), .int .i64 ((xs[i]'hlt).sent), .int .i64 ((xs[i]'hlt).got)]) Yk Z Z Z Z hrow hl0 (by decide) Z Z (fun w2 m1 hrow' => ?_)
  replace hrow := hrow'
  replace E := E.mod m1 (fun g hg => by have := hqb g hg; omega); replace hw1 := Own.modS hw1 m1 hq1
  have z2 := m1.size
  clear hqb hq1
  refine Qd (Qf (Qh [true, true, true] Z Z (Qa (Qe Z) Z (Qa (Q8 Z Z (Yc (by unfold maxLen; omega))) Z (Qa (Qg Z) Z (Qd (Qf (Qh [true, true, true, true, true, true, false, true] Z Z (Qa (Qe Z) Z (Qa (Qe Z) Z (Qa (Qv (i := i) sl36 Z Z (RowK.same1 hrow hl0 hn0) (by simp; omega)) Z (Qa (Qz X5 Z) Z (Qa (Qi Xa Z ((RowK.at hrow hl0).one 1 Z)) Z (Qa (Qe Z) Z (Xs Tryz.call71 Z Z (markRecordS o1 (bl o1) (bh o1) ((xs[i]'hlt).queue) (q + 1) _ (Own.tight hw1) (by first | omega | (simp only [Qj]; omega) | (rw [Qj]; done) | (simp only [Qj]; done))) Z (fun _ w3 e1 hv => ?_))))))))))))))))
  obtain ⟨rfl, hw1'⟩ := hv
  have e1c := ModR.loose e1 (Own.blk hw1)
  replace hw1 := Own.loose hw1' (Own.blk hw1)
  clear hw1'
  replace E := E.trans e1c (by omega) (by omega); replace hrow := RowK.modRS hrow e1 (by simp)
  have z3 := e1c.size
  refine Qa (Qg Z) Z (Qd (Qf (Qh [true, true, true, true, true, false] Z Z (Qa (Qe Z) Z (Qa (Qe Z) Z (Qa (Qe Z) Z (Qa (Qv (i := i) sl36 Z Z (RowK.same1 hrow hl0 hn0) (by simp; omega)) Z (Qa (Qz fl88_2 Z) Z ?_))))))))
  have hq2 := RowK.sep hrow (u := o1) (by simp)
  have hqb := RowK.blk hrow
  refine Ke (i := i) (f := 2) (cs' := [.int .i64 ((q : Nat) : Int), o1, .int .i64 (((q + 1) + 5 * ((xs[i]'hlt).queue).length : Nat) : Int), .int .i64 ((xs[i]'hlt).back), .int .i64 ((xs[i]'hlt).sent), .int .i64 ((xs[i]'hlt).got)]) Yk Z Z Z Z hrow hl0 (by decide) Z Z (fun w4 m2 hrow' => ?_)
  replace hrow := hrow'
  replace E := E.mod m2 (fun g hg => by have := hqb g hg; omega); replace hw1 := Own.modS hw1 m2 hq2
  have z4 := m2.size
  clear hqb hq2
  refine Qd (Qf (Qh [true, true, true] Z Z (Qa (Qe Z) Z (Qa (Q8 Z Z (Yc (by unfold maxLen; omega))) Z (Qa (Qg Z) Z (Qd (Qf (Qh [true, true, true, true, true, false] Z Z (Qa (Qe Z) Z (Qa (Qe Z) Z (Qa (Qe Z) Z (Qa (Qv (i := i) sl36 Z Z (RowK.same1 hrow hl0 hn0) (by simp; omega)) Z (Qa (Qz fl88_3 Z) Z ?_)))))))))))))
  have hq3 := RowK.sep hrow (u := o1) (by simp)
  have hqb := RowK.blk hrow
  refine Ke (i := i) (f := 3) (cs' := [.int .i64 ((q : Nat) : Int), o1, .int .i64 (((q + 1) + 5 * ((xs[i]'hlt).queue).length : Nat) : Int), .int .i64 (((q + 1) + 5 * ((xs[i]'hlt).queue).length + 1 : Nat) : Int), .int .i64 ((xs[i]'hlt).sent), .int .i64 ((xs[i]'hlt).got)]) Yk Z Z Z Z hrow hl0 (by decide) Z Z (fun w5 m3 hrow' => ?_)
  replace hrow := hrow'
  replace E := E.mod m3 (fun g hg => by have := hqb g hg; omega); replace hw1 := Own.modS hw1 m3 hq3
  have z5 := m3.size
  clear hqb hq3
  refine Qd (Qf (Qh [true, true, true] Z Z (Qa (Qe Z) Z (Qa (Q8 Z Z (Yc (by unfold maxLen; omega))) Z (Qa (Qg Z) Z (Qd (Qf (Qh [true, true, true, true, true, false] Z Z (Qa (Qe Z) Z (Qa (Qe Z) Z (Qa (Qe Z) Z (Qa (Qv (i := i) sl36 Z Z (RowK.same1 hrow hl0 hn0) (by simp; omega)) Z (Qa (Qz fl88_4 Z) Z ?_)))))))))))))
  have hq4 := RowK.sep hrow (u := o1) (by simp)
  have hqb := RowK.blk hrow
  refine Ke (i := i) (f := 4) (cs' := [.int .i64 ((q : Nat) : Int), o1, .int .i64 (((q + 1) + 5 * ((xs[i]'hlt).queue).length : Nat) : Int), .int .i64 (((q + 1) + 5 * ((xs[i]'hlt).queue).length + 1 : Nat) : Int), .int .i64 (((q + 1) + 5 * ((xs[i]'hlt).queue).length + 1 + 1 : Nat) : Int), .int .i64 ((xs[i]'hlt).got)]) Yk Z Z Z Z hrow hl0 (by decide) Z Z (fun w6 m4 hrow' => ?_)
  replace hrow := hrow'
  replace E := E.mod m4 (fun g hg => by have := hqb g hg; omega); replace hw1 := Own.modS hw1 m4 hq4
  have z6 := m4.size
  clear hqb hq4
  refine Qd (Qf (Qh [true, true, true] Z Z (Qa (Qe Z) Z (Qa (Q8 Z Z (Yc (by unfold maxLen; omega))) Z (Qa (Qg Z) Z (Qd (Qf (Qh [true, true, true, true, true, false] Z Z (Qa (Qe Z) Z (Qa (Qe Z) Z (Qa (Qe Z) Z (Qa (Qv (i := i) sl36 Z Z (RowK.same1 hrow hl0 hn0) (by simp; omega)) Z (Qa (Qz fl88_5 Z) Z ?_)))))))))))))
  have hq5 := RowK.sep hrow (u := o1) (by simp)
  have hqb := RowK.blk hrow
  refine Ke (i := i) (f := 5) (cs' := [.int .i64 ((q : Nat) : Int), o1, .int .i64 (((q + 1) + 5 * ((xs[i]'hlt).queue).length : Nat) : Int), .int .i64 (((q + 1) + 5 * ((xs[i]'hlt).queue).length + 1 : Nat) : Int), .int .i64 (((q + 1) + 5 * ((xs[i]'hlt).queue).length + 1 + 1 : Nat) : Int), .int .i64 (((q + 1) + 5 * ((xs[i]'hlt).queue).length + 1 + 1 + 1 : Nat) : Int)]) Yk Z Z Z Z hrow hl0 (by decide) Z Z (fun w7 m5 hrow' => ?_)
  replace hrow := hrow'
  replace E := E.mod m5 (fun g hg => by have := hqb g hg; omega); replace hw1 := Own.modS hw1 m5 hq5
  have z7 := m5.size
  clear hqb hq5
  refine Qd (Qh [true, true, true] Z Z (Qa (Qe Z) Z (Qa (Q8 Z Z (Yc (by unfold maxLen; omega))) Z (Qa (Qg Z) Z (Qd (Q5 (Yt (Qh [true, true, true] Z Z (Qa (Qe Z) Z (Qa (Q8 Z Z (Yc (by unfold maxLen; omega))) Z (Qa (Qg Z) Z (Qd ?_))))))))))))
  have hxs := RowK.close hrow (Link.mkO (⟨((q : Nat) : Int), mkL 5 Kc (q + 1) ((xs[i]'hlt).queue).length, (((q + 1) + 5 * ((xs[i]'hlt).queue).length : Nat) : Int), (((q + 1) + 5 * ((xs[i]'hlt).queue).length + 1 : Nat) : Int), (((q + 1) + 5 * ((xs[i]'hlt).queue).length + 1 + 1 : Nat) : Int), (((q + 1) + 5 * ((xs[i]'hlt).queue).length + 1 + 1 + 1 : Nat) : Int)⟩ : Link) sp1 (Own.widen hw1 (by omega) (by omega)))
  refine Q5 (Q9 (i + 1, (q + 1) + 5 * ((xs[i]'hlt).queue).length + 1 + 1 + 1 + 1) (by simp; omega) ⟨Z, Z, Z, Z, trivial⟩ ⟨E, (by omega), (by omega), (by rw [numA_take hlt, ← hq]; rfl), (by rw [markA_take hlt, ← hq]; exact hxs)⟩)
 ·have hc1n : ¬ i < xs.length := by first | (have h := of_decide_eq_false hc1; omega) | (have h := hc1; simp at h; omega)
  refine Yi (Q3 (Q2 ?_))
  refine Qf (Qh [true, true] Z Z (Qa (Qe Z) Z (Qa (Qg Z) Z (Qd (Qw (Qm Z Z E ?_))))))
  have hi9 : xs.length ≤ i := by have h := of_decide_eq_false hc1; omega
  rw [List.take_of_length_le hi9] at hq hxs
  rw [List.drop_of_length_le hi9, List.append_nil] at hxs
  exact ⟨by rw [hq], hxs.1, hxs.2⟩

set_option maxRecDepth 20000 in
theorem markCluster (o1x o2x o3x o4x o5x : Value) (lo hi : Nat) (x : Cluster) (k : Nat) (w : World) (hx : OwC w lo hi o1x o2x o3x o4x o5x x) (hhi : hi ≤ w.heap.size) (hb : k + 5 * Yf x ≤ 1099511627776) : CtR Tryz.prog 10 [.agg [o1x, .int .i64 x.graph.workers, .int .i64 x.graph.cap, o2x, o3x, o4x, o5x].toArray, .int .i64 ((k : Nat) : Int)] w lo hi (fun v w' => v = .int .i64 ((numCl k x : Nat) : Int) ∧ OwC w' lo hi o1x o2x o3x o4x o5x (markCl k x)) := by
 unfold Yf Y6 at hb
 have b1 := @numA_bd _ _ _ 4 numN1_bd k x.graph.nodes
 have b2 := @numA_bd _ _ _ 5 numW_bd (X7 X6 k x.graph.nodes) x.workers
 have b3 := @numA_bd _ _ _ 5 numL1_bd (X7 numW (X7 X6 k x.graph.nodes) x.workers) x.links
 refine ctR_of Tryz.func10 Z Tryz.ntmps10 Z ?_
 obtain ⟨f1, f2, f3, hw1, hw2, hw3, hw4, hw5, sp1⟩ := hx
 refine Q7 [(0, .agg [o1x, .int .i64 x.graph.workers, .int .i64 x.graph.cap, o2x, o3x, o4x, o5x].toArray), (1, .int .i64 ((k : Nat) : Int))] ⟨Z, Z, trivial⟩ ?_
 have E : ModR w w lo hi := ModR.refl w lo hi
 refine Qf (Qh [false, true] Z Z (Yx Z Z (fun b1 w1 e1 s1 h1 => ?_)))
 have g_b1 : w.heap.size ≤ b1 := by have := E.size; omega
 have y_b1 := h1.lt
 replace E := E.ext e1; replace hw1 := hw1.ext e1; replace hw2 := hw2.ext e1; replace hw3 := hw3.ext e1; replace hw4 := hw4.ext e1; replace hw5 := hw5.ext e1
 have z1 := e1.size
 refine Qa (Qg Z) Z (Qd (Qf (Qh [true, true, true, false, true] Z Z (Qa (Qb Kd Z) Z (Qa (Q1 X2 Z (h1.part 0 [o1x, .int .i64 x.graph.workers, .int .i64 x.graph.cap] Z) Z) Z (Qa (Qe Z) Z (Xs Tryz.call34 Z Z (markGraph o1x lo hi f1 x.graph k _ hw1 (by omega) (by unfold Y6; omega)) Z (fun _ w2 e2 hv => ?_))))))))
 obtain ⟨rfl, hw1', kq1⟩ := hv
 replace hw1 := hw1'
 replace E := E.trans e2 (by omega) (by omega); replace hw2 := OwF.kp hw2 (Kq.kp kq1 (sp1.1.1).symm); replace hw3 := OwF.kp hw3 (Kq.kp kq1 (sp1.1.2.1).symm); replace hw4 := Own.kp hw4 (Kq.kp kq1 (sp1.1.2.2.1).symm); replace hw5 := Own.kp hw5 (Kq.kp kq1 (sp1.1.2.2.2.1).symm); replace h1 := h1.modR e2 (by omega)
 have z2 := e2.size
 refine Qa (Qg Z) Z (Qd (Qf (Qh [true, true, true, false, true] Z Z (Qa (Qb Xk Z) Z (Qa (Qi sc35 Z (h1.one 3 Z)) Z (Qa (Qe Z) Z (Xs Tryz.call35 Z Z (markWorkerS o2x lo hi f2 x.workers (X7 X6 k x.graph.nodes) _ hw2 (by omega) (by omega)) Z (fun _ w3 e3 hv => ?_))))))))
 obtain ⟨rfl, hw2', kq2⟩ := hv
 replace hw2 := hw2'
 replace E := E.trans e3 (by omega) (by omega); replace hw1 := OwF.kp hw1 (Kq.kp kq2 sp1.1.1); replace hw3 := OwF.kp hw3 (Kq.kp kq2 (sp1.2.1.1).symm); replace hw4 := Own.kp hw4 (Kq.kp kq2 (sp1.2.1.2.1).symm); replace hw5 := Own.kp hw5 (Kq.kp kq2 (sp1.2.1.2.2.1).symm); replace h1 := h1.modR e3 (by omega)
 have z3 := e3.size
 refine Qa (Qg Z) Z (Qd (Qf (Qh [true, true, true, false, true] Z Z (Qa (Qb X1 Z) Z (Qa (Qi sc36 Z (h1.one 4 Z)) Z (Qa (Qe Z) Z (Xs Tryz.call36 Z Z (markLinkS o3x lo hi f3 x.links ((X7 numW) (X7 X6 k x.graph.nodes) x.workers) _ hw3 (by omega) (by omega)) Z (fun _ w4 e4 hv => ?_))))))))
 obtain ⟨rfl, hw3', kq3⟩ := hv
 replace hw3 := hw3'
 replace E := E.trans e4 (by omega) (by omega); replace hw1 := OwF.kp hw1 (Kq.kp kq3 sp1.1.2.1); replace hw2 := OwF.kp hw2 (Kq.kp kq3 sp1.2.1.1); replace hw4 := Own.kp hw4 (Kq.kp kq3 (sp1.2.2.1.1).symm); replace hw5 := Own.kp hw5 (Kq.kp kq3 (sp1.2.2.1.2.1).symm); replace h1 := h1.modR e4 (by omega)
 have z4 := e4.size
 refine Qa (Qg Z) Z (Qd (Qf (Qh [true, true, true, false, true] Z Z (Qa (Qb Kj Z) Z (Qa (Qi sc37 Z (h1.one 5 Z)) Z (Qa (Qe Z) Z (Xs Tryz.call37 Z Z (markTokenS o4x (bl o4x) (bh o4x) x.tokens ((X7 numL1) ((X7 numW) (X7 X6 k x.graph.nodes) x.workers) x.links) _ (Own.tight hw4) (by omega)) Z (fun _ w5 e5 hv => ?_))))))))
 obtain ⟨rfl, hw4'⟩ := hv
 have e5c := ModR.loose e5 (Own.blk hw4)
 replace hw4 := Own.loose hw4' (Own.blk hw4)
 clear hw4'
 have kq4 := ModR.kq e5
 replace E := E.trans e5c (by omega) (by omega); replace hw1 := OwF.kp hw1 (Kq.kp kq4 sp1.1.2.2.1); replace hw2 := OwF.kp hw2 (Kq.kp kq4 sp1.2.1.2.1); replace hw3 := OwF.kp hw3 (Kq.kp kq4 sp1.2.2.1.1); replace hw5 := Own.kp hw5 (Kq.kp kq4 (sp1.2.2.2.1.1).symm); replace h1 := h1.modR e5c (by omega)
 have z5 := e5c.size
 refine Qa (Qg Z) Z (Qd (Qf (Qh [true, true, true, false, true] Z Z (Qa (Qb fl40_4 Z) Z (Qa (Qi sc38 Z (h1.one 6 Z)) Z (Qa (Qe Z) Z (Xs Tryz.call38 Z Z (markNewsS o5x (bl o5x) (bh o5x) x.news (((X7 numL1) ((X7 numW) (X7 X6 k x.graph.nodes) x.workers) x.links) + 5 * x.tokens.length) _ (Own.tight hw5) (by omega)) Z (fun _ w6 e6 hv => ?_))))))))
 obtain ⟨rfl, hw5'⟩ := hv
 have e6c := ModR.loose e6 (Own.blk hw5)
 replace hw5 := Own.loose hw5' (Own.blk hw5)
 clear hw5'
 have kq5 := ModR.kq e6
 replace E := E.trans e6c (by omega) (by omega); replace hw1 := OwF.kp hw1 (Kq.kp kq5 sp1.1.2.2.2.1); replace hw2 := OwF.kp hw2 (Kq.kp kq5 sp1.2.1.2.2.1); replace hw3 := OwF.kp hw3 (Kq.kp kq5 sp1.2.2.1.2.1); replace hw4 := Own.kp hw4 (Kq.kp kq5 sp1.2.2.2.1.1); replace h1 := h1.modR e6c (by omega)
 have z6 := e6c.size
 refine Qa (Qg Z) Z (Qd (Qf (Qh [true, true] Z Z (Qa (Qe Z) Z (Qa (Qg Z) Z (Qd (Qw (Qm Z Z E ?_))))))))
 exact ⟨Z, _, _, _, hw1, hw2, hw3, hw4, hw5, sp1⟩

set_option maxRecDepth 20000 in
theorem heldNodeS (vxs : Value) (xs : List Node) (k : Nat) (w : World) (hxs : RdD w 0 w.heap.size vxs xs) (hm : xs = (markA X6 markN1) k xs) (hb : k + 4 * Xu Xr xs ≤ 1099511627776) : Ct Tryz.prog 76 [vxs, .int .i64 ((k : Nat) : Int)] w (fun v _ => v = .int .i64 ((X7 X6 k xs : Nat) : Int)) := by
 refine Yj Tryz.func76 Z Tryz.ntmps76 Z ?_
 refine Q7 [(0, vxs), (1, .int .i64 ((k : Nat) : Int))] ⟨Z, Z, trivial⟩ ?_
 have E : Ext w w := Ext.refl w
 refine Qf (Qh [true] Z Z (Qa (Qg Z) Z (Qd (Qf (Qf (Qh [true] Z Z (Qa (Qg Z) Z (Qd (Qy (Yh (fun (xq : Nat × Nat) => let ⟨i, q⟩ := xq; [(0, vxs), (1, .int .i64 ((q : Nat) : Int)), (4, .int .i64 0), (5, .int .i64 ((i : Nat) : Int))]) (fun (xq : Nat × Nat) w' => let ⟨i, q⟩ := xq; Ext w w' ∧ w.heap.size ≤ w'.heap.size ∧ i ≤ xs.length ∧ q = (X7 X6) k (xs.take i)) (fun (xq : Nat × Nat) => let ⟨i, q⟩ := xq; xs.length - i) (0, k) ⟨Z, Z, Z, Z, trivial⟩ ⟨E, Nat.le_refl _, Nat.zero_le _, Z⟩ ?_))))))))))
 clear E
 rintro ⟨i, q⟩ w1 ⟨E, z1, hi, hq⟩
 refine Q7 [(0, vxs), (1, .int .i64 ((q : Nat) : Int)), (4, .int .i64 0), (5, .int .i64 ((i : Nat) : Int))] ⟨Z, Z, Z, Z, trivial⟩ ?_
 have hmx := hxs.1.1
 unfold maxLen at hmx
 refine Qf (Qf (Qh [true, true, true, true] Z Z (Qa (Qe Z) Z (Qa (Qe Z) Z (Qa (Q4 Tryz.underlying32 Z (hxs.ext E).len) Z (Qa (Yb Z Z) Z (Qd (Qu Z (fun hc1 => ?_) (fun hc1 => ?_)))))))))
 ·have hlt : i < xs.length := by have h := of_decide_eq_true hc1; omega
  have hqk := numA_le (k := k) numN1_bd hlt; rw [← hq] at hqk; unfold X6 at hqk
  have hx := markA_at hm hlt; rw [← hq] at hx
  have hc1n : i < xs.length := by first | (have h := of_decide_eq_true hc1; omega) | (have h := hc1; simp at h; omega)
  refine Qp (Qf (Qy (Qf (Qf (Qh [true, true, true, true, true, true, true] Z Z (Qa (Qe Z) Z (Qa (Qe Z) Z ?_)))))))
  have hi1 : i < xs.length := (by first | assumption | omega | (simp only [List.length_set]; first | assumption | omega))
  obtain ⟨_, hr1, ha1⟩ := RdD.get hxs hi1
  obtain ⟨o1, rfl, hd1⟩ := Node.op hr1
  replace ha1 : At w (Xm vxs) (Xl vxs + i * 4) [.int .i64 ((xs[i]'hi1).kind), .int .i64 ((xs[i]'hi1).a), .int .i64 ((xs[i]'hi1).b), o1] := ha1
  refine Qa (Qv (i := i) sl32 Z Z (hxs.ext E).1 hi1) Z (Qa (Qz Y3 Z) Z (Qa (Qi Yk Z ((ha1.ext E).one 0 Z)) Z (Qa (Qe Z) Z (Qa (Yr Z Z) Z (Qd (Yp Z (by rw [hx]; simp [markN1, Qj]) (Qp (Qf (Qh [true, true, true] Z Z (Qa (Qe Z) Z (Qa (Q8 Z Z (Yc (by unfold maxLen; omega))) Z (Qa (Qg Z) Z (Qd (Qf (Qf (Qh [true, true, true, true, true, true, true] Z Z (Qa (Qe Z) Z (Qa (Qe Z) Z (Qa (Qv (i := i) sl32 Z Z (hxs.ext E).1 hi1) Z (Qa (Qz Xq Z) Z (Qa (Qi Yk Z ((ha1.ext E).one 1 Z)) Z (Qa (Qe Z) Z (Qa (Yr Z Z) Z (Qd (Yp Z (by rw [hx]; simp [markN1, Qj]) (Qp (Qf (Qh [true, true, true] Z Z (Qa (Qe Z) Z (Qa (Q8 Z Z (Yc (by unfold maxLen; omega))) Z (Qa (Qg Z) Z (Qd (Qf (Qf (Qh [true, true, true, true, true, true, true] Z Z (Qa (Qe Z) Z (Qa (Qe Z) Z (Qa (Qv (i := i) sl32 Z Z (hxs.ext E).1 hi1) Z (Qa (Qz X8 Z) Z (Qa (Qi Yk Z ((ha1.ext E).one 2 Z)) Z (Qa (Qe Z) Z (Qa (Yr Z Z) Z (Qd (Yp Z (by rw [hx]; simp [markN1, Qj]) (Qp (Qf (Qh [true, true, true] Z Z (Qa (Qe Z) Z (Qa (Q8 Z Z (Yc (by unfold maxLen; omega))) Z (Qa (Qg Z) Z (Qd (Qf (Qh [true, true, true, true, true, true, false, true] Z Z (Qa (Qe Z) Z (Qa (Qe Z) Z (Qa (Qv (i := i) sl32 Z Z (hxs.ext E).1 hi1) Z (Qa (Qz Q6 Z) Z (Qa (Qi Yy Z ((ha1.ext E).one 3 Z)) Z (Qa (Qe Z) Z (Q0 Tryz.call79 Z (heldIntS o1 ((xs[i]'hi1).outs) (q + 1 + 1 + 1) _ (hd1.rd.ext E) (congrArg Node.outs hx) (by omega)) Z (fun _ w2 e1 hv => ?_)))))))))))))))))))))))))))))))))))))))))))))))))))))))))))))
  subst hv
  replace E := E.trans e1
  have z2 := e1.size
  refine Qa (Qg Z) Z (Qd (Qf (Qh [true, true] Z Z (Qa (Qe Z) Z (Qa (Yb Z Z) Z (Qd (Yp Z (by first | (simp; done) | (simp only [Qn] <;> simp) | (simp only [Qj, Qn] <;> simp) | (simp only [Qj] <;> simp)) (Qp (Q5 (Yt (Qh [true, true, true] Z Z (Qa (Qe Z) Z (Qa (Q8 Z Z (Yc (by unfold maxLen; omega))) Z (Qa (Qg Z) Z (Qd (Q5 (Q9 (i + 1, (q + 1 + 1 + 1) + 1 * ((xs[i]'hi1).outs).length) (by simp; omega) ⟨Z, Z, Z, Z, trivial⟩ ⟨E, (by omega), (by omega), (by rw [numA_take (by omega), ← hq]; rfl)⟩)))))))))))))))))
 ·have hc1n : ¬ i < xs.length := by first | (have h := of_decide_eq_false hc1; omega) | (have h := hc1; simp at h; omega)
  refine Yi (Q3 (Q2 ?_))
  refine Qf (Qh [true, true] Z Z (Qa (Qe Z) Z (Qa (Qg Z) Z (Qd (Qw (Qm Z Z E ?_))))))
  rw [hq, List.take_of_length_le (by omega)]

set_option maxHeartbeats 4000000 in
set_option maxRecDepth 20000 in
theorem heldWorkerS (vxs : Value) (xs : List Worker) (k : Nat) (w : World) (hxs : RdD w 0 w.heap.size vxs xs) (hm : xs = (markA numW markW) k xs) (hb : k + 5 * Xu Yd xs ≤ 1099511627776) : Ct Tryz.prog 40 [vxs, .int .i64 ((k : Nat) : Int)] w (fun v _ => v = .int .i64 ((X7 numW k xs : Nat) : Int)) := by
 refine Yj Tryz.func40 Z Tryz.ntmps40 Z ?_
 refine Q7 [(0, vxs), (1, .int .i64 ((k : Nat) : Int))] ⟨Z, Z, trivial⟩ ?_
 have E : Ext w w := Ext.refl w
 refine Qf (Qh [true] Z Z (Qa (Qg Z) Z (Qd (Qf (Qf (Qh [true] Z Z (Qa (Qg Z) Z (Qd (Qy (Yh (fun (xq : Nat × Nat) => let ⟨i, q⟩ := xq; [(0, vxs), (1, .int .i64 ((q : Nat) : Int)), (4, .int .i64 0), (5, .int .i64 ((i : Nat) : Int))]) (fun (xq : Nat × Nat) w' => let ⟨i, q⟩ := xq; Ext w w' ∧ w.heap.size ≤ w'.heap.size ∧ i ≤ xs.length ∧ q = (X7 numW) k (xs.take i)) (fun (xq : Nat × Nat) => let ⟨i, q⟩ := xq; xs.length - i) (0, k) ⟨Z, Z, Z, Z, trivial⟩ ⟨E, Nat.le_refl _, Nat.zero_le _, Z⟩ ?_))))))))))
 clear E
 rintro ⟨i, q⟩ w1 ⟨E, z1, hi, hq⟩
 refine Q7 [(0, vxs), (1, .int .i64 ((q : Nat) : Int)), (4, .int .i64 0), (5, .int .i64 ((i : Nat) : Int))] ⟨Z, Z, Z, Z, trivial⟩ ?_
 have hmx := hxs.1.1
 unfold maxLen at hmx
 refine Qf (Qf (Qh [true, true, true, true] Z Z (Qa (Qe Z) Z (Qa (Qe Z) Z (Qa (Q4 Tryz.underlying35 Z (hxs.ext E).len) Z (Qa (Yb Z Z) Z (Qd (Qu Z (fun hc1 => ?_) (fun hc1 => ?_)))))))))
 ·have hlt : i < xs.length := by have h := of_decide_eq_true hc1; omega
  have hqk := numA_le (k := k) numW_bd hlt; rw [← hq] at hqk; unfold numW at hqk
  have hx := markA_at hm hlt; rw [← hq] at hx
  have hc1n : i < xs.length := by first | (have h := of_decide_eq_true hc1; omega) | (have h := hc1; simp at h; omega)
  refine Qp (Qf (Qy (Qf (Qh [true, true, true, true, true, true, false, true] Z Z (Qa (Qe Z) Z (Qa (Qe Z) Z ?_))))))
  have hi1 : i < xs.length := (by first | assumption | omega | (simp only [List.length_set]; first | assumption | omega))
  obtain ⟨_, hr1, ha1⟩ := RdD.get hxs hi1
  obtain ⟨o1, o2, o3, o4, o5, o6, o7, o8, rfl, hd1, hd2, hd3, hd4, hd5, hd6, hd7, hd8⟩ := Worker.op hr1
  replace ha1 : At w (Xm vxs) (Xl vxs + i * 8) [o1, o2, o3, o4, o5, o6, o7, o8] := ha1
  refine Qa (Qv (i := i) Kf Z Z (hxs.ext E).1 hi1) Z (Qa (Qz fl72_0 Z) Z (Qa (Qi Xa Z ((ha1.ext E).one 0 Z)) Z (Qa (Qe Z) Z (Q0 Tryz.call77 Z (heldRecordS o1 ((xs[i]'hi1).queue) q _ (hd1.rd.ext E) (congrArg Worker.queue hx) (by omega)) Z (fun _ w2 e1 hv => ?_)))))
  subst hv
  replace E := E.trans e1
  have z2 := e1.size
  refine Qa (Qg Z) Z (Qd (Qf (Qf (Qh [true, true] Z Z (Qa (Qe Z) Z (Qa (Yb Z Z) Z (Qd (Yp Z (by first | (simp; done) | (simp only [Qn] <;> simp) | (simp only [Qj, Qn] <;> simp) | (simp only [Qj] <;> simp)) (Qp (Qf (Qh [true, true, true, true, true, true, false, true] Z Z (Qa (Qe Z) Z (Qa (Qe Z) Z (Qa (Qv (i := i) Kf Z Z (hxs.ext E).1 hi1) Z (Qa (Qz fl72_1 Z) Z (Qa (Qi Xa Z ((ha1.ext E).one 1 Z)) Z (Qa (Qe Z) Z (Q0 Tryz.call77 Z (heldRecordS o2 ((xs[i]'hi1).staged) (q + 5 * ((xs[i]'hi1).queue).length) _ (hd2.rd.ext E) (congrArg Worker.staged hx) (by omega)) Z (fun _ w3 e2 hv => ?_)))))))))))))))))))
  subst hv
  replace E := E.trans e2
  have z3 := e2.size
  refine Qa (Qg Z) Z (Qd (Qf (Qf (Qh [true, true] Z Z (Qa (Qe Z) Z (Qa (Yb Z Z) Z (Qd (Yp Z (by first | (simp; done) | (simp only [Qn] <;> simp) | (simp only [Qj, Qn] <;> simp) | (simp only [Qj] <;> simp)) (Qp (Qf (Qh [true, true, true, true, true, true, false, true] Z Z (Qa (Qe Z) Z (Qa (Qe Z) Z (Qa (Qv (i := i) Kf Z Z (hxs.ext E).1 hi1) Z (Qa (Qz Xo Z) Z (Qa (Qi Xa Z ((ha1.ext E).one 2 Z)) Z (Qa (Qe Z) Z (Q0 Tryz.call77 Z (heldRecordS o3 ((xs[i]'hi1).inputs) ((q + 5 * ((xs[i]'hi1).queue).length) + 5 * ((xs[i]'hi1).staged).length) _ (hd3.rd.ext E) (congrArg Worker.inputs hx) (by omega)) Z (fun _ w4 e3 hv => ?_)))))))))))))))))))
  subst hv
  replace E := E.trans e3
  have z4 := e3.size
  refine Qa (Qg Z) Z (Qd (Qf (Qf (Qh [true, true] Z Z (Qa (Qe Z) Z (Qa (Yb Z Z) Z (Qd (Yp Z (by first | (simp; done) | (simp only [Qn] <;> simp) | (simp only [Qj, Qn] <;> simp) | (simp only [Qj] <;> simp)) (Qp (Qf (Qh [true, true, true, true, true, true, false, true] Z Z (Qa (Qe Z) Z (Qa (Qe Z) Z (Qa (Qv (i := i) Kf Z Z (hxs.ext E).1 hi1) Z (Qa (Qz fl72_3 Z) Z (Qa (Qi sc67 Z ((ha1.ext E).one 3 Z)) Z (Qa (Qe Z) Z (Q0 Tryz.call78 Z (heldCellS o4 ((xs[i]'hi1).cells) (((q + 5 * ((xs[i]'hi1).queue).length) + 5 * ((xs[i]'hi1).staged).length) + 5 * ((xs[i]'hi1).inputs).length) _ (hd4.rd.ext E) (congrArg Worker.cells hx) (by omega)) Z (fun _ w5 e4 hv => ?_)))))))))))))))))))
  subst hv
  replace E := E.trans e4
  have z5 := e4.size
  refine Qa (Qg Z) Z (Qd (Qf (Qf (Qh [true, true] Z Z (Qa (Qe Z) Z (Qa (Yb Z Z) Z (Qd (Yp Z (by first | (simp; done) | (simp only [Qn] <;> simp) | (simp only [Qj, Qn] <;> simp) | (simp only [Qj] <;> simp)) (Qp (Qf (Qh [true, true, true, true, true, true, false, true] Z Z (Qa (Qe Z) Z (Qa (Qe Z) Z (Qa (Qv (i := i) Kf Z Z (hxs.ext E).1 hi1) Z (Qa (Qz fl72_4 Z) Z (Qa (Qi Yy Z ((ha1.ext E).one 4 Z)) Z (Qa (Qe Z) Z (Q0 Tryz.call79 Z (heldIntS o5 ((xs[i]'hi1).sums) ((((q + 5 * ((xs[i]'hi1).queue).length) + 5 * ((xs[i]'hi1).staged).length) + 5 * ((xs[i]'hi1).inputs).length) + 4 * ((xs[i]'hi1).cells).length) _ (hd5.rd.ext E) (congrArg Worker.sums hx) (by omega)) Z (fun _ w6 e5 hv => ?_)))))))))))))))))))
  subst hv
  replace E := E.trans e5
  have z6 := e5.size
  refine Qa (Qg Z) Z (Qd (Qf (Qf (Qh [true, true] Z Z (Qa (Qe Z) Z (Qa (Yb Z Z) Z (Qd (Yp Z (by first | (simp; done) | (simp only [Qn] <;> simp) | (simp only [Qj, Qn] <;> simp) | (simp only [Qj] <;> simp)) (Qp (Qf (Qh [true, true, true, true, true, true, false, true] Z Z (Qa (Qe Z) Z (Qa (Qe Z) Z (Qa (Qv (i := i) Kf Z Z (hxs.ext E).1 hi1) Z (Qa (Qz fl72_5 Z) Z (Qa (Qi sc69 Z ((ha1.ext E).one 5 Z)) Z (Qa (Qe Z) Z (Q0 Tryz.call80 Z (heldBoolS o6 ((xs[i]'hi1).black) (((((q + 5 * ((xs[i]'hi1).queue).length) + 5 * ((xs[i]'hi1).staged).length) + 5 * ((xs[i]'hi1).inputs).length) + 4 * ((xs[i]'hi1).cells).length) + 1 * ((xs[i]'hi1).sums).length) _ (hd6.rd.ext E) (congrArg Worker.black hx) (by omega)) Z (fun _ w7 e6 hv => ?_)))))))))))))))))))
  subst hv
  replace E := E.trans e6
  have z7 := e6.size
  refine Qa (Qg Z) Z (Qd (Qf (Qf (Qh [true, true] Z Z (Qa (Qe Z) Z (Qa (Yb Z Z) Z (Qd (Yp Z (by first | (simp; done) | (simp only [Qn] <;> simp) | (simp only [Qj, Qn] <;> simp) | (simp only [Qj] <;> simp)) (Qp (Qf (Qh [true, true, true, true, true, true, false, true] Z Z (Qa (Qe Z) Z (Qa (Qe Z) Z (Qa (Qv (i := i) Kf Z Z (hxs.ext E).1 hi1) Z (Qa (Qz fl72_6 Z) Z (Qa (Qi sc69 Z ((ha1.ext E).one 6 Z)) Z (Qa (Qe Z) Z (Q0 Tryz.call80 Z (heldBoolS o7 ((xs[i]'hi1).caps) ((((((q + 5 * ((xs[i]'hi1).queue).length) + 5 * ((xs[i]'hi1).staged).length) + 5 * ((xs[i]'hi1).inputs).length) + 4 * ((xs[i]'hi1).cells).length) + 1 * ((xs[i]'hi1).sums).length) + 1 * ((xs[i]'hi1).black).length) _ (hd7.rd.ext E) (congrArg Worker.caps hx) (by omega)) Z (fun _ w8 e7 hv => ?_)))))))))))))))))))
  subst hv
  replace E := E.trans e7
  have z8 := e7.size
  refine Qa (Qg Z) Z (Qd (Qf (Qf (Qh [true, true] Z Z (Qa (Qe Z) Z (Qa (Yb Z Z) Z (Qd (Yp Z (by first | (simp; done) | (simp only [Qn] <;> simp) | (simp only [Qj, Qn] <;> simp) | (simp only [Qj] <;> simp)) (Qp (Qf (Qh [true, true, true, true, true, true, false, true] Z Z (Qa (Qe Z) Z (Qa (Qe Z) Z (Qa (Qv (i := i) Kf Z Z (hxs.ext E).1 hi1) Z (Qa (Qz fl72_7 Z) Z (Qa (Qi sc70 Z ((ha1.ext E).one 7 Z)) Z (Qa (Qe Z) Z (Q0 Tryz.call81 Z (heldDoneS o8 ((xs[i]'hi1).dones) (((((((q + 5 * ((xs[i]'hi1).queue).length) + 5 * ((xs[i]'hi1).staged).length) + 5 * ((xs[i]'hi1).inputs).length) + 4 * ((xs[i]'hi1).cells).length) + 1 * ((xs[i]'hi1).sums).length) + 1 * ((xs[i]'hi1).black).length) + 1 * ((xs[i]'hi1).caps).length) _ (hd8.rd.ext E) (congrArg Worker.dones hx) (by omega)) Z (fun _ w9 e8 hv => ?_)))))))))))))))))))
  subst hv
  replace E := E.trans e8
  have z9 := e8.size
  refine Qa (Qg Z) Z (Qd (Qf (Qh [true, true] Z Z (Qa (Qe Z) Z (Qa (Yb Z Z) Z (Qd (Yp Z (by first | (simp; done) | (simp only [Qn] <;> simp) | (simp only [Qj, Qn] <;> simp) | (simp only [Qj] <;> simp)) (Qp (Q5 (Yt (Qh [true, true, true] Z Z (Qa (Qe Z) Z (Qa (Q8 Z Z (Yc (by unfold maxLen; omega))) Z (Qa (Qg Z) Z (Qd (Q5 (Q9 (i + 1, (((((((q + 5 * ((xs[i]'hi1).queue).length) + 5 * ((xs[i]'hi1).staged).length) + 5 * ((xs[i]'hi1).inputs).length) + 4 * ((xs[i]'hi1).cells).length) + 1 * ((xs[i]'hi1).sums).length) + 1 * ((xs[i]'hi1).black).length) + 1 * ((xs[i]'hi1).caps).length) + 2 * ((xs[i]'hi1).dones).length) (by simp; omega) ⟨Z, Z, Z, Z, trivial⟩ ⟨E, (by omega), (by omega), (by rw [numA_take (by omega), ← hq]; rfl)⟩)))))))))))))))))
 ·have hc1n : ¬ i < xs.length := by first | (have h := of_decide_eq_false hc1; omega) | (have h := hc1; simp at h; omega)
  refine Yi (Q3 (Q2 ?_))
  refine Qf (Qh [true, true] Z Z (Qa (Qe Z) Z (Qa (Qg Z) Z (Qd (Qw (Qm Z Z E ?_))))))
  rw [hq, List.take_of_length_le (by omega)]

set_option maxRecDepth 20000 in
theorem heldLinkS (vxs : Value) (xs : List Link) (k : Nat) (w : World) (hxs : RdD w 0 w.heap.size vxs xs) (hm : xs = (markA numL1 markL1) k xs) (hb : k + 5 * Xu Y9 xs ≤ 1099511627776) : Ct Tryz.prog 41 [vxs, .int .i64 ((k : Nat) : Int)] w (fun v _ => v = .int .i64 ((X7 numL1 k xs : Nat) : Int)) := by
 refine Yj Tryz.func41 Z Tryz.ntmps41 Z ?_
 refine Q7 [(0, vxs), (1, .int .i64 ((k : Nat) : Int))] ⟨Z, Z, trivial⟩ ?_
 have E : Ext w w := Ext.refl w
 refine Qf (Qh [true] Z Z (Qa (Qg Z) Z (Qd (Qf (Qf (Qh [true] Z Z (Qa (Qg Z) Z (Qd (Qy (Yh (fun (xq : Nat × Nat) => let ⟨i, q⟩ := xq; [(0, vxs), (1, .int .i64 ((q : Nat) : Int)), (4, .int .i64 0), (5, .int .i64 ((i : Nat) : Int))]) (fun (xq : Nat × Nat) w' => let ⟨i, q⟩ := xq; Ext w w' ∧ w.heap.size ≤ w'.heap.size ∧ i ≤ xs.length ∧ q = (X7 numL1) k (xs.take i)) (fun (xq : Nat × Nat) => let ⟨i, q⟩ := xq; xs.length - i) (0, k) ⟨Z, Z, Z, Z, trivial⟩ ⟨E, Nat.le_refl _, Nat.zero_le _, Z⟩ ?_))))))))))
 clear E
 rintro ⟨i, q⟩ w1 ⟨E, z1, hi, hq⟩
 refine Q7 [(0, vxs), (1, .int .i64 ((q : Nat) : Int)), (4, .int .i64 0), (5, .int .i64 ((i : Nat) : Int))] ⟨Z, Z, Z, Z, trivial⟩ ?_
 have hmx := hxs.1.1
 unfold maxLen at hmx
 refine Qf (Qf (Qh [true, true, true, true] Z Z (Qa (Qe Z) Z (Qa (Qe Z) Z (Qa (Q4 Tryz.underlying36 Z (hxs.ext E).len) Z (Qa (Yb Z Z) Z (Qd (Qu Z (fun hc1 => ?_) (fun hc1 => ?_)))))))))
 ·have hlt : i < xs.length := by have h := of_decide_eq_true hc1; omega
  have hqk := numA_le (k := k) numL1_bd hlt; rw [← hq] at hqk; unfold numL1 at hqk
  have hx := markA_at hm hlt; rw [← hq] at hx
  have hc1n : i < xs.length := by first | (have h := of_decide_eq_true hc1; omega) | (have h := hc1; simp at h; omega)
  refine Qp (Qf (Qy (Qf (Qf (Qh [true, true, true, true, true, true, true] Z Z (Qa (Qe Z) Z (Qa (Qe Z) Z ?_)))))))
  have hi1 : i < xs.length := (by first | assumption | omega | (simp only [List.length_set]; first | assumption | omega))
  obtain ⟨_, hr1, ha1⟩ := RdD.get hxs hi1
  obtain ⟨o1, rfl, hd1⟩ := Link.op hr1
  replace ha1 : At w (Xm vxs) (Xl vxs + i * 6) [.int .i64 ((xs[i]'hi1).cap), o1, .int .i64 ((xs[i]'hi1).credits), .int .i64 ((xs[i]'hi1).back), .int .i64 ((xs[i]'hi1).sent), .int .i64 ((xs[i]'hi1).got)] := ha1
  refine Qa (Qv (i := i) sl36 Z Z (hxs.ext E).1 hi1) Z (Qa (Qz fl88_0 Z) Z (Qa (Qi Yk Z ((ha1.ext E).one 0 Z)) Z (Qa (Qe Z) Z (Qa (Yr Z Z) Z (Qd (Yp Z (by rw [hx]; simp [markL1, Qj]) (Qp (Qf (Qh [true, true, true] Z Z (Qa (Qe Z) Z (Qa (Q8 Z Z (Yc (by unfold maxLen; omega))) Z (Qa (Qg Z) Z (Qd (Qf (Qh [true, true, true, true, true, true, false, true] Z Z (Qa (Qe Z) Z (Qa (Qe Z) Z (Qa (Qv (i := i) sl36 Z Z (hxs.ext E).1 hi1) Z (Qa (Qz X5 Z) Z (Qa (Qi Xa Z ((ha1.ext E).one 1 Z)) Z (Qa (Qe Z) Z (Q0 Tryz.call77 Z (heldRecordS o1 ((xs[i]'hi1).queue) (q + 1) _ (hd1.rd.ext E) (congrArg Link.queue hx) (by omega)) Z (fun _ w2 e1 hv => ?_)))))))))))))))))))))))
  subst hv
  replace E := E.trans e1
  have z2 := e1.size
  refine Qa (Qg Z) Z (Qd (Qf (Qf (Qh [true, true] Z Z (Qa (Qe Z) Z (Qa (Yb Z Z) Z (Qd (Yp Z (by first | (simp; done) | (simp only [Qn] <;> simp) | (simp only [Qj, Qn] <;> simp) | (simp only [Qj] <;> simp)) (Qp (Qf (Qf (Qh [true, true, true, true, true, true, true] Z Z (Qa (Qe Z) Z (Qa (Qe Z) Z (Qa (Qv (i := i) sl36 Z Z (hxs.ext E).1 hi1) Z (Qa (Qz fl88_2 Z) Z (Qa (Qi Yk Z ((ha1.ext E).one 2 Z)) Z (Qa (Qe Z) Z (Qa (Yr Z Z) Z (Qd (Yp Z (by rw [hx]; simp [markL1, Qj]) (Qp (Qf (Qh [true, true, true] Z Z (Qa (Qe Z) Z (Qa (Q8 Z Z (Yc (by unfold maxLen; omega))) Z (Qa (Qg Z) Z (Qd (Qf (Qf (Qh [true, true, true, true, true, true, true] Z Z (Qa (Qe Z) Z (Qa (Qe Z) Z (Qa (Qv (i := i) sl36 Z Z (hxs.ext E).1 hi1) Z (Qa (Qz fl88_3 Z) Z (Qa (Qi Yk Z ((ha1.ext E).one 3 Z)) Z (Qa (Qe Z) Z (Qa (Yr Z Z) Z (Qd (Yp Z (by rw [hx]; simp [markL1, Qj]) (Qp (Qf (Qh [true, true, true] Z Z (Qa (Qe Z) Z (Qa (Q8 Z Z (Yc (by unfold maxLen; omega))) Z (Qa (Qg Z) Z (Qd (Qf (Qf (Qh [true, true, true, true, true, true, true] Z Z (Qa (Qe Z) Z (Qa (Qe Z) Z (Qa (Qv (i := i) sl36 Z Z (hxs.ext E).1 hi1) Z (Qa (Qz fl88_4 Z) Z (Qa (Qi Yk Z ((ha1.ext E).one 4 Z)) Z (Qa (Qe Z) Z (Qa (Yr Z Z) Z (Qd (Yp Z (by rw [hx]; simp [markL1, Qj]) (Qp (Qf (Qh [true, true, true] Z Z (Qa (Qe Z) Z (Qa (Q8 Z Z (Yc (by unfold maxLen; omega))) Z (Qa (Qg Z) Z (Qd (Qf (Qf (Qh [true, true, true, true, true, true, true] Z Z (Qa (Qe Z) Z (Qa (Qe Z) Z (Qa (Qv (i := i) sl36 Z Z (hxs.ext E).1 hi1) Z (Qa (Qz fl88_5 Z) Z (Qa (Qi Yk Z ((ha1.ext E).one 5 Z)) Z (Qa (Qe Z) Z (Qa (Yr Z Z) Z (Qd (Yp Z (by rw [hx]; simp [markL1, Qj]) (Qp (Qh [true, true, true] Z Z (Qa (Qe Z) Z (Qa (Q8 Z Z (Yc (by unfold maxLen; omega))) Z (Qa (Qg Z) Z (Qd (Q5 (Yt (Qh [true, true, true] Z Z (Qa (Qe Z) Z (Qa (Q8 Z Z (Yc (by unfold maxLen; omega))) Z (Qa (Qg Z) Z (Qd (Q5 (Q9 (i + 1, (q + 1) + 5 * ((xs[i]'hi1).queue).length + 1 + 1 + 1 + 1) (by simp; omega) ⟨Z, Z, Z, Z, trivial⟩ ⟨E, (by omega), (by omega), (by rw [numA_take (by omega), ← hq]; rfl)⟩)))))))))))))))))))))))))))))))))))))))))))))))))))))))))))))))))))))))))))))))))))))))))))))
 ·have hc1n : ¬ i < xs.length := by first | (have h := of_decide_eq_false hc1; omega) | (have h := hc1; simp at h; omega)
  refine Yi (Q3 (Q2 ?_))
  refine Qf (Qh [true, true] Z Z (Qa (Qe Z) Z (Qa (Qg Z) Z (Qd (Qw (Qm Z Z E ?_))))))
  rw [hq, List.take_of_length_le (by omega)]

set_option maxRecDepth 20000 in
theorem heldGraph (cx : List Value) (x : Graph) (k : Nat) (w : World) (hx : Dat.R w 0 w.heap.size cx x) (hm : x.nodes = markA X6 markN1 k x.nodes) (hb : k + 4 * Y6 x ≤ 1099511627776) : Ct Tryz.prog 39 [.agg cx.toArray, .int .i64 ((k : Nat) : Int)] w (fun v _ => v = .int .i64 ((X7 X6 k x.nodes : Nat) : Int)) := by
 refine Yj Tryz.func39 Z Tryz.ntmps39 Z ?_
 obtain ⟨o1, rfl, hd1⟩ := Graph.op hx
 refine Q7 [(0, .agg [o1, .int .i64 x.workers, .int .i64 x.cap].toArray), (1, .int .i64 ((k : Nat) : Int))] ⟨Z, Z, trivial⟩ ?_
 have E : Ext w w := Ext.refl w
 refine Qf (Qh [false, true] Z Z (Yx Z Z (fun b1 w1 e1 s1 h1 => ?_)))
 have g_b1 : w.heap.size ≤ b1 := by have := E.size; omega
 have y_b1 := h1.lt
 replace E := E.trans e1
 have z1 := e1.size
 refine Qa (Qg Z) Z (Qd (Qf (Qh [true, true, true, false, true] Z Z (Qa (Qb Xp Z) Z (Qa (Qi sc32 Z (h1.one 0 Z)) Z (Qa (Qe Z) Z (Q0 Tryz.call76 Z (heldNodeS o1 x.nodes k _ (RdD.any (hd1.ext E)) hm (by unfold Y6 at hb; omega)) Z (fun _ w2 e2 hv => ?_))))))))
 subst hv
 replace E := E.trans e2; replace h1 := h1.ext e2
 have z2 := e2.size
 refine Qa (Qg Z) Z (Qd (Qf (Qf (Qh [true, true] Z Z (Qa (Qe Z) Z (Qa (Yb Z Z) Z (Qd (Yp Z (by first | (simp; done) | (simp only [Qn] <;> simp) | (simp only [Qj, Qn] <;> simp) | (simp only [Qj] <;> simp)) (Qp (Qf (Qh [true, true] Z Z (Qa (Qe Z) Z (Qa (Qg Z) Z (Qd (Qw (Qm Z Z E ?_))))))))))))))))
 rfl

set_option maxRecDepth 20000 in
theorem heldCluster (cx : List Value) (x : Cluster) (k : Nat) (w : World) (hx : Dat.R w 0 w.heap.size cx x) (hm : x = markCl k x) (hb : k + 5 * Yf x ≤ 1099511627776) : Ct Tryz.prog 11 [.agg cx.toArray, .int .i64 ((k : Nat) : Int)] w (fun v _ => v = .int .i64 ((numCl k x : Nat) : Int)) := by
 unfold Yf Y6 at hb
 have b1 := @numA_bd _ _ _ 4 numN1_bd k x.graph.nodes
 have b2 := @numA_bd _ _ _ 5 numW_bd (X7 X6 k x.graph.nodes) x.workers
 have b3 := @numA_bd _ _ _ 5 numL1_bd (X7 numW (X7 X6 k x.graph.nodes) x.workers) x.links
 refine Yj Tryz.func11 Z Tryz.ntmps11 Z ?_
 obtain ⟨o1, o2, o3, o4, o5, rfl, hd1, hd2, hd3, hd4, hd5⟩ := Cluster.op hx
 refine Q7 [(0, .agg [o1, .int .i64 x.graph.workers, .int .i64 x.graph.cap, o2, o3, o4, o5].toArray), (1, .int .i64 ((k : Nat) : Int))] ⟨Z, Z, trivial⟩ ?_
 have E : Ext w w := Ext.refl w
 refine Qf (Qh [false, true] Z Z (Yx Z Z (fun b1 w1 e1 s1 h1 => ?_)))
 have g_b1 : w.heap.size ≤ b1 := by have := E.size; omega
 have y_b1 := h1.lt
 replace E := E.trans e1
 have z1 := e1.size
 refine Qa (Qg Z) Z (Qd (Qf (Qh [true, true, true, false, true] Z Z (Qa (Qb Kd Z) Z (Qa (Q1 X2 Z (h1.part 0 [o1, .int .i64 x.graph.workers, .int .i64 x.graph.cap] Z) Z) Z (Qa (Qe Z) Z (Q0 Tryz.call39 Z (heldGraph [o1, .int .i64 x.graph.workers, .int .i64 x.graph.cap] x.graph k _ (Graph.mkR x.graph (RdD.any (hd1.ext E))) (congrArg (fun c => c.graph.nodes) hm) (by unfold Y6; omega)) Z (fun _ w2 e2 hv => ?_))))))))
 subst hv
 replace E := E.trans e2; replace h1 := h1.ext e2
 have z2 := e2.size
 refine Qa (Qg Z) Z (Qd (Qf (Qf (Qh [true, true] Z Z (Qa (Qe Z) Z (Qa (Yb Z Z) Z (Qd (Yp Z (by first | (simp; done) | (simp only [Qn] <;> simp) | (simp only [Qj, Qn] <;> simp) | (simp only [Qj] <;> simp)) (Qp (Qf (Qh [true, true, true, false, true] Z Z (Qa (Qb Xk Z) Z (Qa (Qi sc35 Z (h1.one 3 Z)) Z (Qa (Qe Z) Z (Q0 Tryz.call40 Z (heldWorkerS o2 x.workers (X7 X6 k x.graph.nodes) _ (RdD.any (hd2.ext E)) (congrArg Cluster.workers hm) (by omega)) Z (fun _ w3 e3 hv => ?_))))))))))))))))
 subst hv
 replace E := E.trans e3; replace h1 := h1.ext e3
 have z3 := e3.size
 refine Qa (Qg Z) Z (Qd (Qf (Qf (Qh [true, true] Z Z (Qa (Qe Z) Z (Qa (Yb Z Z) Z (Qd (Yp Z (by first | (simp; done) | (simp only [Qn] <;> simp) | (simp only [Qj, Qn] <;> simp) | (simp only [Qj] <;> simp)) (Qp (Qf (Qh [true, true, true, false, true] Z Z (Qa (Qb X1 Z) Z (Qa (Qi sc36 Z (h1.one 4 Z)) Z (Qa (Qe Z) Z (Q0 Tryz.call41 Z (heldLinkS o3 x.links (X7 numW (X7 X6 k x.graph.nodes) x.workers) _ (RdD.any (hd3.ext E)) (congrArg Cluster.links hm) (by omega)) Z (fun _ w4 e4 hv => ?_))))))))))))))))
 subst hv
 replace E := E.trans e4; replace h1 := h1.ext e4
 have z4 := e4.size
 refine Qa (Qg Z) Z (Qd (Qf (Qf (Qh [true, true] Z Z (Qa (Qe Z) Z (Qa (Yb Z Z) Z (Qd (Yp Z (by first | (simp; done) | (simp only [Qn] <;> simp) | (simp only [Qj, Qn] <;> simp) | (simp only [Qj] <;> simp)) (Qp (Qf (Qh [true, true, true, false, true] Z Z (Qa (Qb Kj Z) Z (Qa (Qi sc37 Z (h1.one 5 Z)) Z (Qa (Qe Z) Z (Q0 Tryz.call42 Z (heldTokenS o4 x.tokens (X7 numL1 (X7 numW (X7 X6 k x.graph.nodes) x.workers) x.links) _ (hd4.rd.ext E) (congrArg Cluster.tokens hm) (by omega)) Z (fun _ w5 e5 hv => ?_))))))))))))))))
 subst hv
 replace E := E.trans e5; replace h1 := h1.ext e5
 have z5 := e5.size
 refine Qa (Qg Z) Z (Qd (Qf (Qf (Qh [true, true] Z Z (Qa (Qe Z) Z (Qa (Yb Z Z) Z (Qd (Yp Z (by first | (simp; done) | (simp only [Qn] <;> simp) | (simp only [Qj, Qn] <;> simp) | (simp only [Qj] <;> simp)) (Qp (Qf (Qh [true, true, true, false, true] Z Z (Qa (Qb fl40_4 Z) Z (Qa (Qi sc38 Z (h1.one 6 Z)) Z (Qa (Qe Z) Z (Q0 Tryz.call43 Z (heldNewsS o5 x.news ((X7 numL1 (X7 numW (X7 X6 k x.graph.nodes) x.workers) x.links) + 5 * x.tokens.length) _ (hd5.rd.ext E) (congrArg Cluster.news hm) (by omega)) Z (fun _ w6 e6 hv => ?_))))))))))))))))
 subst hv
 replace E := E.trans e6; replace h1 := h1.ext e6
 have z6 := e6.size
 refine Qa (Qg Z) Z (Qd (Qf (Qf (Qh [true, true] Z Z (Qa (Qe Z) Z (Qa (Yb Z Z) Z (Qd (Yp Z (by first | (simp; done) | (simp only [Qn] <;> simp) | (simp only [Qj, Qn] <;> simp) | (simp only [Qj] <;> simp)) (Qp (Qf (Qh [true, true] Z Z (Qa (Qe Z) Z (Qa (Qg Z) Z (Qd (Qw (Qm Z Z E ?_))))))))))))))))
 rfl

set_option maxRecDepth 20000 in
theorem c_copyLink (cx : List Value) (x : Link) (w : World) (hx : Dat.R w 0 w.heap.size cx x) (hb : Y9 x ≤ 1048576) : Ct Tryz.prog 60 [.agg cx.toArray] w (fun v w' => ∃ cs, v = .agg cs.toArray ∧ Own1.O w' w.heap.size w'.heap.size cs x) := by
 unfold Y9 at hb
 refine Yj Tryz.func60 Z Tryz.ntmps60 Z ?_
 obtain ⟨o1, rfl, hd1⟩ := Link.op hx
 refine Q7 [(0, .agg [.int .i64 x.cap, o1, .int .i64 x.credits, .int .i64 x.back, .int .i64 x.sent, .int .i64 x.got].toArray)] ⟨Z, trivial⟩ ?_
 have E : Ext w w := Ext.refl w
 refine Qf (Qh [false, false] Z Z (Yx Z Z (fun b1 w1 e1 s1 h1 => ?_)))
 have g_b1 : w.heap.size ≤ b1 := by have := E.size; omega
 have y_b1 := h1.lt
 replace E := E.trans e1
 have z1 := e1.size
 refine Yu st88 Z (fun b2 w2 e2 s2 h2 => ?_)
 have g_b2 : w.heap.size ≤ b2 := by have := E.size; omega
 have y_b2 := h2.lt
 replace E := E.trans e2; replace h1 := h1.ext e2
 have z2 := e2.size
 refine Qd (Qf (Qh [true, true, false, true, false] Z Z (Qa (Qb X5 Z) Z (Qa (Qi Xa Z (h1.one 1 Z)) Z (Q0 Tryz.call107 Z (c_copyRecords o1 x.queue _ (hd1.rd.ext E) (by first | omega | (simp only [Qj]; omega) | (rw [Qj]; done) | (simp only [Qj]; done))) Z (fun v1 w3 e3 ho1 => ?_))))))
 have g_ho1 : w.heap.size ≤ w2.heap.size := E.size
 replace E := E.trans e3; replace h1 := h1.ext e3; replace h2 := h2.ext e3
 have z3 := e3.size
 refine Qa (Qb X5 Z) Z (Ye (cs' := [.int .i64 x.cap, v1, .int .i64 x.credits, .int .i64 x.back, .int .i64 x.sent, .int .i64 x.got]) Xa Z Z ho1.one h1 (Nat.le_of_ble_eq_true Z) Z (fun w4 m1 h1' => ?_))
 replace h1 := h1'
 replace E := E.step m1 (fun g hg => by cases hg; omega); replace h2 := h2.mod m1 (fun g hg => by cases hg; omega); replace ho1 := ho1.mod m1 (fun g hg => by cases hg; omega)
 have z4 := m1.size
 refine Qd (Qf (Qh [true, false] Z Z (Qa (Q1 st88 Z h1.at Z) Z (Ya (cs' := [.int .i64 x.cap, v1, .int .i64 x.credits, .int .i64 x.back, .int .i64 x.sent, .int .i64 x.got]) st88 Z Z Z (Ql Z (Ql ho1.one (Ql Z (Ql Z (Ql Z (Ql Z Z)))))) h2 (Nat.le_of_ble_eq_true Z) Z (fun w5 m2 h2' => ?_)))))
 replace h2 := h2'
 replace E := E.step m2 (fun g hg => by cases hg; omega); replace h1 := h1.mod m2 (fun g hg => by cases hg; omega); replace ho1 := ho1.mod m2 (fun g hg => by cases hg; omega)
 have z5 := m2.size
 refine Qd (Qw (Xi Z Z (Ys st88 h2.at Z) E ?_))
 exact ⟨_, Z, Link.mkO x ⟨trivial, trivial⟩ (Own.widen ho1 (by omega) (by omega))⟩

set_option maxRecDepth 20000 in
theorem s_l06Copy (cx : List Value) (x : Link) (w : World) (hx : Dat.R w 0 w.heap.size cx x) (hb : Y9 x ≤ 1048576) : Ct Tryz.prog 94 [.agg cx.toArray] w (fun v w' => ∃ cs, v = .agg cs.toArray ∧ Own1.O w' w.heap.size w'.heap.size cs x) := by
 unfold Y9 at hb
 refine Yj Tryz.func94 Z Tryz.ntmps94 Z ?_
 obtain ⟨o1, rfl, hd1⟩ := Link.op hx
 refine Q7 [(0, .agg [.int .i64 x.cap, o1, .int .i64 x.credits, .int .i64 x.back, .int .i64 x.sent, .int .i64 x.got].toArray)] ⟨Z, trivial⟩ ?_
 have E : Ext w w := Ext.refl w
 refine Qf (Qh [false, false] Z Z (Yx Z Z (fun b1 w1 e1 s1 h1 => ?_)))
 have g_b1 : w.heap.size ≤ b1 := by have := E.size; omega
 have y_b1 := h1.lt
 replace E := E.trans e1
 have z1 := e1.size
 refine Yu st88 Z (fun b2 w2 e2 s2 h2 => ?_)
 have g_b2 : w.heap.size ≤ b2 := by have := E.size; omega
 have y_b2 := h2.lt
 replace E := E.trans e2; replace h1 := h1.ext e2
 have z2 := e2.size
 refine Qd (Qf (Qh [false, true, true, false, true, false] Z Z (Y1 (vs := []) (css := []) Xx Z Z trivial Z Z (fun b3 w3 e3 s3 h3 => ?_))))
 replace h3 : Blk w3 b3 [] := h3
 have g_b3 : w.heap.size ≤ b3 := by have := E.size; omega
 have y_b3 := h3.lt
 replace E := E.trans e3; replace h1 := h1.ext e3; replace h2 := h2.ext e3
 have z3 := e3.size
 refine Qa (Qb X5 Z) Z (Qa (Qi Xa Z (h1.one 1 Z)) Z (J_append Xx Z Z (Own.ofBlk (lo := b3) (hi := b3 + 1) (sz := 5) h3 (Nat.le_refl _) (Nat.lt_succ_self _) (by simp) (by simp [maxLen])) (RdS.src (hd1.rd.ext E)) (Xb _) (by simp only [List.length_append, Y0, List.length_nil, List.length_cons, List.length_drop]; simp only [Enc.sz]; omega) (by decide) (by omega) (by omega) Z Z (fun v1 w4 m1 ho1 => ?_)))
 replace E := E.step m1 (fun g hg => by have := Own.blk (Own.ofBlk (lo := b3) (hi := b3 + 1) (sz := 5) h3 (Nat.le_refl _) (Nat.lt_succ_self _) (by simp) (by simp [maxLen])) g hg; omega); replace h1 := h1.mod m1 (fun g hg => by have := Own.blk (Own.ofBlk (lo := b3) (hi := b3 + 1) (sz := 5) h3 (Nat.le_refl _) (Nat.lt_succ_self _) (by simp) (by simp [maxLen])) g hg; omega); replace h2 := h2.mod m1 (fun g hg => by have := Own.blk (Own.ofBlk (lo := b3) (hi := b3 + 1) (sz := 5) h3 (Nat.le_refl _) (Nat.lt_succ_self _) (by simp) (by simp [maxLen])) g hg; omega)
 have z4 := m1.size
 refine Qa (Qb X5 Z) Z (Ye (cs' := [.int .i64 x.cap, v1, .int .i64 x.credits, .int .i64 x.back, .int .i64 x.sent, .int .i64 x.got]) Xa Z Z ho1.one h1 (Nat.le_of_ble_eq_true Z) Z (fun w5 m2 h1' => ?_))
 replace h1 := h1'
 replace E := E.step m2 (fun g hg => by cases hg; omega); replace h2 := h2.mod m2 (fun g hg => by cases hg; omega); replace ho1 := ho1.mod m2 (fun g hg => by cases hg; omega)
 have z5 := m2.size
 refine Qd (Qf (Qh [true, false] Z Z (Qa (Q1 st88 Z h1.at Z) Z (Ya (cs' := [.int .i64 x.cap, v1, .int .i64 x.credits, .int .i64 x.back, .int .i64 x.sent, .int .i64 x.got]) st88 Z Z Z (Ql Z (Ql ho1.one (Ql Z (Ql Z (Ql Z (Ql Z Z)))))) h2 (Nat.le_of_ble_eq_true Z) Z (fun w6 m3 h2' => ?_)))))
 replace h2 := h2'
 replace E := E.step m3 (fun g hg => by cases hg; omega); replace h1 := h1.mod m3 (fun g hg => by cases hg; omega); replace ho1 := ho1.mod m3 (fun g hg => by cases hg; omega)
 have z6 := m3.size
 refine Qd (Qw (Xi Z Z (Ys st88 h2.at Z) E ?_))
 exact ⟨_, Z, Link.mkO (⟨x.cap, [] ++ x.queue, x.credits, x.back, x.sent, x.got⟩ : Link) ⟨trivial, trivial⟩ (Own.widen ho1 (by omega) (by omega))⟩

set_option maxRecDepth 20000 in
theorem c_copyGraph (cx : List Value) (x : Graph) (w : World) (hx : Dat.R w 0 w.heap.size cx x) (hb : Y6 x ≤ 1048576) : Ct Tryz.prog 58 [.agg cx.toArray] w (fun v w' => ∃ o, v = .agg [o, .int .i64 x.workers, .int .i64 x.cap].toArray ∧ OwS w' w.heap.size w'.heap.size o x.nodes) := by
 have hb2 := hb
 unfold Y6 Xu at hb2
 refine Yj Tryz.func58 Z Tryz.ntmps58 Z ?_
 obtain ⟨o1, rfl, hd1⟩ := Graph.op hx
 refine Q7 [(0, .agg [o1, .int .i64 x.workers, .int .i64 x.cap].toArray)] ⟨Z, trivial⟩ ?_
 have E : Ext w w := Ext.refl w
 refine Qf (Qh [false, false] Z Z (Yx Z Z (fun b1 w1 e1 s1 h1 => ?_)))
 have g_b1 : w.heap.size ≤ b1 := by have := E.size; omega
 have y_b1 := h1.lt
 replace E := E.trans e1
 have z1 := e1.size
 refine Yu X2 Z (fun b2 w2 e2 s2 h2 => ?_)
 have g_b2 : w.heap.size ≤ b2 := by have := E.size; omega
 have y_b2 := h2.lt
 replace E := E.trans e2; replace h1 := h1.ext e2
 have z2 := e2.size
 refine Qd (Qf (Qh [true, true, true, true, true, false, false] Z Z (Qa (Qb fl34_1 Z) Z (Qa (Qi Yk Z (h1.one 1 Z)) Z (Qa (Qb fl34_2 Z) Z (Qa (Qi Yk Z (h1.one 2 Z)) Z ?_))))))
 have hbl1 : ∀ w, (Instr.build 34 ([(1, .int .i64 x.workers), (2, .int .i64 x.cap)]).toArray).run Tryz.prog w = .ok (.agg [.slice none 0 0, .int .i64 x.workers, .int .i64 x.cap].toArray) w := by clear E; intro w; kernel_rfl
 refine Qa (R_buildC [.slice none 0 0, .int .i64 x.workers, .int .i64 x.cap] Z hbl1) Z (Yu X2 Z (fun b3 w3 e3 s3 h3 => ?_))
 have g_b3 : w.heap.size ≤ b3 := by have := E.size; omega
 have y_b3 := h3.lt
 replace E := E.trans e3; replace h1 := h1.ext e3; replace h2 := h2.ext e3
 have z3 := e3.size
 refine Ya (cs' := [.slice none 0 0, .int .i64 x.workers, .int .i64 x.cap]) X2 Z Z Z Z h3 (Nat.le_of_ble_eq_true Z) Z (fun w4 m1 h3' => ?_)
 replace h3 := h3'
 replace E := E.step m1 (fun g hg => by cases hg; omega); replace h1 := h1.mod m1 (fun g hg => by cases hg; omega); replace h2 := h2.mod m1 (fun g hg => by cases hg; omega)
 have z4 := m1.size
 refine Qd (Qf (Qf (Qh [true, true, true, true] Z Z (Qa (Qb Xp Z) Z (Qa (Qi sc32 Z (h1.one 0 Z)) Z (Qa (Q4 Tryz.underlying32 Z (hd1.ext E).len) Z (Qa (Qe Z) Z (Qd (Qy (Yh (fun (xq : Nat × Value) => let ⟨k0, vo0⟩ := xq; [(2, .pointer (some ⟨b2, 0, none⟩)), (3, .pointer (some ⟨b3, 0, none⟩)), (12, o1), (13, .int .i64 ((x.nodes.length : Nat) : Int)), (14, .int .i64 ((k0 : Nat) : Int))]) (fun (xq : Nat × Value) w' => let ⟨k0, vo0⟩ := xq; Ext w w' ∧ w4.heap.size ≤ w'.heap.size ∧ Blk w' b1 ([o1, .int .i64 x.workers, .int .i64 x.cap]) ∧ Blk w' b2 [.slice none 0 0, .int .i64 0, .int .i64 0] ∧ k0 ≤ x.nodes.length ∧ OwS w' w4.heap.size w'.heap.size vo0 (x.nodes.take k0) ∧ Blk w' b3 [vo0, .int .i64 x.workers, .int .i64 x.cap]) (fun (xq : Nat × Value) => let ⟨k0, vo0⟩ := xq; x.nodes.length - k0) (0, .slice none 0 0) ⟨Z, Z, Z, Z, Z, trivial⟩ ⟨E, Nat.le_refl _, h1, h2, Nat.zero_le _, (OwS.nil _ _ _), h3⟩ ?_))))))))))
 clear E h1 h2 h3
 rintro ⟨k0, vo0⟩ w5 ⟨E, z5, h1, h2, hk0, hoC0, h3⟩
 refine Q7 [(2, .pointer (some ⟨b2, 0, none⟩)), (3, .pointer (some ⟨b3, 0, none⟩)), (12, o1), (13, .int .i64 ((x.nodes.length : Nat) : Int)), (14, .int .i64 ((k0 : Nat) : Int))] ⟨Z, Z, Z, Z, Z, trivial⟩ ?_
 refine Qf (Qh [true] Z Z (Qa (Yb Z Z) Z (Qd (Qf (Qu Z (fun hc1 => ?_) (fun hc1 => ?_))))))
 ·have hc1n : k0 < x.nodes.length := by first | (have h := of_decide_eq_true hc1; omega) | (have h := hc1; simp at h; omega)
  refine Qp (Qf (Qy (Qf (Qh [true, true, false, false] Z Z ?_))))
  have hi1 : k0 < x.nodes.length := (by first | assumption | omega | (simp only [List.length_set]; first | assumption | omega))
  obtain ⟨_, hr1, ha1⟩ := RdD.get hd1 hi1
  obtain ⟨o2, rfl, hd2⟩ := Node.op hr1
  replace ha1 : At w (Xm o1) (Xl o1 + k0 * 4) [.int .i64 ((x.nodes[k0]'hi1).kind), .int .i64 ((x.nodes[k0]'hi1).a), .int .i64 ((x.nodes[k0]'hi1).b), o2] := ha1
  refine Qa (Qv (i := k0) sl32 Z Z (hd1.ext E).1 hi1) Z (Qa (Q1 Xz Z (ha1.ext E) Z) Z (Yu Xz Z (fun b4 w6 e4 s4 h4 => ?_)))
  have g_b4 : w.heap.size ≤ b4 := by have := E.size; omega
  have y_b4 := h4.lt
  replace E := E.trans e4; replace h1 := h1.ext e4; replace h2 := h2.ext e4; replace hoC0 := hoC0.ext e4; replace h3 := h3.ext e4
  have z6 := e4.size
  refine Ya (cs' := [.int .i64 ((x.nodes[k0]'hi1).kind), .int .i64 ((x.nodes[k0]'hi1).a), .int .i64 ((x.nodes[k0]'hi1).b), o2]) Xz Z Z Z (Ql Z (Ql Z (Ql Z (Ql (RdD.one (hd2.ext E)) Z)))) h4 (Nat.le_of_ble_eq_true Z) Z (fun w7 m2 h4' => ?_)
  replace h4 := h4'
  replace E := E.step m2 (fun g hg => by cases hg; omega); replace h1 := h1.mod m2 (fun g hg => by cases hg; omega); replace h2 := h2.mod m2 (fun g hg => by cases hg; omega); replace hoC0 := hoC0.mod m2 (fun g hg => by cases hg; omega); replace h3 := h3.mod m2 (fun g hg => by cases hg; omega)
  have z7 := m2.size
  refine Qd (S_regX Y8 [5] [(0, true), (1, true), (2, true), (3, false), (4, false)] [(5, false), (6, true), (7, false)] (by decide +kernel) Z Z (fun w8 e5 => ?_))
  replace E := E.trans e5; replace h1 := h1.ext e5; replace h2 := h2.ext e5; replace hoC0 := hoC0.ext e5; replace h3 := h3.ext e5; replace h4 := h4.ext e5
  have z8 := e5.size
  refine Qa (Qb Xp Z) Z (Qa (Qi sc32 Z (h3.one 0 Z)) Z (Qa (Q1 Xz Z h4.at Z) Z (Q0 Tryz.call106 Z (c_copyNode [.int .i64 ((x.nodes[k0]'hi1).kind), .int .i64 ((x.nodes[k0]'hi1).a), .int .i64 ((x.nodes[k0]'hi1).b), o2] (x.nodes[k0]'hi1) _ (Node.mkR (x.nodes[k0]'hi1) (RdD.any (hd2.ext E))) (outs_le hb (List.getElem_mem _))) Z (fun _ w9 e6 ho1 => ?_))))
  obtain ⟨_, rfl, ho1⟩ := ho1
  have g_ho1 : w.heap.size ≤ w8.heap.size := E.size
  replace E := E.trans e6; replace h1 := h1.ext e6; replace h2 := h2.ext e6; replace hoC0 := hoC0.ext e6; replace h3 := h3.ext e6; replace h4 := h4.ext e6
  have z9 := e6.size
  obtain ⟨o3, rfl, sp1, hw1⟩ := Node.opO ho1
  refine Y1 (vs := [.agg [.int .i64 ((x.nodes[k0]'hi1).kind), .int .i64 ((x.nodes[k0]'hi1).a), .int .i64 ((x.nodes[k0]'hi1).b), o3].toArray]) (css := [[.int .i64 ((x.nodes[k0]'hi1).kind), .int .i64 ((x.nodes[k0]'hi1).a), .int .i64 ((x.nodes[k0]'hi1).b), o3]]) sl32 Z Z ⟨⟨Z, Z⟩, trivial⟩ Z Z (fun b5 w10 e7 s5 h5 => ?_)
  replace h5 : Blk w10 b5 [.int .i64 ((x.nodes[k0]'hi1).kind), .int .i64 ((x.nodes[k0]'hi1).a), .int .i64 ((x.nodes[k0]'hi1).b), o3] := h5
  have g_b5 : w.heap.size ≤ b5 := by have := E.size; omega
  have y_b5 := h5.lt
  replace E := E.trans e7; replace h1 := h1.ext e7; replace h2 := h2.ext e7; replace hoC0 := hoC0.ext e7; replace h3 := h3.ext e7; replace h4 := h4.ext e7; replace hw1 := hw1.ext e7
  have z10 := e7.size
  refine JX_tail ?_
  refine J2_X Z ?_
  refine J_appendS (lo := w4.heap.size) (hi := w5.heap.size) (lo2 := w8.heap.size) (hi2 := w10.heap.size) sl32 Z Z hoC0 (Src.ofBlk h5 Z) (Node.mkO (x.nodes[k0]'hi1) sp1 (Own.widen hw1 (by omega) (by omega))) (by omega) (by simp only [List.length_take, show Dat.sz Node = 4 from Z]; omega) (by decide) (by omega) (by omega) (by omega) (by omega) (by omega) Z Z (fun v1 w11 m3 ho2 => ?_)
  have hqb := OwS.inn hoC0
  replace E := E.step m3 (fun g hg => by have := hqb g hg; omega); replace h1 := h1.mod m3 (fun g hg => by have := hqb g hg; omega); replace h2 := h2.mod m3 (fun g hg => by have := hqb g hg; omega); replace h3 := h3.mod m3 (fun g hg => by have := hqb g hg; omega); replace h4 := h4.mod m3 (fun g hg => by have := hqb g hg; omega)
  have z11 := m3.size
  clear hqb
  refine JX_go ?_
  refine Qa (Qb Xp Z) Z (Ye (cs' := [v1, .int .i64 x.workers, .int .i64 x.cap]) sc32 Z Z (RdD.one (OwS.rd ho2)) h3 (Nat.le_of_ble_eq_true Z) Z (fun w12 m4 h3' => ?_))
  replace h3 := h3'
  replace E := E.step m4 (fun g hg => by cases hg; omega); replace h1 := h1.mod m4 (fun g hg => by cases hg; omega); replace h2 := h2.mod m4 (fun g hg => by cases hg; omega); replace h4 := h4.mod m4 (fun g hg => by cases hg; omega); replace ho2 := ho2.mod m4 (fun g hg => by cases hg; omega)
  have z12 := m4.size
  refine Qd (Q5 (Yt (Qh [true, true] Z Z (Qa (Q8 Z Z (Yq hc1n (hd1.ext E).1.1)) Z (Qa (Qe Z) Z (Qd (Q5 (Q9 (k0 + 1, v1) (by simp; omega) ⟨Z, Z, Z, Z, Z, trivial⟩ ⟨E, (by omega), h1, h2, (by omega), (by rw [List.take_succ_eq_append_getElem (by assumption)]; exact OwS.widen ho2 (by omega) (by omega)), h3⟩))))))))
 ·have hc1n : ¬ k0 < x.nodes.length := by first | (have h := of_decide_eq_false hc1; omega) | (have h := hc1; simp at h; omega)
  refine Yi (Q3 (Q2 ?_))
  refine Qf (Qh [true, false] Z Z (Qa (Q1 X2 Z h3.at Z) Z (Ya (cs' := [vo0, .int .i64 x.workers, .int .i64 x.cap]) X2 Z Z Z (Ql (RdD.one (OwS.rd hoC0)) (Ql Z (Ql Z Z))) h2 (Nat.le_of_ble_eq_true Z) Z (fun w13 m5 h2' => ?_))))
  replace h2 := h2'
  replace E := E.step m5 (fun g hg => by cases hg; omega); replace h1 := h1.mod m5 (fun g hg => by cases hg; omega); replace hoC0 := hoC0.mod m5 (fun g hg => by cases hg; omega); replace h3 := h3.mod m5 (fun g hg => by cases hg; omega)
  have z13 := m5.size
  refine Qd (Qw (Xi Z Z (Ys X2 h2.at Z) E ?_))
  rw [List.take_of_length_le (by omega)] at hoC0
  exact ⟨_, Z, OwS.widen hoC0 (by have := E.size; omega) (by omega)⟩

end Go.Proofs.YtbnoffhbponglaaGreat
