/- What the functions that the laws call come to: a contract each; no condition. -/
import Derived.Test.YtbnoffhbponglaaGreatFns3
namespace Go.Proofs.YtbnoffhbponglaaGreat
open Go Go.Proofs.YtbnoffhbponglaaGreat.X Go.Proofs
set_option maxHeartbeats 4000000 in
set_option maxRecDepth 20000 in
theorem s_WorkerOk (cg : List Value) (g : Graph) (cx : List Value) (x : Worker) (w : World) (hg : Dat.R w 0 w.heap.size cg g) (hx : Dat.R w 0 w.heap.size cx x) : Ct Tryz.prog 96 [.agg cg.toArray, .agg cx.toArray] w (fun v _ => v = .bool (Xe g x)) := by
 refine Yj Tryz.func96 Z Tryz.ntmps96 Z ?_
 obtain ⟨o1, rfl, hd1⟩ := Graph.op hg
 obtain ⟨o2, o3, o4, o5, o6, o7, o8, o9, rfl, hd2, hd3, hd4, hd5, hd6, hd7, hd8, hd9⟩ := Worker.op hx
 refine Q7 [(0, .agg [o1, .int .i64 g.workers, .int .i64 g.cap].toArray), (1, .agg [o2, o3, o4, o5, o6, o7, o8, o9].toArray)] ⟨Z, Z, trivial⟩ ?_
 have E : Ext w w := Ext.refl w
 refine Qf (Qh [false, false, true] Z Z (Yx Z Z (fun b1 w1 e1 s1 h1 => ?_)))
 have g_b1 : w.heap.size ≤ b1 := by have := E.size; omega
 have y_b1 := h1.lt
 replace E := E.trans e1
 have z1 := e1.size
 refine Yx Z Z (fun b2 w2 e2 s2 h2 => ?_)
 have g_b2 : w.heap.size ≤ b2 := by have := E.size; omega
 have y_b2 := h2.lt
 replace E := E.trans e2; replace h1 := h1.ext e2
 have z2 := e2.size
 refine Qa (Qg Z) Z (Qd (Qf (Qh [true] Z Z (Qa (Qg Z) Z (Qd (Qf (Qf (Qh [true, true, true, false, true, true, true, true, true, false, true, true, true, true, true, true, false, true, true, true, true, true, false, true, true, true, true, true, true, true, true, true, true, true, true, true, true, true, true, true, true, true, true, true, true, true] Z Z (Qa (Q1 X2 Z h1.at Z) Z (Qa (Qb fl72_0 Z) Z (Qa (Qi Xa Z (h2.one 0 Z)) Z (Q0 Tryz.call98 Z (s_l12Records [o1, .int .i64 g.workers, .int .i64 g.cap] g o2 x.queue _ (Graph.mkR g (RdD.any (hd1.ext E))) (hd2.rd.ext E)) Z (fun _ w3 e3 hv => ?_)))))))))))))
 subst hv
 replace E := E.trans e3; replace h1 := h1.ext e3; replace h2 := h2.ext e3
 have z3 := e3.size
 refine Qa (Yn Z) Z (Qa (Qe Z) Z (Yz 40 [(0, .agg [o1, .int .i64 g.workers, .int .i64 g.cap].toArray), (1, .agg [o2, o3, o4, o5, o6, o7, o8, o9].toArray), (2, .pointer (some ⟨b1, 0, none⟩)), (3, .pointer (some ⟨b2, 0, none⟩)), (4, .bool false), (5, .int .i64 4), (55, .bool (((((((!(x.queue.all (Xg g))) || (!(x.staged.all (Xg g)))) || (!(x.inputs.all (Xg g)))) || (!((adj x.cells).all Xw))) || (((x.sums.length : Nat) : Int) != 4)) || (((x.black.length : Nat) : Int) != 4)) || (((x.caps.length : Nat) : Int) != 4)))] (fun w' => Ext w w' ∧ w3.heap.size ≤ w'.heap.size ∧ Blk w' b1 ([o1, .int .i64 g.workers, .int .i64 g.cap]) ∧ Blk w' b2 ([o2, o3, o4, o5, o6, o7, o8, o9])) ?_ ?_))
 ·refine Ym (gd := 15) Z Z (fun hg1 => ?_) (fun hg1 => ?_)
  ·refine Qc Z Z Z Z (Qc Z Z Z Z (Qc Z Z Z Z ?_))
   refine Yv Z Z Z Z ?_
   refine Qc Z Z Z Z (Qa (Qr Z Z) Z (Qa (Qe Z) Z (Qc Z Z Z Z (Qc Z Z Z Z (Qc Z Z Z Z ?_)))))
   refine Yv Z Z Z Z ?_
   refine Qc Z Z Z Z (Qa (Qr Z Z) Z (Qa (Qe Z) Z (Qc Z Z Z Z (Qc Z Z Z Z ?_))))
   refine Yv Z Z Z Z ?_
   refine Qc Z Z Z Z (Qa (Qr Z Z) Z (Qa (Qe Z) Z (Qc Z Z Z Z (Qc Z Z Z Z (Qc Z Z Z Z (Qc Z Z Z Z (Qc Z Z Z Z (Qa (Qr Z Z) Z (Qa (Qe Z) Z (Qc Z Z Z Z (Qc Z Z Z Z (Qc Z Z Z Z (Qc Z Z Z Z (Qc Z Z Z Z (Qa (Qr Z Z) Z (Qa (Qe Z) Z (Qc Z Z Z Z (Qc Z Z Z Z (Qc Z Z Z Z (Qc Z Z Z Z (Qc Z Z Z Z (Qa (Qr Z Z) Z (Qo ⟨Z, Z, Z, Z, Z, Z, congrArg (fun b => some (Value.bool b)) (show true = (((((((!(x.queue.all (Xg g))) || (!(x.staged.all (Xg g)))) || (!(x.inputs.all (Xg g)))) || (!((adj x.cells).all Xw))) || (((x.sums.length : Nat) : Int) != 4)) || (((x.black.length : Nat) : Int) != 4)) || (((x.caps.length : Nat) : Int) != 4)) by first | (rw [hg1] <;> rfl) | (simp [hg1]; done) | (simp only [Qn] <;> simp)), trivial⟩ ⟨E, (by omega), h1, h2⟩)))))))))))))))))))))))
  ·refine Qk Z Z (Q1 X2 Z h1.at Z) Z (Qk Z Z (Qb fl72_1 Z) Z (Qk Z Z (Qi Xa Z (h2.one 1 Z)) Z ?_))
   refine Xf Z Z ?_
   refine Q0 Tryz.call98 Z (s_l12Records [o1, .int .i64 g.workers, .int .i64 g.cap] g o3 x.staged _ (Graph.mkR g (RdD.any (hd1.ext E))) (hd3.rd.ext E)) Z (fun _ w5 e4 hv => ?_)
   subst hv
   replace E := E.trans e4; replace h1 := h1.ext e4; replace h2 := h2.ext e4
   have z4 := e4.size
   refine Qk Z Z (Yn Z) Z (Qa (Qs Z Z) Z (Qa (Qe Z) Z ?_))
   refine Ym (gd := 22) Z Z (fun hg2 => ?_) (fun hg2 => ?_)
   ·refine Qc Z Z Z Z (Qc Z Z Z Z (Qc Z Z Z Z ?_))
    refine Yv Z Z Z Z ?_
    refine Qc Z Z Z Z (Qa (Qr Z Z) Z (Qa (Qe Z) Z (Qc Z Z Z Z (Qc Z Z Z Z ?_))))
    refine Yv Z Z Z Z ?_
    refine Qc Z Z Z Z (Qa (Qr Z Z) Z (Qa (Qe Z) Z (Qc Z Z Z Z (Qc Z Z Z Z (Qc Z Z Z Z (Qc Z Z Z Z (Qc Z Z Z Z (Qa (Qr Z Z) Z (Qa (Qe Z) Z (Qc Z Z Z Z (Qc Z Z Z Z (Qc Z Z Z Z (Qc Z Z Z Z (Qc Z Z Z Z (Qa (Qr Z Z) Z (Qa (Qe Z) Z (Qc Z Z Z Z (Qc Z Z Z Z (Qc Z Z Z Z (Qc Z Z Z Z (Qc Z Z Z Z (Qa (Qr Z Z) Z (Qo ⟨Z, Z, Z, Z, Z, Z, congrArg (fun b => some (Value.bool b)) (show true = (((((((!(x.queue.all (Xg g))) || (!(x.staged.all (Xg g)))) || (!(x.inputs.all (Xg g)))) || (!((adj x.cells).all Xw))) || (((x.sums.length : Nat) : Int) != 4)) || (((x.black.length : Nat) : Int) != 4)) || (((x.caps.length : Nat) : Int) != 4)) by first | (rw [hg1, hg2] <;> rfl) | (simp [hg1, hg2]; done) | (simp only [Qn] <;> simp)), trivial⟩ ⟨E, (by omega), h1, h2⟩)))))))))))))))))))))))
   ·refine Qk Z Z (Q1 X2 Z h1.at Z) Z (Qk Z Z (Qb Xo Z) Z (Qk Z Z (Qi Xa Z (h2.one 2 Z)) Z ?_))
    refine Xf Z Z ?_
    refine Q0 Tryz.call98 Z (s_l12Records [o1, .int .i64 g.workers, .int .i64 g.cap] g o4 x.inputs _ (Graph.mkR g (RdD.any (hd1.ext E))) (hd4.rd.ext E)) Z (fun _ w6 e5 hv => ?_)
    subst hv
    replace E := E.trans e5; replace h1 := h1.ext e5; replace h2 := h2.ext e5
    have z5 := e5.size
    refine Qk Z Z (Yn Z) Z (Qa (Qs Z Z) Z (Qa (Qe Z) Z ?_))
    refine Ym (gd := 29) Z Z (fun hg3 => ?_) (fun hg3 => ?_)
    ·refine Qc Z Z Z Z (Qc Z Z Z Z ?_)
     refine Yv Z Z Z Z ?_
     refine Qc Z Z Z Z (Qa (Qr Z Z) Z (Qa (Qe Z) Z (Qc Z Z Z Z (Qc Z Z Z Z (Qc Z Z Z Z (Qc Z Z Z Z (Qc Z Z Z Z (Qa (Qr Z Z) Z (Qa (Qe Z) Z (Qc Z Z Z Z (Qc Z Z Z Z (Qc Z Z Z Z (Qc Z Z Z Z (Qc Z Z Z Z (Qa (Qr Z Z) Z (Qa (Qe Z) Z (Qc Z Z Z Z (Qc Z Z Z Z (Qc Z Z Z Z (Qc Z Z Z Z (Qc Z Z Z Z (Qa (Qr Z Z) Z (Qo ⟨Z, Z, Z, Z, Z, Z, congrArg (fun b => some (Value.bool b)) (show true = (((((((!(x.queue.all (Xg g))) || (!(x.staged.all (Xg g)))) || (!(x.inputs.all (Xg g)))) || (!((adj x.cells).all Xw))) || (((x.sums.length : Nat) : Int) != 4)) || (((x.black.length : Nat) : Int) != 4)) || (((x.caps.length : Nat) : Int) != 4)) by first | (rw [hg1, hg2, hg3] <;> rfl) | (simp [hg1, hg2, hg3]; done) | (simp only [Qn] <;> simp)), trivial⟩ ⟨E, (by omega), h1, h2⟩)))))))))))))))))))))))
    ·refine Qk Z Z (Qb fl72_3 Z) Z (Qk Z Z (Qi sc67 Z (h2.one 3 Z)) Z ?_)
     refine Xf Z Z ?_
     refine Q0 Tryz.call121 Z (s_CellsOk o5 x.cells _ (hd5.rd.ext E)) Z (fun _ w7 e6 hv => ?_)
     subst hv
     replace E := E.trans e6; replace h1 := h1.ext e6; replace h2 := h2.ext e6
     have z6 := e6.size
     refine Qk Z Z (Yn Z) Z (Qa (Qs Z Z) Z (Qa (Qe Z) Z ?_))
     refine Ym (gd := 35) Z Z (fun hg4 => ?_) (fun hg4 => ?_)
     ·refine Qc Z Z Z Z (Qc Z Z Z Z (Qc Z Z Z Z (Qc Z Z Z Z (Qc Z Z Z Z (Qa (Qr Z Z) Z (Qa (Qe Z) Z (Qc Z Z Z Z (Qc Z Z Z Z (Qc Z Z Z Z (Qc Z Z Z Z (Qc Z Z Z Z (Qa (Qr Z Z) Z (Qa (Qe Z) Z (Qc Z Z Z Z (Qc Z Z Z Z (Qc Z Z Z Z (Qc Z Z Z Z (Qc Z Z Z Z (Qa (Qr Z Z) Z (Qo ⟨Z, Z, Z, Z, Z, Z, congrArg (fun b => some (Value.bool b)) (show true = (((((((!(x.queue.all (Xg g))) || (!(x.staged.all (Xg g)))) || (!(x.inputs.all (Xg g)))) || (!((adj x.cells).all Xw))) || (((x.sums.length : Nat) : Int) != 4)) || (((x.black.length : Nat) : Int) != 4)) || (((x.caps.length : Nat) : Int) != 4)) by first | (rw [hg1, hg2, hg3, hg4] <;> rfl) | (simp [hg1, hg2, hg3, hg4]; done) | (simp only [Qn] <;> simp)), trivial⟩ ⟨E, (by omega), h1, h2⟩))))))))))))))))))))
     ·refine Qk Z Z (Qb fl72_4 Z) Z (Qk Z Z (Qi Yy Z (h2.one 4 Z)) Z (Qk Z Z (Q4 Tryz.underlying68 Z (hd6.ext E).len) Z (Qk Z Z (Qe Z) Z (Qk Z Z (Yr Z Z) Z (Qa (Qs Z Z) Z (Qa (Qe Z) Z ?_))))))
      refine Ym (gd := 42) Z Z (fun hg5 => ?_) (fun hg5 => ?_)
      ·have hg5n : ¬ x.sums.length = 4 := by first | (have h := of_decide_eq_true hg5; omega) | (have h := hg5; simp at h; omega)
       refine Qc Z Z Z Z (Qc Z Z Z Z (Qc Z Z Z Z (Qc Z Z Z Z (Qc Z Z Z Z (Qa (Qr Z Z) Z (Qa (Qe Z) Z (Qc Z Z Z Z (Qc Z Z Z Z (Qc Z Z Z Z (Qc Z Z Z Z (Qc Z Z Z Z (Qa (Qr Z Z) Z (Qo ⟨Z, Z, Z, Z, Z, Z, congrArg (fun b => some (Value.bool b)) (show true = (((((((!(x.queue.all (Xg g))) || (!(x.staged.all (Xg g)))) || (!(x.inputs.all (Xg g)))) || (!((adj x.cells).all Xw))) || (((x.sums.length : Nat) : Int) != 4)) || (((x.black.length : Nat) : Int) != 4)) || (((x.caps.length : Nat) : Int) != 4)) by first | (rw [hg1, hg2, hg3, hg4, hg5] <;> rfl) | (simp [hg1, hg2, hg3, hg4, hg5]; done) | (simp only [Qn] <;> simp)), trivial⟩ ⟨E, (by omega), h1, h2⟩)))))))))))))
      ·have hg5n : x.sums.length = 4 := by first | (have h := of_decide_eq_false hg5; omega) | (have h := hg5; simp at h; omega)
       refine Qk Z Z (Qb fl72_5 Z) Z (Qk Z Z (Qi sc69 Z (h2.one 5 Z)) Z (Qk Z Z (Q4 Tryz.underlying69 Z (hd7.ext E).len) Z (Qk Z Z (Qe Z) Z (Qk Z Z (Yr Z Z) Z (Qa (Qs Z Z) Z (Qa (Qe Z) Z ?_))))))
       refine Ym (gd := 49) Z Z (fun hg6 => ?_) (fun hg6 => ?_)
       ·have hg6n : ¬ x.black.length = 4 := by first | (have h := of_decide_eq_true hg6; omega) | (have h := hg6; simp at h; omega)
        refine Qc Z Z Z Z (Qc Z Z Z Z (Qc Z Z Z Z (Qc Z Z Z Z (Qc Z Z Z Z (Qa (Qr Z Z) Z (Qo ⟨Z, Z, Z, Z, Z, Z, congrArg (fun b => some (Value.bool b)) (show true = (((((((!(x.queue.all (Xg g))) || (!(x.staged.all (Xg g)))) || (!(x.inputs.all (Xg g)))) || (!((adj x.cells).all Xw))) || (((x.sums.length : Nat) : Int) != 4)) || (((x.black.length : Nat) : Int) != 4)) || (((x.caps.length : Nat) : Int) != 4)) by first | (rw [hg1, hg2, hg3, hg4, hg5, hg6] <;> rfl) | (simp [hg1, hg2, hg3, hg4, hg5, hg6]; done) | (simp only [Qn] <;> simp)), trivial⟩ ⟨E, (by omega), h1, h2⟩))))))
       ·have hg6n : x.black.length = 4 := by first | (have h := of_decide_eq_false hg6; omega) | (have h := hg6; simp at h; omega)
        refine Qk Z Z (Qb fl72_6 Z) Z (Qk Z Z (Qi sc69 Z (h2.one 6 Z)) Z (Qk Z Z (Q4 Tryz.underlying69 Z (hd8.ext E).len) Z (Qk Z Z (Qe Z) Z (Qk Z Z (Yr Z Z) Z (Qa (Qs Z Z) Z (Qo ⟨Z, Z, Z, Z, Z, Z, congrArg (fun b => some (Value.bool b)) (show (((x.caps.length : Nat) : Int) != 4) = (((((((!(x.queue.all (Xg g))) || (!(x.staged.all (Xg g)))) || (!(x.inputs.all (Xg g)))) || (!((adj x.cells).all Xw))) || (((x.sums.length : Nat) : Int) != 4)) || (((x.black.length : Nat) : Int) != 4)) || (((x.caps.length : Nat) : Int) != 4)) by first | (rw [hg1, hg2, hg3, hg4, hg5, hg6] <;> rfl) | (simp [hg1, hg2, hg3, hg4, hg5, hg6]; done) | (simp only [Qn] <;> simp)), trivial⟩ ⟨E, (by omega), h1, h2⟩))))))
 clear E h1 h2
 rintro w4 ⟨E, z7, h1, h2⟩
 refine Qd (Qu Z (fun hc1 => ?_) (fun hc1 => ?_))
 ·refine Qf (Qh [true] Z Z (Qa (Qg Z) Z (Qd (Qw (Qm Z Z E ?_)))))
  exact bf fun h => by simp only [Xe, Bool.and_eq_true] at h; obtain ⟨⟨⟨⟨⟨⟨⟨⟨⟨q1, q2⟩, q3⟩, q4⟩, q5⟩, q6⟩, q7⟩, q8⟩, q9⟩, q10⟩ := h; simp only [beq_iff_eq] at q6 q7 q8; simp only [q1, q2, q3, q4, q6, q7, q8] at hc1; simp at hc1
 ·refine Qp (Qf (Qf (Qh [true] Z Z (Qa (Qg Z) Z (Qd (Qy (Yh (fun (k : Nat) => [(3, .pointer (some ⟨b2, 0, none⟩)), (4, .bool false), (5, .int .i64 4), (6, .int .i64 ((k : Nat) : Int))]) (fun (k : Nat) w' => Ext w w' ∧ w4.heap.size ≤ w'.heap.size ∧ Blk w' b1 ([o1, .int .i64 g.workers, .int .i64 g.cap]) ∧ Blk w' b2 ([o2, o3, o4, o5, o6, o7, o8, o9]) ∧ k ≤ x.inputs.length ∧ allR k (fun j => inAt x.inputs j) = true) (fun (k : Nat) => x.inputs.length - k) 0 ⟨Z, Z, Z, Z, trivial⟩ ⟨E, Nat.le_refl _, h1, h2, Nat.zero_le _, Z⟩ ?_)))))))
  clear E h1 h2
  rintro k w8 ⟨E, z8, h1, h2, hk, hI1⟩
  have hmi := hd4.1.1
  unfold maxLen at hmi
  refine Qf (Qf (Qh [true, true, true, true, true] Z Z (Qa (Qe Z) Z (Qa (Qb Xo Z) Z (Qa (Qi Xa Z (h2.one 2 Z)) Z (Qa (Q4 Tryz.underlying66 Z (hd4.ext E).len) Z (Qa (Yb Z Z) Z (Qd (Qu Z (fun hc2 => ?_) (fun hc2 => ?_))))))))))
  ·have hc2n : k < x.inputs.length := by first | (have h := of_decide_eq_true hc2; omega) | (have h := hc2; simp at h; omega)
   refine Qp (Qf (Qy (Qf (Y7 Y8 [(0, true), (1, true), (2, true), (3, true), (4, true), (5, true), (6, true), (7, true), (8, true), (9, true), (10, true), (11, true), (12, true), (13, true), (14, true), (15, true), (16, true), (17, true), (18, true), (19, true), (20, true), (21, true), (22, true), (23, true), (24, true), (25, true), (26, true), (27, true), (28, true), (29, true), (30, true), (31, true), (32, true), (33, true), (34, true), (35, true), (36, true), (37, true), (38, true)] (by decide +kernel) Z (fun w9 e7 => ?_)))))
   replace E := E.trans e7; replace h1 := h1.ext e7; replace h2 := h2.ext e7
   have z9 := e7.size
   refine Qa (Qb Xo Z) Z (Qa (Qi Xa Z (h2.one 2 Z)) Z (Qa (Qe Z) Z ?_))
   have hi1 : k < x.inputs.length := (by first | assumption | omega | (simp only [List.length_set]; first | assumption | omega))
   refine Qa (Qv (i := k) Xx Z Z (hd4.rd.ext E) hi1) Z (Qa (Qz fl105_0 Z) Z (Qa (Qi Yk Z (((hd4.rd.ext E).get hi1).one 0 Z)) Z (Qa (Yr Z Z) Z (Qa (Qe Z) Z (Yz 31 [(3, .pointer (some ⟨b2, 0, none⟩)), (4, .bool false), (5, .int .i64 4), (6, .int .i64 ((k : Nat) : Int)), (56, .int .i64 ((k : Nat) : Int)), (57, .pointer (some ⟨b2, 2, none⟩)), (58, o4), (59, .int .i64 ((x.inputs.length : Nat) : Int)), (60, .bool (decide (((k : Nat) : Int) < ((x.inputs.length : Nat) : Int)))), (101, .bool (((((x.inputs[k]'hi1).op) != 0) || ((((x.inputs[k]'hi1).stamp).turn) != 0)) || ((decide (0 < ((k : Nat) : Int))) && (decide ((((x.inputs[k]'hi1).stamp).epoch) < (((List.getD x.inputs (k - 1) default).stamp).epoch))))))] (fun w' => w9 = w') ?_ ?_)))))
   ·refine Ym (gd := 70) Z Z (fun hg7 => ?_) (fun hg7 => ?_)
    ·refine Qc Z Z Z Z (Qc Z Z Z Z (Qc Z Z Z Z (Qc Z Z Z Z (Qc Z Z Z Z (Qc Z Z Z Z (Qc Z Z Z Z (Qc Z Z Z Z (Qa (Qr Z Z) Z (Qa (Qe Z) Z (Qc Z Z Z Z (Qc Z Z Z Z (Qc Z Z Z Z (Qt Z Z Z (Qt Z Z Z (Qt Z Z Z (Qt Z Z Z (Qt Z Z Z (Qt Z Z Z (Qt Z Z Z (Qt Z Z Z (Qt Z Z Z (Qt Z Z Z (Qt Z Z Z (Qt Z Z Z (Qt Z Z Z (Qt Z Z Z (Qt Z Z Z (Qt Z Z Z (Qc Z Z Z Z (Qa (Qr Z Z) Z (Qo ⟨Z, Z, Z, Z, Z, Z, Z, Z, Z, congrArg (fun b => some (Value.bool b)) (show true = (((((x.inputs[k]'hi1).op) != 0) || ((((x.inputs[k]'hi1).stamp).turn) != 0)) || ((decide (0 < ((k : Nat) : Int))) && (decide ((((x.inputs[k]'hi1).stamp).epoch) < (((List.getD x.inputs (k - 1) default).stamp).epoch))))) by first | (rw [hg7] <;> rfl) | (simp [hg7]; done) | (simp only [Qn] <;> simp)), trivial⟩ Z)))))))))))))))))))))))))))))))
    ·refine Qk Z Z (Qb Xo Z) Z (Qk Z Z (Qi Xa Z (h2.one 2 Z)) Z (Qk Z Z (Qe Z) Z (Qk Z Z (Qv (i := k) Xx Z Z (hd4.rd.ext E) hi1) Z (Qk Z Z (Qz X9 Z) Z (Qk Z Z (Qz fl103_1 Z) Z (Qk Z Z (Qi Yk Z (((hd4.rd.ext E).get hi1).one 2 Z)) Z (Qk Z Z (Yr Z Z) Z (Qa (Qs Z Z) Z (Qa (Qe Z) Z ?_)))))))))
     refine Ym (gd := 80) Z Z (fun hg8 => ?_) (fun hg8 => ?_)
     ·refine Qc Z Z Z Z (Qc Z Z Z Z (Qc Z Z Z Z (Qt Z Z Z (Qt Z Z Z (Qt Z Z Z (Qt Z Z Z (Qt Z Z Z (Qt Z Z Z (Qt Z Z Z (Qt Z Z Z (Qt Z Z Z (Qt Z Z Z (Qt Z Z Z (Qt Z Z Z (Qt Z Z Z (Qt Z Z Z (Qt Z Z Z (Qt Z Z Z (Qc Z Z Z Z (Qa (Qr Z Z) Z (Qo ⟨Z, Z, Z, Z, Z, Z, Z, Z, Z, congrArg (fun b => some (Value.bool b)) (show true = (((((x.inputs[k]'hi1).op) != 0) || ((((x.inputs[k]'hi1).stamp).turn) != 0)) || ((decide (0 < ((k : Nat) : Int))) && (decide ((((x.inputs[k]'hi1).stamp).epoch) < (((List.getD x.inputs (k - 1) default).stamp).epoch))))) by first | (rw [hg7, hg8] <;> rfl) | (simp [hg7, hg8]; done) | (simp only [Qn] <;> simp)), trivial⟩ Z)))))))))))))))))))))
     ·refine Qk Z Z (Qe Z) Z (Qk Z Z (Xc Z Z) Z (Qk Z Z (Qe Z) Z ?_))
      refine Ym (gd := 83) Z Z (fun hg9 => ?_) (fun hg9 => ?_)
      ·have hg9n : k > 0 := by first | (have h := of_decide_eq_true hg9; omega) | (have h := hg9; simp at h; omega)
       refine Qk Z Z (Qb Xo Z) Z (Qk Z Z (Qi Xa Z (h2.one 2 Z)) Z (Qk Z Z (Qe Z) Z (Qk Z Z (Ka Z Z (sub_nat (by omega) (by unfold maxLen; omega))) Z (Qk Z Z (Qv (i := (k - 1)) Xx Z Z (hd4.rd.ext E) (by first | assumption | omega | (simp only [List.length_set]; first | assumption | omega))) Z (Qk Z Z (Qz X9 Z) Z (Qk Z Z (Qz fl103_0 Z) Z (Qk Z Z (Qi Yk Z ((RdS.getD (hd4.rd.ext E) (i := (k - 1)) (by first | assumption | omega | (simp only [List.length_set]; first | assumption | omega))).one 1 Z)) Z (Qk Z Z (Qb Xo Z) Z (Qk Z Z (Qi Xa Z (h2.one 2 Z)) Z (Qk Z Z (Qe Z) Z (Qk Z Z (Qv (i := k) Xx Z Z (hd4.rd.ext E) hi1) Z (Qk Z Z (Qz X9 Z) Z (Qk Z Z (Qz fl103_0 Z) Z (Qk Z Z (Qi Yk Z (((hd4.rd.ext E).get hi1).one 1 Z)) Z (Qk Z Z (Xc Z Z) Z (Qk Z Z (Qr Z Z) Z (Qa (Qs Z Z) Z (Qo ⟨Z, Z, Z, Z, Z, Z, Z, Z, Z, congrArg (fun b => some (Value.bool b)) (show (decide ((((x.inputs[k]'hi1).stamp).epoch) < (((List.getD x.inputs (k - 1) default).stamp).epoch))) = (((((x.inputs[k]'hi1).op) != 0) || ((((x.inputs[k]'hi1).stamp).turn) != 0)) || ((decide (0 < ((k : Nat) : Int))) && (decide ((((x.inputs[k]'hi1).stamp).epoch) < (((List.getD x.inputs (k - 1) default).stamp).epoch))))) by first | (rw [hg7, hg8, hg9] <;> rfl) | (simp [hg7, hg8, hg9]; done) | (simp only [Qn] <;> simp)), trivial⟩ Z))))))))))))))))))
      ·have hg9n : ¬ k > 0 := by first | (have h := of_decide_eq_false hg9; omega) | (have h := hg9; simp at h; omega)
       refine Qc Z Z Z Z (Qc Z Z Z Z (Qc Z Z Z Z (Qc Z Z Z Z (Qc Z Z Z Z (Qc Z Z Z Z (Qc Z Z Z Z (Qc Z Z Z Z (Qc Z Z Z Z (Qc Z Z Z Z (Qc Z Z Z Z (Qc Z Z Z Z (Qc Z Z Z Z (Qc Z Z Z Z (Qc Z Z Z Z (Qc Z Z Z Z (Qk Z Z (Qs Z Z) Z (Qa (Qs Z Z) Z (Qo ⟨Z, Z, Z, Z, Z, Z, Z, Z, Z, congrArg (fun b => some (Value.bool b)) (show false = (((((x.inputs[k]'hi1).op) != 0) || ((((x.inputs[k]'hi1).stamp).turn) != 0)) || ((decide (0 < ((k : Nat) : Int))) && (decide ((((x.inputs[k]'hi1).stamp).epoch) < (((List.getD x.inputs (k - 1) default).stamp).epoch))))) by first | (rw [hg7, hg8, hg9] <;> rfl) | (simp [hg7, hg8, hg9]; done) | (simp only [Qn] <;> simp)), trivial⟩ Z))))))))))))))))))
   rintro _ rfl
   refine Qd (Qu Z (fun hc3 => ?_) (fun hc3 => ?_))
   ·refine Qf (Qh [true] Z Z (Qa (Qg Z) Z (Qd (Qw (Qx (Yg (Qx (Qm Z Z E ?_))))))))
    exact bf fun h => by simp only [Xe, Bool.and_eq_true] at h; obtain ⟨⟨⟨⟨⟨⟨⟨⟨⟨q1, q2⟩, q3⟩, q4⟩, q5⟩, q6⟩, q7⟩, q8⟩, q9⟩, q10⟩ := h; have := allR_get q5 (by assumption); rw [inAt_at (by assumption), hc3] at this; cases this
   ·refine Qp (Q5 (Yt (Qh [true, true, true] Z Z (Qa (Qe Z) Z (Qa (Q8 Z Z (Yq hc2n (hd4.ext E).1.1)) Z (Qa (Qg Z) Z (Qd (Q5 (Q9 (k + 1) (by omega) ⟨Z, Z, Z, Z, trivial⟩ ⟨E, (by omega), h1, h2, (by omega), allR_s hI1 ((inAt_at (by assumption)).trans (congrArg not hc3))⟩)))))))))
  ·have hc2n : ¬ k < x.inputs.length := by first | (have h := of_decide_eq_false hc2; omega) | (have h := hc2; simp at h; omega)
   refine Yi (Q3 (Q2 ?_))
   refine Qf (Qf (Qh [true] Z Z (Qa (Qg Z) Z (Qd (Qy (Yh (fun (k : Nat) => [(3, .pointer (some ⟨b2, 0, none⟩)), (4, .bool false), (5, .int .i64 4), (7, .int .i64 ((k : Nat) : Int))]) (fun (k : Nat) w' => Ext w w' ∧ w8.heap.size ≤ w'.heap.size ∧ Blk w' b1 ([o1, .int .i64 g.workers, .int .i64 g.cap]) ∧ Blk w' b2 ([o2, o3, o4, o5, o6, o7, o8, o9]) ∧ k ≤ 4 ∧ (x.sums.take k).all (Yo · (-1000000) 1000000) = true) (fun (k : Nat) => 4 - k) 0 ⟨Z, Z, Z, Z, trivial⟩ ⟨E, Nat.le_refl _, h1, h2, Nat.zero_le _, Z⟩ ?_))))))
   clear E h1 h2
   rintro k w11 ⟨E, z10, h1, h2, hk, hI2⟩
   have hs4 := wk_len hc1
   refine Qf (Qf (Qh [true, true, true] Z Z (Qa (Qe Z) Z (Qa (Qe Z) Z (Qa (Yb Z Z) Z (Qd (Qu Z (fun hc4 => ?_) (fun hc4 => ?_))))))))
   ·have hc4n : k < 4 := by first | (have h := of_decide_eq_true hc4; omega) | (have h := hc4; simp at h; omega)
    refine Qp (Qf (Qy (Qf (Qh [true, true, true, true, true, false, true] Z Z (Qa (Qb fl72_4 Z) Z (Qa (Qi Yy Z (h2.one 4 Z)) Z (Qa (Qe Z) Z ?_)))))))
    have hi2 : k < x.sums.length := (by first | assumption | omega | (simp only [List.length_set]; first | assumption | omega))
    refine Qa (Qv (i := k) Y5 Z Z (hd6.rd.ext E) hi2) Z (Qa (Qi Yk Z (((hd6.rd.ext E).get hi2).one 0 Z)) Z (Q0 Tryz.call99 Z (s_l01In (x.sums[k]'hi2) (-1000000) 1000000 _ ) Z (fun _ w12 e8 hv => ?_)))
    subst hv
    replace E := E.trans e8; replace h1 := h1.ext e8; replace h2 := h2.ext e8
    have z11 := e8.size
    refine Qa (Yn Z) Z (Qd (Qu Z (fun hc5 => ?_) (fun hc5 => ?_)))
    ·refine Qf (Qh [true] Z Z (Qa (Qg Z) Z (Qd (Qw (Qx (Yg (Qx (Qm Z Z E ?_))))))))
     exact bf fun h => by simp only [Xe, Bool.and_eq_true] at h; obtain ⟨⟨⟨⟨⟨⟨⟨⟨⟨q1, q2⟩, q3⟩, q4⟩, q5⟩, q6⟩, q7⟩, q8⟩, q9⟩, q10⟩ := h; have := List.all_eq_true.1 q9 _ (List.getElem_mem (by omega)); simp only [this] at hc5; cases hc5
    ·refine Qp (Q5 (Yt (Qh [true, true, true] Z Z (Qa (Qe Z) Z (Qa (Q8 Z Z (Yq hc4n (by first | assumption | (unfold maxLen; omega)))) Z (Qa (Qg Z) Z (Qd (Q5 (Q9 (k + 1) (by omega) ⟨Z, Z, Z, Z, trivial⟩ ⟨E, (by omega), h1, h2, (by omega), Y4 hI2 (by omega) (by simpa using hc5)⟩)))))))))
   ·have hc4n : ¬ k < 4 := by first | (have h := of_decide_eq_false hc4; omega) | (have h := hc4; simp at h; omega)
    refine Yi (Q3 (Q2 ?_))
    refine Qf (Qf (Qh [true] Z Z (Qa (Qg Z) Z (Qd (Qy (Yh (fun (i : Nat) => [(3, .pointer (some ⟨b2, 0, none⟩)), (4, .bool false), (8, .int .i64 ((i : Nat) : Int))]) (fun (i : Nat) w' => Ext w w' ∧ w11.heap.size ≤ w'.heap.size ∧ Blk w' b1 ([o1, .int .i64 g.workers, .int .i64 g.cap]) ∧ Blk w' b2 ([o2, o3, o4, o5, o6, o7, o8, o9]) ∧ i ≤ x.dones.length ∧ allR i (fun j => doneAtOk x.dones j) = true) (fun (i : Nat) => x.dones.length - i) 0 ⟨Z, Z, Z, trivial⟩ ⟨E, Nat.le_refl _, h1, h2, Nat.zero_le _, Z⟩ ?_))))))
    clear E h1 h2
    rintro i w13 ⟨E, z12, h1, h2, hle, hI3⟩
    have hmd := hd9.1.1
    unfold maxLen at hmd
    refine Qf (Qf (Qh [true, true, true, true, true] Z Z (Qa (Qe Z) Z (Qa (Qb fl72_7 Z) Z (Qa (Qi sc70 Z (h2.one 7 Z)) Z (Qa (Q4 Tryz.underlying70 Z (hd9.ext E).len) Z (Qa (Yb Z Z) Z (Qd (Qu Z (fun hc6 => ?_) (fun hc6 => ?_))))))))))
    ·have hc6n : i < x.dones.length := by first | (have h := of_decide_eq_true hc6; omega) | (have h := hc6; simp at h; omega)
     refine Qp (Qf (Qy (Qf (Qf (Qh [true, true, true, true, true, true, false, true] Z Z (Qa (Qb fl72_7 Z) Z (Qa (Qi sc70 Z (h2.one 7 Z)) Z (Qa (Qe Z) Z ?_))))))))
     have hi3 : i < x.dones.length := (by first | assumption | omega | (simp only [List.length_set]; first | assumption | omega))
     refine Qa (Qv (i := i) sl70 Z Z (hd9.rd.ext E) hi3) Z (Qa (Qz fl156_0 Z) Z (Qa (Qi Yk Z (((hd9.rd.ext E).get hi3).one 0 Z)) Z (Q0 Tryz.call99 Z (s_l01In ((x.dones[i]'hi3).epoch) 0 3 _ ) Z (fun _ w14 e9 hv => ?_))))
     subst hv
     replace E := E.trans e9; replace h1 := h1.ext e9; replace h2 := h2.ext e9
     have z13 := e9.size
     refine Qa (Yn Z) Z (Qd (Qu Z (fun hc7 => ?_) (fun hc7 => ?_)))
     ·refine Qf (Qh [true] Z Z (Qa (Qg Z) Z (Qd (Qw (Qx (Yg (Qx (Qm Z Z E ?_))))))))
      exact bf fun h => by simp only [Xe, Bool.and_eq_true] at h; obtain ⟨⟨⟨⟨⟨⟨⟨⟨⟨q1, q2⟩, q3⟩, q4⟩, q5⟩, q6⟩, q7⟩, q8⟩, q9⟩, q10⟩ := h; have := allR_get q10 (by assumption); rw [doneAtOk_at (by assumption)] at this; simp only [hc7, Bool.true_or] at this; cases this
     ·refine Qp (Qf (Qh [true] Z Z (Qa (Qg Z) Z (Qd (Qy (Yh (fun (j : Nat) => [(3, .pointer (some ⟨b2, 0, none⟩)), (4, .bool false), (8, .int .i64 ((i : Nat) : Int)), (9, .int .i64 ((j : Nat) : Int))]) (fun (j : Nat) w' => Ext w w' ∧ w14.heap.size ≤ w'.heap.size ∧ Blk w' b1 ([o1, .int .i64 g.workers, .int .i64 g.cap]) ∧ Blk w' b2 ([o2, o3, o4, o5, o6, o7, o8, o9]) ∧ j ≤ i ∧ (x.dones.take j).any (fun d => d.epoch == (x.dones[i]'hi3).epoch) = false) (fun (j : Nat) => i - j) 0 ⟨Z, Z, Z, Z, trivial⟩ ⟨E, Nat.le_refl _, h1, h2, Nat.zero_le _, Z⟩ ?_))))))
      clear E h1 h2
      rintro j w15 ⟨E, z14, h1, h2, hk, hJ⟩
      refine Qf (Qf (Qh [true, true, true] Z Z (Qa (Qe Z) Z (Qa (Qe Z) Z (Qa (Yb Z Z) Z (Qd (Qu Z (fun hc8 => ?_) (fun hc8 => ?_))))))))
      ·have hc8n : j < i := by first | (have h := of_decide_eq_true hc8; omega) | (have h := hc8; simp at h; omega)
       refine Qp (Qf (Qy (Qf (Y7 Y8 [(0, true), (1, true), (2, true), (3, true), (4, true), (5, true), (6, true), (7, true), (8, true), (9, true), (10, true), (11, true), (12, true)] (by decide +kernel) Z (fun w16 e10 => ?_)))))
       replace E := E.trans e10; replace h1 := h1.ext e10; replace h2 := h2.ext e10
       have z15 := e10.size
       refine Qa (Qb fl72_7 Z) Z (Qa (Qi sc70 Z (h2.one 7 Z)) Z (Qa (Qe Z) Z ?_))
       have hi4 : j < x.dones.length := (by first | assumption | omega | (simp only [List.length_set]; first | assumption | omega))
       refine Qa (Qv (i := j) sl70 Z Z (hd9.rd.ext E) hi4) Z (Qa (Qz fl156_0 Z) Z (Qa (Qi Yk Z (((hd9.rd.ext E).get hi4).one 0 Z)) Z (Qa (Qb fl72_7 Z) Z (Qa (Qi sc70 Z (h2.one 7 Z)) Z (Qa (Qe Z) Z (Qa (Qv (i := i) sl70 Z Z (hd9.rd.ext E) hi3) Z (Qa (Qz fl156_0 Z) Z (Qa (Qi Yk Z (((hd9.rd.ext E).get hi3).one 0 Z)) Z (Qa (Yw Z Z) Z (Qd (Qu Z (fun hc9 => ?_) (fun hc9 => ?_))))))))))))
       ·refine Qf (Qh [true] Z Z (Qa (Qg Z) Z (Qd (Qw (Qx (Yg (Qx (Qx (Yg (Qx (Qm Z Z E ?_)))))))))))
        exact bf fun h => by simp only [Xe, Bool.and_eq_true] at h; obtain ⟨⟨⟨⟨⟨⟨⟨⟨⟨q1, q2⟩, q3⟩, q4⟩, q5⟩, q6⟩, q7⟩, q8⟩, q9⟩, q10⟩ := h; have := allR_get (j := i) q10 (by omega); exact done_n this (by omega) (by assumption)
       ·refine Qp (Q5 (Yt (Qh [true, true, true] Z Z (Qa (Qe Z) Z (Qa (Q8 Z Z (Yq hc8n (by first | assumption | (unfold maxLen; omega)))) Z (Qa (Qg Z) Z (Qd (Q5 (Q9 (j + 1) (by omega) ⟨Z, Z, Z, Z, trivial⟩ ⟨E, (by omega), h1, h2, (by omega), any_step hJ (by omega) (by assumption)⟩)))))))))
      ·have hc8n : ¬ j < i := by first | (have h := of_decide_eq_false hc8; omega) | (have h := hc8; simp at h; omega)
       refine Yi (Q3 (Q2 ?_))
       refine Q5 (Yt (Qh [true, true, true] Z Z (Qa (Qe Z) Z (Qa (Q8 Z Z (Yq hc6n (hd9.ext E).1.1)) Z (Qa (Qg Z) Z (Qd (Q5 (Q9 (i + 1) (by omega) ⟨Z, Z, Z, trivial⟩ ⟨E, (by omega), h1, h2, (by omega), (allR_s hI3 (done_s (h1 := hi3) (by assumption) hJ (by omega)))⟩))))))))
    ·have hc6n : ¬ i < x.dones.length := by first | (have h := of_decide_eq_false hc6; omega) | (have h := hc6; simp at h; omega)
     refine Yi (Q3 (Q2 ?_))
     refine Qf (Qh [true] Z Z (Qa (Qg Z) Z (Qd (Qw (Qm Z Z E ?_)))))
     exact wk_yes2 hc1 (allR_le hI1 (by omega)) (all_end hI2 (by have := wk_len hc1; omega)) (allR_le hI3 (by omega))

set_option maxRecDepth 20000 in
theorem c_copyNode (cx : List Value) (x : Node) (w : World) (hx : Dat.R w 0 w.heap.size cx x) (hb : x.outs.length ≤ 1048576) : Ct Tryz.prog 106 [.agg cx.toArray] w (fun v w' => ∃ cs, v = .agg cs.toArray ∧ Own1.O w' w.heap.size w'.heap.size cs x) := by
 refine Yj Tryz.func106 Z Tryz.ntmps106 Z ?_
 obtain ⟨o1, rfl, hd1⟩ := Node.op hx
 refine Q7 [(0, .agg [.int .i64 x.kind, .int .i64 x.a, .int .i64 x.b, o1].toArray)] ⟨Z, trivial⟩ ?_
 have E : Ext w w := Ext.refl w
 refine Qf (Qh [false, false] Z Z (Yx Z Z (fun b1 w1 e1 s1 h1 => ?_)))
 have g_b1 : w.heap.size ≤ b1 := by have := E.size; omega
 have y_b1 := h1.lt
 replace E := E.trans e1
 have z1 := e1.size
 refine Yu Xz Z (fun b2 w2 e2 s2 h2 => ?_)
 have g_b2 : w.heap.size ≤ b2 := by have := E.size; omega
 have y_b2 := h2.lt
 replace E := E.trans e2; replace h1 := h1.ext e2
 have z2 := e2.size
 refine Qd (Qf (Qh [true, true, false, true, false] Z Z (Qa (Qb Q6 Z) Z (Qa (Qi Yy Z (h1.one 3 Z)) Z (J_append Y5 Z Z (Own.nil w2 w2.heap.size w2.heap.size 1) (RdS.src (hd1.rd.ext E)) (Xb _) (by simp only [Y0, List.length_nil]; simp only [Enc.sz]; omega) (by decide) (by omega) (by omega) Z Z (fun v1 w3 m1 ho1 => ?_))))))
 replace E := E.step m1 (fun g hg => by have := Own.blk (Own.nil w2 w2.heap.size w2.heap.size 1) g hg; omega); replace h1 := h1.mod m1 (fun g hg => by have := Own.blk (Own.nil w2 w2.heap.size w2.heap.size 1) g hg; omega); replace h2 := h2.mod m1 (fun g hg => by have := Own.blk (Own.nil w2 w2.heap.size w2.heap.size 1) g hg; omega)
 have z3 := m1.size
 refine Qa (Qb Q6 Z) Z (Ye (cs' := [.int .i64 x.kind, .int .i64 x.a, .int .i64 x.b, v1]) Yy Z Z ho1.one h1 (Nat.le_of_ble_eq_true Z) Z (fun w4 m2 h1' => ?_))
 replace h1 := h1'
 replace E := E.step m2 (fun g hg => by cases hg; omega); replace h2 := h2.mod m2 (fun g hg => by cases hg; omega); replace ho1 := ho1.mod m2 (fun g hg => by cases hg; omega)
 have z4 := m2.size
 refine Qd (Qf (Qh [true, false] Z Z (Qa (Q1 Xz Z h1.at Z) Z (Ya (cs' := [.int .i64 x.kind, .int .i64 x.a, .int .i64 x.b, v1]) Xz Z Z Z (Ql Z (Ql Z (Ql Z (Ql ho1.one Z)))) h2 (Nat.le_of_ble_eq_true Z) Z (fun w5 m3 h2' => ?_)))))
 replace h2 := h2'
 replace E := E.step m3 (fun g hg => by cases hg; omega); replace h1 := h1.mod m3 (fun g hg => by cases hg; omega); replace ho1 := ho1.mod m3 (fun g hg => by cases hg; omega)
 have z5 := m3.size
 refine Qd (Qw (Xi Z Z (Ys Xz h2.at Z) E ?_))
 exact ⟨_, Z, Node.mkO (⟨x.kind, x.a, x.b, [] ++ x.outs⟩ : Node) ⟨trivial, trivial⟩ (Own.widen ho1 (by omega) (by omega))⟩

set_option maxRecDepth 20000 in
theorem markRecordS (vxs : Value) (lo hi : Nat) (xs : List Record) (k : Nat) (w : World) (hxs : Own w lo hi 5 vxs (List.flatMap (Enc.enc (α := Record)) xs)) (hb : k + xs.length * 5 ≤ 1099511627776) : CtR Tryz.prog 71 [vxs, .int .i64 ((k : Nat) : Int)] w lo hi (fun v w' => v = .int .i64 ((k + 5 * xs.length : Nat) : Int) ∧ Own w' lo hi 5 vxs (List.flatMap (Enc.enc (α := Record)) (mkL 5 Kc k xs.length))) := by
 refine ctR_of Tryz.func71 Z Tryz.ntmps71 Z ?_
 refine Q7 [(0, vxs), (1, .int .i64 ((k : Nat) : Int))] ⟨Z, Z, trivial⟩ ?_
 have E : ModR w w lo hi := ModR.refl w lo hi
 refine Qf (Qh [true] Z Z (Qa (Qg Z) Z (Qd (Qf (Qf (Qh [true] Z Z (Qa (Qg Z) Z (Qd (Qy (Yh (fun (xq : Nat × Nat × List Record) => let ⟨i, q, bs⟩ := xq; [(0, vxs), (1, .int .i64 ((q : Nat) : Int)), (4, .int .i64 0), (5, .int .i64 ((i : Nat) : Int))]) (fun (xq : Nat × Nat × List Record) w' => let ⟨i, q, bs⟩ := xq; ModR w w' lo hi ∧ w.heap.size ≤ w'.heap.size ∧ i + bs.length = xs.length ∧ q = k + 5 * i ∧ Own w' lo hi 5 vxs (List.flatMap (Enc.enc (α := Record)) (mkL 5 Kc k i ++ bs))) (fun (xq : Nat × Nat × List Record) => let ⟨i, q, bs⟩ := xq; xs.length - i) (0, k, xs) ⟨Z, Z, Z, Z, trivial⟩ ⟨E, Nat.le_refl _, (by simp), (by simp), (by simpa [mkL] using hxs)⟩ ?_))))))))))
 clear E hxs
 rintro ⟨i, q, bs⟩ w1 ⟨E, z1, hi, hq, hxs⟩
 refine Q7 [(0, vxs), (1, .int .i64 ((q : Nat) : Int)), (4, .int .i64 0), (5, .int .i64 ((i : Nat) : Int))] ⟨Z, Z, Z, Z, trivial⟩ ?_
 refine Qf (Qf (Qh [true, true, true, true] Z Z (Qa (Qe Z) Z (Qa (Qe Z) Z (Qa (Q4 Tryz.underlying66 Z (Own.lenE (by decide) hxs (by simp only [List.length_append, Qj, List.length_cons]; omega))) Z (Qa (Yb Z Z) Z (Qd (Qu Z (fun hc1 => ?_) (fun hc1 => ?_)))))))))
 ·rcases bs with _ | ⟨x, bs⟩
  ·exact absurd hi (by have h := hc1; simp at h ⊢; omega)
  simp only [List.length_cons] at hi
  have hc1n : i < xs.length := by first | (have h := of_decide_eq_true hc1; omega) | (have h := hc1; simp at h; omega)
  refine Qp (Qf (Qy (Qf (Qh [true, true, true, true, true, false] Z Z (Qa (Qe Z) Z (Qa (Qe Z) Z (Qa (Qe Z) Z (Qa (Qv Xx Z Z (Own.rd (by decide) hxs) (by simp only [List.length_append, Qj, List.length_cons]; omega)) Z (Qa (Qz fl105_0 Z) Z (Y2 (α := Record) (i := i) (f := 0) (⟨((q : Nat) : Int), x.stamp, x.key, x.val⟩ : Record) Yk Z Z Z Z hxs (Qj _ _ _ _) (by decide) Z (fun w2 m1 hxs' => ?_)))))))))))
  have hq := hxs.blk
  replace hxs := hxs'
  replace E := E.mod m1 (fun g hg => by have := hq g hg; omega)
  have z2 := m1.size
  clear hq
  refine Qd (Qf (Qh [true, true, true] Z Z (Qa (Qe Z) Z (Qa (Q8 Z Z (Yc (by unfold maxLen; omega))) Z (Qa (Qg Z) Z (Qd (Qf (Qh [true, true, true, true, true, true, false] Z Z (Qa (Qe Z) Z (Qa (Qe Z) Z (Qa (Qe Z) Z (Qa (Qv Xx Z Z (Own.rd (by decide) hxs) (by simp only [List.length_append, Qj, List.length_cons]; omega)) Z (Qa (Qz X9 Z) Z (Qa (Qz fl103_0 Z) Z (Y2 (α := Record) (i := i) (f := 1) (⟨((q : Nat) : Int), (⟨((q + 1 : Nat) : Int), x.stamp.turn⟩ : Stamp), x.key, x.val⟩ : Record) Yk Z Z Z Z hxs (Qj _ _ _ _) (by decide) Z (fun w3 m2 hxs' => ?_))))))))))))))))
  have hq := hxs.blk
  replace hxs := hxs'
  replace E := E.mod m2 (fun g hg => by have := hq g hg; omega)
  have z3 := m2.size
  clear hq
  refine Qd (Qf (Qh [true, true, true] Z Z (Qa (Qe Z) Z (Qa (Q8 Z Z (Yc (by unfold maxLen; omega))) Z (Qa (Qg Z) Z (Qd (Qf (Qh [true, true, true, true, true, true, false] Z Z (Qa (Qe Z) Z (Qa (Qe Z) Z (Qa (Qe Z) Z (Qa (Qv Xx Z Z (Own.rd (by decide) hxs) (by simp only [List.length_append, Qj, List.length_cons]; omega)) Z (Qa (Qz X9 Z) Z (Qa (Qz fl103_1 Z) Z (Y2 (α := Record) (i := i) (f := 2) (⟨((q : Nat) : Int), (⟨((q + 1 : Nat) : Int), ((q + 1 + 1 : Nat) : Int)⟩ : Stamp), x.key, x.val⟩ : Record) Yk Z Z Z Z hxs (Qj _ _ _ _) (by decide) Z (fun w4 m3 hxs' => ?_))))))))))))))))
  have hq := hxs.blk
  replace hxs := hxs'
  replace E := E.mod m3 (fun g hg => by have := hq g hg; omega)
  have z4 := m3.size
  clear hq
  refine Qd (Qf (Qh [true, true, true] Z Z (Qa (Qe Z) Z (Qa (Q8 Z Z (Yc (by unfold maxLen; omega))) Z (Qa (Qg Z) Z (Qd (Qf (Qh [true, true, true, true, true, false] Z Z (Qa (Qe Z) Z (Qa (Qe Z) Z (Qa (Qe Z) Z (Qa (Qv Xx Z Z (Own.rd (by decide) hxs) (by simp only [List.length_append, Qj, List.length_cons]; omega)) Z (Qa (Qz fl105_2 Z) Z (Y2 (α := Record) (i := i) (f := 3) (⟨((q : Nat) : Int), (⟨((q + 1 : Nat) : Int), ((q + 1 + 1 : Nat) : Int)⟩ : Stamp), ((q + 1 + 1 + 1 : Nat) : Int), x.val⟩ : Record) Yk Z Z Z Z hxs (Qj _ _ _ _) (by decide) Z (fun w5 m4 hxs' => ?_)))))))))))))))
  have hq := hxs.blk
  replace hxs := hxs'
  replace E := E.mod m4 (fun g hg => by have := hq g hg; omega)
  have z5 := m4.size
  clear hq
  refine Qd (Qf (Qh [true, true, true] Z Z (Qa (Qe Z) Z (Qa (Q8 Z Z (Yc (by unfold maxLen; omega))) Z (Qa (Qg Z) Z (Qd (Qf (Qh [true, true, true, true, true, false] Z Z (Qa (Qe Z) Z (Qa (Qe Z) Z (Qa (Qe Z) Z (Qa (Qv Xx Z Z (Own.rd (by decide) hxs) (by simp only [List.length_append, Qj, List.length_cons]; omega)) Z (Qa (Qz fl105_3 Z) Z (Y2 (α := Record) (i := i) (f := 4) (⟨((q : Nat) : Int), (⟨((q + 1 : Nat) : Int), ((q + 1 + 1 : Nat) : Int)⟩ : Stamp), ((q + 1 + 1 + 1 : Nat) : Int), ((q + 1 + 1 + 1 + 1 : Nat) : Int)⟩ : Record) Yk Z Z Z Z hxs (Qj _ _ _ _) (by decide) Z (fun w6 m5 hxs' => ?_)))))))))))))))
  have hq := hxs.blk
  replace hxs := hxs'
  replace E := E.mod m5 (fun g hg => by have := hq g hg; omega)
  have z6 := m5.size
  clear hq
  refine Qd (Qh [true, true, true] Z Z (Qa (Qe Z) Z (Qa (Q8 Z Z (Yc (by unfold maxLen; omega))) Z (Qa (Qg Z) Z (Qd (Q5 (Yt (Qh [true, true, true] Z Z (Qa (Qe Z) Z (Qa (Q8 Z Z (Yc (by unfold maxLen; omega))) Z (Qa (Qg Z) Z (Qd (Q5 (Q9 (i + 1, q + 1 + 1 + 1 + 1 + 1, bs) (by simp; omega) ⟨rfl, rfl, rfl, rfl, trivial⟩ ⟨E, (by omega), (by omega), (by omega), (by subst hq; rw [← mkL_succ]; exact hxs)⟩))))))))))))))
 ·have hc1n : ¬ i < xs.length := by first | (have h := of_decide_eq_false hc1; omega) | (have h := hc1; simp at h; omega)
  refine Yi (Q3 (Q2 ?_))
  refine Qf (Qh [true, true] Z Z (Qa (Qe Z) Z (Qa (Qg Z) Z (Qd (Qw (Qm Z Z E ?_))))))
  exact ⟨by subst hq; rw [show i = xs.length from by omega], by obtain rfl : bs = [] := List.eq_nil_of_length_eq_zero (by omega); rw [show xs.length = i from by simp at hi; omega]; simpa using hxs⟩

set_option maxRecDepth 20000 in
theorem heldRecordS (vxs : Value) (xs : List Record) (k : Nat) (w : World) (hxs : RdS w vxs xs) (hm : xs = mkL 5 Kc k xs.length) (hb : k + xs.length * 5 ≤ 1099511627776) : Ct Tryz.prog 77 [vxs, .int .i64 ((k : Nat) : Int)] w (fun v _ => v = .int .i64 ((k + 5 * xs.length : Nat) : Int)) := by
 refine Yj Tryz.func77 Z Tryz.ntmps77 Z ?_
 refine Q7 [(0, vxs), (1, .int .i64 ((k : Nat) : Int))] ⟨Z, Z, trivial⟩ ?_
 have E : Ext w w := Ext.refl w
 refine Qf (Qh [true] Z Z (Qa (Qg Z) Z (Qd (Qf (Qf (Qh [true] Z Z (Qa (Qg Z) Z (Qd (Qy (Yh (fun (xq : Nat × Nat) => let ⟨i, q⟩ := xq; [(0, vxs), (1, .int .i64 ((q : Nat) : Int)), (4, .int .i64 0), (5, .int .i64 ((i : Nat) : Int))]) (fun (xq : Nat × Nat) w' => let ⟨i, q⟩ := xq; Ext w w' ∧ w.heap.size ≤ w'.heap.size ∧ i ≤ xs.length ∧ q = k + 5 * i) (fun (xq : Nat × Nat) => let ⟨i, q⟩ := xq; xs.length - i) (0, k) ⟨Z, Z, Z, Z, trivial⟩ ⟨E, Nat.le_refl _, Nat.zero_le _, (by simp)⟩ ?_))))))))))
 clear E
 rintro ⟨i, q⟩ w1 ⟨E, z1, hi, hq⟩
 refine Q7 [(0, vxs), (1, .int .i64 ((q : Nat) : Int)), (4, .int .i64 0), (5, .int .i64 ((i : Nat) : Int))] ⟨Z, Z, Z, Z, trivial⟩ ?_
 refine Qf (Qf (Qh [true, true, true, true] Z Z (Qa (Qe Z) Z (Qa (Qe Z) Z (Qa (Q4 Tryz.underlying66 Z (hxs.ext E).len) Z (Qa (Yb Z Z) Z (Qd (Qu Z (fun hc1 => ?_) (fun hc1 => ?_)))))))))
 ·have hc1n : i < xs.length := by first | (have h := of_decide_eq_true hc1; omega) | (have h := hc1; simp at h; omega)
  refine Qp (Qf (Qy (Qf (Qf (Qh [true, true, true, true, true, true, true] Z Z (Qa (Qe Z) Z (Qa (Qe Z) Z ?_)))))))
  have hi1 : i < xs.length := (by first | assumption | omega | (simp only [List.length_set]; first | assumption | omega))
  refine Qa (Qv (i := i) Xx Z Z (hxs.ext E) hi1) Z (Qa (Qz fl105_0 Z) Z (Qa (Qi Yk Z (((hxs.ext E).get hi1).one 0 Z)) Z (Qa (Qe Z) Z (Qa (Yr Z Z) Z (Qd (Yp rfl (by subst hq; rw [X0 hm (by omega)]; simp [Kc]) (Qp (Qf (Qh [true, true, true] Z Z (Qa (Qe Z) Z (Qa (Q8 Z Z (Yc (by unfold maxLen; omega))) Z (Qa (Qg Z) Z (Qd (Qf (Qf (Qh [true, true, true, true, true, true, true, true] Z Z (Qa (Qe Z) Z (Qa (Qe Z) Z (Qa (Qv (i := i) Xx Z Z (hxs.ext E) hi1) Z (Qa (Qz X9 Z) Z (Qa (Qz fl103_0 Z) Z (Qa (Qi Yk Z (((hxs.ext E).get hi1).one 1 Z)) Z (Qa (Qe Z) Z (Qa (Yr Z Z) Z (Qd (Yp rfl (by subst hq; rw [X0 hm (by omega)]; simp [Kc]) (Qp (Qf (Qh [true, true, true] Z Z (Qa (Qe Z) Z (Qa (Q8 Z Z (Yc (by unfold maxLen; omega))) Z (Qa (Qg Z) Z (Qd (Qf (Qf (Qh [true, true, true, true, true, true, true, true] Z Z (Qa (Qe Z) Z (Qa (Qe Z) Z (Qa (Qv (i := i) Xx Z Z (hxs.ext E) hi1) Z (Qa (Qz X9 Z) Z (Qa (Qz fl103_1 Z) Z (Qa (Qi Yk Z (((hxs.ext E).get hi1).one 2 Z)) Z (Qa (Qe Z) Z (Qa (Yr Z Z) Z (Qd (Yp rfl (by subst hq; rw [X0 hm (by omega)]; simp [Kc]) (Qp (Qf (Qh [true, true, true] Z Z (Qa (Qe Z) Z (Qa (Q8 Z Z (Yc (by unfold maxLen; omega))) Z (Qa (Qg Z) Z (Qd (Qf (Qf (Qh [true, true, true, true, true, true, true] Z Z (Qa (Qe Z) Z (Qa (Qe Z) Z (Qa (Qv (i := i) Xx Z Z (hxs.ext E) hi1) Z (Qa (Qz fl105_2 Z) Z (Qa (Qi Yk Z (((hxs.ext E).get hi1).one 3 Z)) Z (Qa (Qe Z) Z (Qa (Yr Z Z) Z (Qd (Yp rfl (by subst hq; rw [X0 hm (by omega)]; simp [Kc]) (Qp (Qf (Qh [true, true, true] Z Z (Qa (Qe Z) Z (Qa (Q8 Z Z (Yc (by unfold maxLen; omega))) Z (Qa (Qg Z) Z (Qd (Qf (Qf (Qh [true, true, true, true, true, true, true] Z Z (Qa (Qe Z) Z (Qa (Qe Z) Z (Qa (Qv (i := i) Xx Z Z (hxs.ext E) hi1) Z (Qa (Qz fl105_3 Z) Z (Qa (Qi Yk Z (((hxs.ext E).get hi1).one 4 Z)) Z (Qa (Qe Z) Z (Qa (Yr Z Z) Z (Qd (Yp rfl (by subst hq; rw [X0 hm (by omega)]; simp [Kc]) (Qp (Qh [true, true, true] Z Z (Qa (Qe Z) Z (Qa (Q8 Z Z (Yc (by unfold maxLen; omega))) Z (Qa (Qg Z) Z (Qd (Q5 (Yt (Qh [true, true, true] Z Z (Qa (Qe Z) Z (Qa (Q8 Z Z (Yc (by unfold maxLen; omega))) Z (Qa (Qg Z) Z (Qd (Q5 (Q9 (i + 1, q + 1 + 1 + 1 + 1 + 1) (by simp; omega) ⟨Z, Z, Z, Z, trivial⟩ ⟨E, (by omega), (by omega), (by omega)⟩)))))))))))))))))))))))))))))))))))))))))))))))))))))))))))))))))))))))))))))))))))))))))))))))))))
 ·have hc1n : ¬ i < xs.length := by first | (have h := of_decide_eq_false hc1; omega) | (have h := hc1; simp at h; omega)
  refine Yi (Q3 (Q2 ?_))
  refine Qf (Qh [true, true] Z Z (Qa (Qe Z) Z (Qa (Qg Z) Z (Qd (Qw (Qm Z Z E ?_))))))
  subst hq; rw [show i = xs.length from by omega]

set_option maxRecDepth 20000 in
theorem markIntS (vxs : Value) (lo hi : Nat) (xs : List Int) (k : Nat) (w : World) (hxs : Own w lo hi 1 vxs (List.flatMap (Enc.enc (α := Int)) xs)) (hb : k + xs.length * 1 ≤ 1099511627776) : CtR Tryz.prog 73 [vxs, .int .i64 ((k : Nat) : Int)] w lo hi (fun v w' => v = .int .i64 ((k + 1 * xs.length : Nat) : Int) ∧ Own w' lo hi 1 vxs (List.flatMap (Enc.enc (α := Int)) (mkL 1 mkInt k xs.length))) := by
 refine ctR_of Tryz.func73 Z Tryz.ntmps73 Z ?_
 refine Q7 [(0, vxs), (1, .int .i64 ((k : Nat) : Int))] ⟨Z, Z, trivial⟩ ?_
 have E : ModR w w lo hi := ModR.refl w lo hi
 refine Qf (Qh [true] Z Z (Qa (Qg Z) Z (Qd (Qf (Qf (Qh [true] Z Z (Qa (Qg Z) Z (Qd (Qy (Yh (fun (xq : Nat × Nat × List Int) => let ⟨i, q, bs⟩ := xq; [(0, vxs), (1, .int .i64 ((q : Nat) : Int)), (4, .int .i64 0), (5, .int .i64 ((i : Nat) : Int))]) (fun (xq : Nat × Nat × List Int) w' => let ⟨i, q, bs⟩ := xq; ModR w w' lo hi ∧ w.heap.size ≤ w'.heap.size ∧ i + bs.length = xs.length ∧ q = k + 1 * i ∧ Own w' lo hi 1 vxs (List.flatMap (Enc.enc (α := Int)) (mkL 1 mkInt k i ++ bs))) (fun (xq : Nat × Nat × List Int) => let ⟨i, q, bs⟩ := xq; xs.length - i) (0, k, xs) ⟨Z, Z, Z, Z, trivial⟩ ⟨E, Nat.le_refl _, (by simp), (by simp), (by simpa [mkL] using hxs)⟩ ?_))))))))))
 clear E hxs
 rintro ⟨i, q, bs⟩ w1 ⟨E, z1, hi, hq, hxs⟩
 refine Q7 [(0, vxs), (1, .int .i64 ((q : Nat) : Int)), (4, .int .i64 0), (5, .int .i64 ((i : Nat) : Int))] ⟨Z, Z, Z, Z, trivial⟩ ?_
 refine Qf (Qf (Qh [true, true, true, true] Z Z (Qa (Qe Z) Z (Qa (Qe Z) Z (Qa (Q4 Tryz.underlying68 Z (Own.lenE (by decide) hxs (by simp only [List.length_append, Qj, List.length_cons]; omega))) Z (Qa (Yb Z Z) Z (Qd (Qu Z (fun hc1 => ?_) (fun hc1 => ?_)))))))))
 ·rcases bs with _ | ⟨x, bs⟩
  ·exact absurd hi (by have h := hc1; simp at h ⊢; omega)
  simp only [List.length_cons] at hi
  have hc1n : i < xs.length := by first | (have h := of_decide_eq_true hc1; omega) | (have h := hc1; simp at h; omega)
  refine Qp (Qf (Qy (Qf (Qh [true, true, true, true, false] Z Z (Qa (Qe Z) Z (Qa (Qe Z) Z (Qa (Qe Z) Z (Qa (Qv Y5 Z Z (Own.rd (by decide) hxs) (by simp only [List.length_append, Qj, List.length_cons]; omega)) Z (Y2 (α := Int) (i := i) (f := 0) ((q : Nat) : Int) Yk Z Z Z Z hxs (Qj _ _ _ _) (by decide) Z (fun w2 m1 hxs' => ?_))))))))))
  have hq := hxs.blk
  replace hxs := hxs'
  replace E := E.mod m1 (fun g hg => by have := hq g hg; omega)
  have z2 := m1.size
  clear hq
  refine Qd (Qh [true, true, true] Z Z (Qa (Qe Z) Z (Qa (Q8 Z Z (Yc (by unfold maxLen; omega))) Z (Qa (Qg Z) Z (Qd (Q5 (Yt (Qh [true, true, true] Z Z (Qa (Qe Z) Z (Qa (Q8 Z Z (Yc (by unfold maxLen; omega))) Z (Qa (Qg Z) Z (Qd (Q5 (Q9 (i + 1, q + 1, bs) (by simp; omega) ⟨rfl, rfl, rfl, rfl, trivial⟩ ⟨E, (by omega), (by omega), (by omega), (by subst hq; rw [← mkL_succ]; exact hxs)⟩))))))))))))))
 ·have hc1n : ¬ i < xs.length := by first | (have h := of_decide_eq_false hc1; omega) | (have h := hc1; simp at h; omega)
  refine Yi (Q3 (Q2 ?_))
  refine Qf (Qh [true, true] Z Z (Qa (Qe Z) Z (Qa (Qg Z) Z (Qd (Qw (Qm Z Z E ?_))))))
  exact ⟨by subst hq; rw [show i = xs.length from by omega], by obtain rfl : bs = [] := List.eq_nil_of_length_eq_zero (by omega); rw [show xs.length = i from by simp at hi; omega]; simpa using hxs⟩

set_option maxRecDepth 20000 in
theorem heldIntS (vxs : Value) (xs : List Int) (k : Nat) (w : World) (hxs : RdS w vxs xs) (hm : xs = mkL 1 mkInt k xs.length) (hb : k + xs.length * 1 ≤ 1099511627776) : Ct Tryz.prog 79 [vxs, .int .i64 ((k : Nat) : Int)] w (fun v _ => v = .int .i64 ((k + 1 * xs.length : Nat) : Int)) := by
 refine Yj Tryz.func79 Z Tryz.ntmps79 Z ?_
 refine Q7 [(0, vxs), (1, .int .i64 ((k : Nat) : Int))] ⟨Z, Z, trivial⟩ ?_
 have E : Ext w w := Ext.refl w
 refine Qf (Qh [true] Z Z (Qa (Qg Z) Z (Qd (Qf (Qf (Qh [true] Z Z (Qa (Qg Z) Z (Qd (Qy (Yh (fun (xq : Nat × Nat) => let ⟨i, q⟩ := xq; [(0, vxs), (1, .int .i64 ((q : Nat) : Int)), (4, .int .i64 0), (5, .int .i64 ((i : Nat) : Int))]) (fun (xq : Nat × Nat) w' => let ⟨i, q⟩ := xq; Ext w w' ∧ w.heap.size ≤ w'.heap.size ∧ i ≤ xs.length ∧ q = k + 1 * i) (fun (xq : Nat × Nat) => let ⟨i, q⟩ := xq; xs.length - i) (0, k) ⟨Z, Z, Z, Z, trivial⟩ ⟨E, Nat.le_refl _, Nat.zero_le _, (by simp)⟩ ?_))))))))))
 clear E
 rintro ⟨i, q⟩ w1 ⟨E, z1, hi, hq⟩
 refine Q7 [(0, vxs), (1, .int .i64 ((q : Nat) : Int)), (4, .int .i64 0), (5, .int .i64 ((i : Nat) : Int))] ⟨Z, Z, Z, Z, trivial⟩ ?_
 refine Qf (Qf (Qh [true, true, true, true] Z Z (Qa (Qe Z) Z (Qa (Qe Z) Z (Qa (Q4 Tryz.underlying68 Z (hxs.ext E).len) Z (Qa (Yb Z Z) Z (Qd (Qu Z (fun hc1 => ?_) (fun hc1 => ?_)))))))))
 ·have hc1n : i < xs.length := by first | (have h := of_decide_eq_true hc1; omega) | (have h := hc1; simp at h; omega)
  refine Qp (Qf (Qy (Qf (Qf (Qh [true, true, true, true, true, true] Z Z (Qa (Qe Z) Z (Qa (Qe Z) Z ?_)))))))
  have hi1 : i < xs.length := (by first | assumption | omega | (simp only [List.length_set]; first | assumption | omega))
  refine Qa (Qv (i := i) Y5 Z Z (hxs.ext E) hi1) Z (Qa (Qi Yk Z (((hxs.ext E).get hi1).one 0 Z)) Z (Qa (Qe Z) Z (Qa (Yr Z Z) Z (Qd (Yp rfl (by subst hq; rw [X0 hm (by omega)]; simp [mkInt]) (Qp (Qh [true, true, true] Z Z (Qa (Qe Z) Z (Qa (Q8 Z Z (Yc (by unfold maxLen; omega))) Z (Qa (Qg Z) Z (Qd (Q5 (Yt (Qh [true, true, true] Z Z (Qa (Qe Z) Z (Qa (Q8 Z Z (Yc (by unfold maxLen; omega))) Z (Qa (Qg Z) Z (Qd (Q5 (Q9 (i + 1, q + 1) (by simp; omega) ⟨Z, Z, Z, Z, trivial⟩ ⟨E, (by omega), (by omega), (by omega)⟩))))))))))))))))))))
 ·have hc1n : ¬ i < xs.length := by first | (have h := of_decide_eq_false hc1; omega) | (have h := hc1; simp at h; omega)
  refine Yi (Q3 (Q2 ?_))
  refine Qf (Qh [true, true] Z Z (Qa (Qe Z) Z (Qa (Qg Z) Z (Qd (Qw (Qm Z Z E ?_))))))
  subst hq; rw [show i = xs.length from by omega]

set_option maxRecDepth 20000 in
theorem markBoolS (vxs : Value) (lo hi : Nat) (xs : List Bool) (k : Nat) (w : World) (hxs : Own w lo hi 1 vxs (List.flatMap (Enc.enc (α := Bool)) xs)) (hb : k + xs.length * 1 ≤ 1099511627776) : CtR Tryz.prog 74 [vxs, .int .i64 ((k : Nat) : Int)] w lo hi (fun v w' => v = .int .i64 ((k + 1 * xs.length : Nat) : Int) ∧ Own w' lo hi 1 vxs (List.flatMap (Enc.enc (α := Bool)) (mkL 1 mkBool k xs.length))) := by
 refine ctR_of Tryz.func74 Z Tryz.ntmps74 Z ?_
 refine Q7 [(0, vxs), (1, .int .i64 ((k : Nat) : Int))] ⟨Z, Z, trivial⟩ ?_
 have E : ModR w w lo hi := ModR.refl w lo hi
 refine Qf (Qh [true] Z Z (Qa (Qg Z) Z (Qd (Qf (Qf (Qh [true] Z Z (Qa (Qg Z) Z (Qd (Qy (Yh (fun (xq : Nat × Nat × List Bool) => let ⟨i, q, bs⟩ := xq; [(0, vxs), (1, .int .i64 ((q : Nat) : Int)), (4, .int .i64 0), (5, .int .i64 ((i : Nat) : Int))]) (fun (xq : Nat × Nat × List Bool) w' => let ⟨i, q, bs⟩ := xq; ModR w w' lo hi ∧ w.heap.size ≤ w'.heap.size ∧ i + bs.length = xs.length ∧ q = k + 1 * i ∧ Own w' lo hi 1 vxs (List.flatMap (Enc.enc (α := Bool)) (mkL 1 mkBool k i ++ bs))) (fun (xq : Nat × Nat × List Bool) => let ⟨i, q, bs⟩ := xq; xs.length - i) (0, k, xs) ⟨Z, Z, Z, Z, trivial⟩ ⟨E, Nat.le_refl _, (by simp), (by simp), (by simpa [mkL] using hxs)⟩ ?_))))))))))
 clear E hxs
 rintro ⟨i, q, bs⟩ w1 ⟨E, z1, hi, hq, hxs⟩
 refine Q7 [(0, vxs), (1, .int .i64 ((q : Nat) : Int)), (4, .int .i64 0), (5, .int .i64 ((i : Nat) : Int))] ⟨Z, Z, Z, Z, trivial⟩ ?_
 refine Qf (Qf (Qh [true, true, true, true] Z Z (Qa (Qe Z) Z (Qa (Qe Z) Z (Qa (Q4 Tryz.underlying69 Z (Own.lenE (by decide) hxs (by simp only [List.length_append, Qj, List.length_cons]; omega))) Z (Qa (Yb Z Z) Z (Qd (Qu Z (fun hc1 => ?_) (fun hc1 => ?_)))))))))
 ·rcases bs with _ | ⟨x, bs⟩
  ·exact absurd hi (by have h := hc1; simp at h ⊢; omega)
  simp only [List.length_cons] at hi
  have hc1n : i < xs.length := by first | (have h := of_decide_eq_true hc1; omega) | (have h := hc1; simp at h; omega)
  refine Qp (Qf (Qy (Qf (Qh [true, true, true, true, true, true, false] Z Z (Qa (Qe Z) Z (Qa (Qe Z) Z (Qa (Qe Z) Z (Qa (R_rem Z Z (by decide) Z) Z (Qa (Yw Z Z) Z (Qa (Qv sl69 Z Z (Own.rd (by decide) hxs) (by simp only [List.length_append, Qj, List.length_cons]; omega)) Z (Y2 (α := Bool) (i := i) (f := 0) ((Int.tmod ((q : Nat) : Int) 3) == 0) sc4 Z Z Z Z hxs (Qj _ _ _ _) (by decide) Z (fun w2 m1 hxs' => ?_))))))))))))
  have hq := hxs.blk
  replace hxs := hxs'
  replace E := E.mod m1 (fun g hg => by have := hq g hg; omega)
  have z2 := m1.size
  clear hq
  refine Qd (Qh [true, true, true] Z Z (Qa (Qe Z) Z (Qa (Q8 Z Z (Yc (by unfold maxLen; omega))) Z (Qa (Qg Z) Z (Qd (Q5 (Yt (Qh [true, true, true] Z Z (Qa (Qe Z) Z (Qa (Q8 Z Z (Yc (by unfold maxLen; omega))) Z (Qa (Qg Z) Z (Qd (Q5 (Q9 (i + 1, q + 1, bs) (by simp; omega) ⟨rfl, rfl, rfl, rfl, trivial⟩ ⟨E, (by omega), (by omega), (by omega), (by subst hq; rw [← mkL_succ]; exact hxs)⟩))))))))))))))
 ·have hc1n : ¬ i < xs.length := by first | (have h := of_decide_eq_false hc1; omega) | (have h := hc1; simp at h; omega)
  refine Yi (Q3 (Q2 ?_))
  refine Qf (Qh [true, true] Z Z (Qa (Qe Z) Z (Qa (Qg Z) Z (Qd (Qw (Qm Z Z E ?_))))))
  exact ⟨by subst hq; rw [show i = xs.length from by omega], by obtain rfl : bs = [] := List.eq_nil_of_length_eq_zero (by omega); rw [show xs.length = i from by simp at hi; omega]; simpa using hxs⟩

set_option maxRecDepth 20000 in
theorem heldBoolS (vxs : Value) (xs : List Bool) (k : Nat) (w : World) (hxs : RdS w vxs xs) (hm : xs = mkL 1 mkBool k xs.length) (hb : k + xs.length * 1 ≤ 1099511627776) : Ct Tryz.prog 80 [vxs, .int .i64 ((k : Nat) : Int)] w (fun v _ => v = .int .i64 ((k + 1 * xs.length : Nat) : Int)) := by
 refine Yj Tryz.func80 Z Tryz.ntmps80 Z ?_
 refine Q7 [(0, vxs), (1, .int .i64 ((k : Nat) : Int))] ⟨Z, Z, trivial⟩ ?_
 have E : Ext w w := Ext.refl w
 refine Qf (Qh [true] Z Z (Qa (Qg Z) Z (Qd (Qf (Qf (Qh [true] Z Z (Qa (Qg Z) Z (Qd (Qy (Yh (fun (xq : Nat × Nat) => let ⟨i, q⟩ := xq; [(0, vxs), (1, .int .i64 ((q : Nat) : Int)), (4, .int .i64 0), (5, .int .i64 ((i : Nat) : Int))]) (fun (xq : Nat × Nat) w' => let ⟨i, q⟩ := xq; Ext w w' ∧ w.heap.size ≤ w'.heap.size ∧ i ≤ xs.length ∧ q = k + 1 * i) (fun (xq : Nat × Nat) => let ⟨i, q⟩ := xq; xs.length - i) (0, k) ⟨Z, Z, Z, Z, trivial⟩ ⟨E, Nat.le_refl _, Nat.zero_le _, (by simp)⟩ ?_))))))))))
 clear E
 rintro ⟨i, q⟩ w1 ⟨E, z1, hi, hq⟩
 refine Q7 [(0, vxs), (1, .int .i64 ((q : Nat) : Int)), (4, .int .i64 0), (5, .int .i64 ((i : Nat) : Int))] ⟨Z, Z, Z, Z, trivial⟩ ?_
 refine Qf (Qf (Qh [true, true, true, true] Z Z (Qa (Qe Z) Z (Qa (Qe Z) Z (Qa (Q4 Tryz.underlying69 Z (hxs.ext E).len) Z (Qa (Yb Z Z) Z (Qd (Qu Z (fun hc1 => ?_) (fun hc1 => ?_)))))))))
 ·have hc1n : i < xs.length := by first | (have h := of_decide_eq_true hc1; omega) | (have h := hc1; simp at h; omega)
  refine Qp (Qf (Qy (Qf (Qf (Qh [true, true, true, true, true, true, true, true] Z Z (Qa (Qe Z) Z (Qa (Qe Z) Z ?_)))))))
  have hi1 : i < xs.length := (by first | assumption | omega | (simp only [List.length_set]; first | assumption | omega))
  refine Qa (Qv (i := i) sl69 Z Z (hxs.ext E) hi1) Z (Qa (Qi sc4 Z (((hxs.ext E).get hi1).one 0 Z)) Z (Qa (Qe Z) Z (Qa (R_rem Z Z (by decide) Z) Z (Qa (Yw Z Z) Z (Qa (Ki (Tryz.underlying4) Z Z) Z (Qd (Yp rfl (by subst hq; rw [X0 hm (by omega)]; simp [mkBool]) (Qp (Qh [true, true, true] Z Z (Qa (Qe Z) Z (Qa (Q8 Z Z (Yc (by unfold maxLen; omega))) Z (Qa (Qg Z) Z (Qd (Q5 (Yt (Qh [true, true, true] Z Z (Qa (Qe Z) Z (Qa (Q8 Z Z (Yc (by unfold maxLen; omega))) Z (Qa (Qg Z) Z (Qd (Q5 (Q9 (i + 1, q + 1) (by simp; omega) ⟨Z, Z, Z, Z, trivial⟩ ⟨E, (by omega), (by omega), (by omega)⟩))))))))))))))))))))))
 ·have hc1n : ¬ i < xs.length := by first | (have h := of_decide_eq_false hc1; omega) | (have h := hc1; simp at h; omega)
  refine Yi (Q3 (Q2 ?_))
  refine Qf (Qh [true, true] Z Z (Qa (Qe Z) Z (Qa (Qg Z) Z (Qd (Qw (Qm Z Z E ?_))))))
  subst hq; rw [show i = xs.length from by omega]

set_option maxRecDepth 20000 in
theorem markDoneS (vxs : Value) (lo hi : Nat) (xs : List Done) (k : Nat) (w : World) (hxs : Own w lo hi 2 vxs (List.flatMap (Enc.enc (α := Done)) xs)) (hb : k + xs.length * 2 ≤ 1099511627776) : CtR Tryz.prog 75 [vxs, .int .i64 ((k : Nat) : Int)] w lo hi (fun v w' => v = .int .i64 ((k + 2 * xs.length : Nat) : Int) ∧ Own w' lo hi 2 vxs (List.flatMap (Enc.enc (α := Done)) (mkL 2 mkDone k xs.length))) := by
 refine ctR_of Tryz.func75 Z Tryz.ntmps75 Z ?_
 refine Q7 [(0, vxs), (1, .int .i64 ((k : Nat) : Int))] ⟨Z, Z, trivial⟩ ?_
 have E : ModR w w lo hi := ModR.refl w lo hi
 refine Qf (Qh [true] Z Z (Qa (Qg Z) Z (Qd (Qf (Qf (Qh [true] Z Z (Qa (Qg Z) Z (Qd (Qy (Yh (fun (xq : Nat × Nat × List Done) => let ⟨i, q, bs⟩ := xq; [(0, vxs), (1, .int .i64 ((q : Nat) : Int)), (4, .int .i64 0), (5, .int .i64 ((i : Nat) : Int))]) (fun (xq : Nat × Nat × List Done) w' => let ⟨i, q, bs⟩ := xq; ModR w w' lo hi ∧ w.heap.size ≤ w'.heap.size ∧ i + bs.length = xs.length ∧ q = k + 2 * i ∧ Own w' lo hi 2 vxs (List.flatMap (Enc.enc (α := Done)) (mkL 2 mkDone k i ++ bs))) (fun (xq : Nat × Nat × List Done) => let ⟨i, q, bs⟩ := xq; xs.length - i) (0, k, xs) ⟨Z, Z, Z, Z, trivial⟩ ⟨E, Nat.le_refl _, (by simp), (by simp), (by simpa [mkL] using hxs)⟩ ?_))))))))))
 clear E hxs
 rintro ⟨i, q, bs⟩ w1 ⟨E, z1, hi, hq, hxs⟩
 refine Q7 [(0, vxs), (1, .int .i64 ((q : Nat) : Int)), (4, .int .i64 0), (5, .int .i64 ((i : Nat) : Int))] ⟨Z, Z, Z, Z, trivial⟩ ?_
 refine Qf (Qf (Qh [true, true, true, true] Z Z (Qa (Qe Z) Z (Qa (Qe Z) Z (Qa (Q4 Tryz.underlying70 Z (Own.lenE (by decide) hxs (by simp only [List.length_append, Qj, List.length_cons]; omega))) Z (Qa (Yb Z Z) Z (Qd (Qu Z (fun hc1 => ?_) (fun hc1 => ?_)))))))))
 ·rcases bs with _ | ⟨x, bs⟩
  ·exact absurd hi (by have h := hc1; simp at h ⊢; omega)
  simp only [List.length_cons] at hi
  have hc1n : i < xs.length := by first | (have h := of_decide_eq_true hc1; omega) | (have h := hc1; simp at h; omega)
  refine Qp (Qf (Qy (Qf (Qh [true, true, true, true, true, false] Z Z (Qa (Qe Z) Z (Qa (Qe Z) Z (Qa (Qe Z) Z (Qa (Qv sl70 Z Z (Own.rd (by decide) hxs) (by simp only [List.length_append, Qj, List.length_cons]; omega)) Z (Qa (Qz fl156_0 Z) Z (Y2 (α := Done) (i := i) (f := 0) (⟨((q : Nat) : Int), x.capped⟩ : Done) Yk Z Z Z Z hxs (Qj _ _ _ _) (by decide) Z (fun w2 m1 hxs' => ?_)))))))))))
  have hq := hxs.blk
  replace hxs := hxs'
  replace E := E.mod m1 (fun g hg => by have := hq g hg; omega)
  have z2 := m1.size
  clear hq
  refine Qd (Qf (Qh [true, true, true] Z Z (Qa (Qe Z) Z (Qa (Q8 Z Z (Yc (by unfold maxLen; omega))) Z (Qa (Qg Z) Z (Qd (Qf (Qh [true, true, true, true, true, true, true, false] Z Z (Qa (Qe Z) Z (Qa (Qe Z) Z (Qa (Qe Z) Z (Qa (R_rem Z Z (by decide) Z) Z (Qa (Yw Z Z) Z (Qa (Qv sl70 Z Z (Own.rd (by decide) hxs) (by simp only [List.length_append, Qj, List.length_cons]; omega)) Z (Qa (Qz fl156_1 Z) Z (Y2 (α := Done) (i := i) (f := 1) (⟨((q : Nat) : Int), (Int.tmod ((q + 1 : Nat) : Int) 3) == 0⟩ : Done) sc4 Z Z Z Z hxs (Qj _ _ _ _) (by decide) Z (fun w3 m2 hxs' => ?_)))))))))))))))))
  have hq := hxs.blk
  replace hxs := hxs'
  replace E := E.mod m2 (fun g hg => by have := hq g hg; omega)
  have z3 := m2.size
  clear hq
  refine Qd (Qh [true, true, true] Z Z (Qa (Qe Z) Z (Qa (Q8 Z Z (Yc (by unfold maxLen; omega))) Z (Qa (Qg Z) Z (Qd (Q5 (Yt (Qh [true, true, true] Z Z (Qa (Qe Z) Z (Qa (Q8 Z Z (Yc (by unfold maxLen; omega))) Z (Qa (Qg Z) Z (Qd (Q5 (Q9 (i + 1, q + 1 + 1, bs) (by simp; omega) ⟨rfl, rfl, rfl, rfl, trivial⟩ ⟨E, (by omega), (by omega), (by omega), (by subst hq; rw [← mkL_succ]; exact hxs)⟩))))))))))))))
 ·have hc1n : ¬ i < xs.length := by first | (have h := of_decide_eq_false hc1; omega) | (have h := hc1; simp at h; omega)
  refine Yi (Q3 (Q2 ?_))
  refine Qf (Qh [true, true] Z Z (Qa (Qe Z) Z (Qa (Qg Z) Z (Qd (Qw (Qm Z Z E ?_))))))
  exact ⟨by subst hq; rw [show i = xs.length from by omega], by obtain rfl : bs = [] := List.eq_nil_of_length_eq_zero (by omega); rw [show xs.length = i from by simp at hi; omega]; simpa using hxs⟩

set_option maxRecDepth 20000 in
theorem heldDoneS (vxs : Value) (xs : List Done) (k : Nat) (w : World) (hxs : RdS w vxs xs) (hm : xs = mkL 2 mkDone k xs.length) (hb : k + xs.length * 2 ≤ 1099511627776) : Ct Tryz.prog 81 [vxs, .int .i64 ((k : Nat) : Int)] w (fun v _ => v = .int .i64 ((k + 2 * xs.length : Nat) : Int)) := by
 refine Yj Tryz.func81 Z Tryz.ntmps81 Z ?_
 refine Q7 [(0, vxs), (1, .int .i64 ((k : Nat) : Int))] ⟨Z, Z, trivial⟩ ?_
 have E : Ext w w := Ext.refl w
 refine Qf (Qh [true] Z Z (Qa (Qg Z) Z (Qd (Qf (Qf (Qh [true] Z Z (Qa (Qg Z) Z (Qd (Qy (Yh (fun (xq : Nat × Nat) => let ⟨i, q⟩ := xq; [(0, vxs), (1, .int .i64 ((q : Nat) : Int)), (4, .int .i64 0), (5, .int .i64 ((i : Nat) : Int))]) (fun (xq : Nat × Nat) w' => let ⟨i, q⟩ := xq; Ext w w' ∧ w.heap.size ≤ w'.heap.size ∧ i ≤ xs.length ∧ q = k + 2 * i) (fun (xq : Nat × Nat) => let ⟨i, q⟩ := xq; xs.length - i) (0, k) ⟨Z, Z, Z, Z, trivial⟩ ⟨E, Nat.le_refl _, Nat.zero_le _, (by simp)⟩ ?_))))))))))
 clear E
 rintro ⟨i, q⟩ w1 ⟨E, z1, hi, hq⟩
 refine Q7 [(0, vxs), (1, .int .i64 ((q : Nat) : Int)), (4, .int .i64 0), (5, .int .i64 ((i : Nat) : Int))] ⟨Z, Z, Z, Z, trivial⟩ ?_
 refine Qf (Qf (Qh [true, true, true, true] Z Z (Qa (Qe Z) Z (Qa (Qe Z) Z (Qa (Q4 Tryz.underlying70 Z (hxs.ext E).len) Z (Qa (Yb Z Z) Z (Qd (Qu Z (fun hc1 => ?_) (fun hc1 => ?_)))))))))
 ·have hc1n : i < xs.length := by first | (have h := of_decide_eq_true hc1; omega) | (have h := hc1; simp at h; omega)
  refine Qp (Qf (Qy (Qf (Qf (Qh [true, true, true, true, true, true, true] Z Z (Qa (Qe Z) Z (Qa (Qe Z) Z ?_)))))))
  have hi1 : i < xs.length := (by first | assumption | omega | (simp only [List.length_set]; first | assumption | omega))
  refine Qa (Qv (i := i) sl70 Z Z (hxs.ext E) hi1) Z (Qa (Qz fl156_0 Z) Z (Qa (Qi Yk Z (((hxs.ext E).get hi1).one 0 Z)) Z (Qa (Qe Z) Z (Qa (Yr Z Z) Z (Qd (Yp rfl (by subst hq; rw [X0 hm (by omega)]; simp [mkDone]) (Qp (Qf (Qh [true, true, true] Z Z (Qa (Qe Z) Z (Qa (Q8 Z Z (Yc (by unfold maxLen; omega))) Z (Qa (Qg Z) Z (Qd (Qf (Qf (Qh [true, true, true, true, true, true, true, true, true] Z Z (Qa (Qe Z) Z (Qa (Qe Z) Z (Qa (Qv (i := i) sl70 Z Z (hxs.ext E) hi1) Z (Qa (Qz fl156_1 Z) Z (Qa (Qi sc4 Z (((hxs.ext E).get hi1).one 1 Z)) Z (Qa (Qe Z) Z (Qa (R_rem Z Z (by decide) Z) Z (Qa (Yw Z Z) Z (Qa (Ki (Tryz.underlying4) Z Z) Z (Qd (Yp rfl (by subst hq; rw [X0 hm (by omega)]; simp [mkDone]) (Qp (Qh [true, true, true] Z Z (Qa (Qe Z) Z (Qa (Q8 Z Z (Yc (by unfold maxLen; omega))) Z (Qa (Qg Z) Z (Qd (Q5 (Yt (Qh [true, true, true] Z Z (Qa (Qe Z) Z (Qa (Q8 Z Z (Yc (by unfold maxLen; omega))) Z (Qa (Qg Z) Z (Qd (Q5 (Q9 (i + 1, q + 1 + 1) (by simp; omega) ⟨Z, Z, Z, Z, trivial⟩ ⟨E, (by omega), (by omega), (by omega)⟩))))))))))))))))))))))))))))))))))))))))))
 ·have hc1n : ¬ i < xs.length := by first | (have h := of_decide_eq_false hc1; omega) | (have h := hc1; simp at h; omega)
  refine Yi (Q3 (Q2 ?_))
  refine Qf (Qh [true, true] Z Z (Qa (Qe Z) Z (Qa (Qg Z) Z (Qd (Qw (Qm Z Z E ?_))))))
  subst hq; rw [show i = xs.length from by omega]

set_option maxRecDepth 20000 in
theorem c_copyRecords (vxs : Value) (xs : List Record) (w : World) (hxs : RdS w vxs xs) (hb : xs.length ≤ 4194304) : Ct Tryz.prog 107 [vxs] w (fun v w' => Own w' w.heap.size w'.heap.size 5 v (List.flatMap (Enc.enc (α := Record)) xs)) := by
 refine Yj Tryz.func107 Z Tryz.ntmps107 Z ?_
 refine Q7 [(0, vxs)] ⟨Z, trivial⟩ ?_
 have E : Ext w w := Ext.refl w
 refine Qf (Qh [true] Z Z (Qa (Qg Z) Z (Qd (Qf (Qh [true, false, true] Z Z (Qa (Qe Z) Z (J_append Xx Z Z (Own.nil w w.heap.size w.heap.size 5) (RdS.src (hxs.ext E)) (Xb _) (by simp only [Y0, List.length_nil]; simp only [Enc.sz]; omega) (by decide) (by omega) (by omega) Z Z (fun v1 w1 m1 ho1 => ?_))))))))
 replace E := E.step m1 (fun g hg => by have := Own.blk (Own.nil w w.heap.size w.heap.size 5) g hg; omega)
 have z1 := m1.size
 refine Qa (Qg Z) Z (Qd (Qw (Qm Z Z E ?_)))
 exact Own.fin ho1 (by have := E.size; omega) (by omega) (by simp [*])

set_option maxRecDepth 20000 in
theorem c_copyCells (vxs : Value) (xs : List Cell) (w : World) (hxs : RdS w vxs xs) (hb : xs.length ≤ 4194304) : Ct Tryz.prog 108 [vxs] w (fun v w' => Own w' w.heap.size w'.heap.size 4 v (List.flatMap (Enc.enc (α := Cell)) xs)) := by
 refine Yj Tryz.func108 Z Tryz.ntmps108 Z ?_
 refine Q7 [(0, vxs)] ⟨Z, trivial⟩ ?_
 have E : Ext w w := Ext.refl w
 refine Qf (Qh [true] Z Z (Qa (Qg Z) Z (Qd (Qf (Qh [true, false, true] Z Z (Qa (Qe Z) Z (J_append sl67 Z Z (Own.nil w w.heap.size w.heap.size 4) (RdS.src (hxs.ext E)) (Xb _) (by simp only [Y0, List.length_nil]; simp only [Enc.sz]; omega) (by decide) (by omega) (by omega) Z Z (fun v1 w1 m1 ho1 => ?_))))))))
 replace E := E.step m1 (fun g hg => by have := Own.blk (Own.nil w w.heap.size w.heap.size 4) g hg; omega)
 have z1 := m1.size
 refine Qa (Qg Z) Z (Qd (Qw (Qm Z Z E ?_)))
 exact Own.fin ho1 (by have := E.size; omega) (by omega) (by simp [*])

set_option maxRecDepth 20000 in
theorem c_copyWorker (cx : List Value) (x : Worker) (w : World) (hx : Dat.R w 0 w.heap.size cx x) (hb : Yd x ≤ 1048576) : Ct Tryz.prog 59 [.agg cx.toArray] w (fun v w' => ∃ cs, v = .agg cs.toArray ∧ Own1.O w' w.heap.size w'.heap.size cs x) := by
 unfold Yd at hb
 refine Yj Tryz.func59 Z Tryz.ntmps59 Z ?_
 obtain ⟨o1, o2, o3, o4, o5, o6, o7, o8, rfl, hd1, hd2, hd3, hd4, hd5, hd6, hd7, hd8⟩ := Worker.op hx
 refine Q7 [(0, .agg [o1, o2, o3, o4, o5, o6, o7, o8].toArray)] ⟨Z, trivial⟩ ?_
 have E : Ext w w := Ext.refl w
 refine Qf (Qh [false, false] Z Z (Yx Z Z (fun b1 w1 e1 s1 h1 => ?_)))
 have g_b1 : w.heap.size ≤ b1 := by have := E.size; omega
 have y_b1 := h1.lt
 replace E := E.trans e1
 have z1 := e1.size
 refine Yu Xt Z (fun b2 w2 e2 s2 h2 => ?_)
 have g_b2 : w.heap.size ≤ b2 := by have := E.size; omega
 have y_b2 := h2.lt
 replace E := E.trans e2; replace h1 := h1.ext e2
 have z2 := e2.size
 refine Qd (Qf (Y7 Y8 [(0, true), (1, true), (3, true), (4, true), (6, true), (7, true), (9, true), (10, true), (12, true), (13, true), (15, true), (16, true), (18, true), (19, true), (21, true), (22, true), (2, false), (5, false), (8, false), (11, false), (14, false), (17, false), (20, false), (23, false), (24, true), (25, false)] (by decide +kernel) Z (fun w3 e3 => ?_)))
 replace E := E.trans e3; replace h1 := h1.ext e3; replace h2 := h2.ext e3
 have z3 := e3.size
 refine Qa (Qb fl72_0 Z) Z (Qa (Qi Xa Z (h1.one 0 Z)) Z (Qa (Qb fl72_1 Z) Z (Qa (Qi Xa Z (h1.one 1 Z)) Z (Qa (Qb Xo Z) Z (Qa (Qi Xa Z (h1.one 2 Z)) Z (Qa (Qb fl72_3 Z) Z (Qa (Qi sc67 Z (h1.one 3 Z)) Z (Qa (Qb fl72_4 Z) Z (Qa (Qi Yy Z (h1.one 4 Z)) Z (Qa (Qb fl72_5 Z) Z (Qa (Qi sc69 Z (h1.one 5 Z)) Z (Qa (Qb fl72_6 Z) Z (Qa (Qi sc69 Z (h1.one 6 Z)) Z (Qa (Qb fl72_7 Z) Z (Qa (Qi sc70 Z (h1.one 7 Z)) Z (Q0 Tryz.call107 Z (c_copyRecords o1 x.queue _ (hd1.rd.ext E) (by first | omega | (simp only [Qj]; omega) | (rw [Qj]; done) | (simp only [Qj]; done))) Z (fun v1 w4 e4 ho1 => ?_)))))))))))))))))
 have g_ho1 : w.heap.size ≤ w3.heap.size := E.size
 replace E := E.trans e4; replace h1 := h1.ext e4; replace h2 := h2.ext e4
 have z4 := e4.size
 refine Q0 Tryz.call107 Z (c_copyRecords o2 x.staged _ (hd2.rd.ext E) (by first | omega | (simp only [Qj]; omega) | (rw [Qj]; done) | (simp only [Qj]; done))) Z (fun v2 w5 e5 ho2 => ?_)
 have g_ho2 : w.heap.size ≤ w4.heap.size := E.size
 replace E := E.trans e5; replace h1 := h1.ext e5; replace h2 := h2.ext e5; replace ho1 := ho1.ext e5
 have z5 := e5.size
 refine Q0 Tryz.call107 Z (c_copyRecords o3 x.inputs _ (hd3.rd.ext E) (by first | omega | (simp only [Qj]; omega) | (rw [Qj]; done) | (simp only [Qj]; done))) Z (fun v3 w6 e6 ho3 => ?_)
 have g_ho3 : w.heap.size ≤ w5.heap.size := E.size
 replace E := E.trans e6; replace h1 := h1.ext e6; replace h2 := h2.ext e6; replace ho1 := ho1.ext e6; replace ho2 := ho2.ext e6
 have z6 := e6.size
 refine Q0 Tryz.call108 Z (c_copyCells o4 x.cells _ (hd4.rd.ext E) (by first | omega | (simp only [Qj]; omega) | (rw [Qj]; done) | (simp only [Qj]; done))) Z (fun v4 w7 e7 ho4 => ?_)
 have g_ho4 : w.heap.size ≤ w6.heap.size := E.size
 replace E := E.trans e7; replace h1 := h1.ext e7; replace h2 := h2.ext e7; replace ho1 := ho1.ext e7; replace ho2 := ho2.ext e7; replace ho3 := ho3.ext e7
 have z7 := e7.size
 refine J_appendD Y5 Z Z (Own.nil w7 w7.heap.size w7.heap.size 1) ⟨_, _, Z⟩ (RdS.src (hd5.rd.ext E)) (Xb _) (by simp only [Y0, List.length_nil]; simp only [Enc.sz]; omega) (by decide) (by omega) (by omega) Z (fun v5 w8 e8 ho5 hb_ho5 => ?_)
 replace E := E.trans e8; replace h1 := h1.ext e8; replace h2 := h2.ext e8; replace ho1 := ho1.ext e8; replace ho2 := ho2.ext e8; replace ho3 := ho3.ext e8; replace ho4 := ho4.ext e8
 have z8 := e8.size
 have g_ho5 : w.heap.size ≤ w7.heap.size := by have := E.size; omega
 replace ho5 : Own w8 w7.heap.size w8.heap.size 1 v5 (List.flatMap (Enc.enc (α := Int)) x.sums) := ho5
 refine J_appendD sl69 Z Z (Own.nil w8 w8.heap.size w8.heap.size 1) ⟨_, _, Z⟩ (RdS.src (hd6.rd.ext E)) (Xb _) (by simp only [Y0, List.length_nil]; simp only [Enc.sz]; omega) (by decide) (by omega) (by omega) Z (fun v6 w9 e9 ho6 hb_ho6 => ?_)
 replace E := E.trans e9; replace h1 := h1.ext e9; replace h2 := h2.ext e9; replace ho1 := ho1.ext e9; replace ho2 := ho2.ext e9; replace ho3 := ho3.ext e9; replace ho4 := ho4.ext e9; replace ho5 := ho5.ext e9
 have z9 := e9.size
 have g_ho6 : w.heap.size ≤ w8.heap.size := by have := E.size; omega
 replace ho6 : Own w9 w8.heap.size w9.heap.size 1 v6 (List.flatMap (Enc.enc (α := Bool)) x.black) := ho6
 refine J_appendD sl69 Z Z (Own.nil w9 w9.heap.size w9.heap.size 1) ⟨_, _, Z⟩ (RdS.src (hd7.rd.ext E)) (Xb _) (by simp only [Y0, List.length_nil]; simp only [Enc.sz]; omega) (by decide) (by omega) (by omega) Z (fun v7 w10 e10 ho7 hb_ho7 => ?_)
 replace E := E.trans e10; replace h1 := h1.ext e10; replace h2 := h2.ext e10; replace ho1 := ho1.ext e10; replace ho2 := ho2.ext e10; replace ho3 := ho3.ext e10; replace ho4 := ho4.ext e10; replace ho5 := ho5.ext e10; replace ho6 := ho6.ext e10
 have z10 := e10.size
 have g_ho7 : w.heap.size ≤ w9.heap.size := by have := E.size; omega
 replace ho7 : Own w10 w9.heap.size w10.heap.size 1 v7 (List.flatMap (Enc.enc (α := Bool)) x.caps) := ho7
 refine J_appendD sl70 Z Z (Own.nil w10 w10.heap.size w10.heap.size 2) ⟨_, _, Z⟩ (RdS.src (hd8.rd.ext E)) (Xb _) (by simp only [Y0, List.length_nil]; simp only [Enc.sz]; omega) (by decide) (by omega) (by omega) Z (fun v8 w11 e11 ho8 hb_ho8 => ?_)
 replace E := E.trans e11; replace h1 := h1.ext e11; replace h2 := h2.ext e11; replace ho1 := ho1.ext e11; replace ho2 := ho2.ext e11; replace ho3 := ho3.ext e11; replace ho4 := ho4.ext e11; replace ho5 := ho5.ext e11; replace ho6 := ho6.ext e11; replace ho7 := ho7.ext e11
 have z11 := e11.size
 have g_ho8 : w.heap.size ≤ w10.heap.size := by have := E.size; omega
 replace ho8 : Own w11 w10.heap.size w11.heap.size 2 v8 (List.flatMap (Enc.enc (α := Done)) x.dones) := ho8
 have hbl1 : ∀ w, (Instr.build 72 ([(0, v1), (1, v2), (2, v3), (3, v4), (4, v5), (5, v6), (6, v7), (7, v8)]).toArray).run Tryz.prog w = .ok (.agg [v1, v2, v3, v4, v5, v6, v7, v8].toArray) w := by clear E; obtain ⟨_, _, _, rfl⟩ := Own.shape ho1; obtain ⟨_, _, _, rfl⟩ := Own.shape ho2; obtain ⟨_, _, _, rfl⟩ := Own.shape ho3; obtain ⟨_, _, _, rfl⟩ := Own.shape ho4; obtain ⟨_, _, _, rfl⟩ := Own.shape ho5; obtain ⟨_, _, _, rfl⟩ := Own.shape ho6; obtain ⟨_, _, _, rfl⟩ := Own.shape ho7; obtain ⟨_, _, _, rfl⟩ := Own.shape ho8; intro w; kernel_rfl
 refine Qa (R_buildC [v1, v2, v3, v4, v5, v6, v7, v8] Z hbl1) Z (Ya (cs' := [v1, v2, v3, v4, v5, v6, v7, v8]) Xt Z Z Z (Ql ho1.one (Ql ho2.one (Ql ho3.one (Ql ho4.one (Ql ho5.one (Ql ho6.one (Ql ho7.one (Ql ho8.one Z)))))))) h2 (Nat.le_of_ble_eq_true Z) Z (fun w12 m1 h2' => ?_))
 replace h2 := h2'
 replace E := E.step m1 (fun g hg => by cases hg; omega); replace h1 := h1.mod m1 (fun g hg => by cases hg; omega); replace ho1 := ho1.mod m1 (fun g hg => by cases hg; omega); replace ho2 := ho2.mod m1 (fun g hg => by cases hg; omega); replace ho3 := ho3.mod m1 (fun g hg => by cases hg; omega); replace ho4 := ho4.mod m1 (fun g hg => by cases hg; omega); replace ho5 := ho5.mod m1 (fun g hg => by cases hg; omega); replace ho6 := ho6.mod m1 (fun g hg => by cases hg; omega); replace ho7 := ho7.mod m1 (fun g hg => by cases hg; omega); replace ho8 := ho8.mod m1 (fun g hg => by cases hg; omega)
 have z12 := m1.size
 refine Qd (Qw (Xi Z Z (Ys Xt h2.at Z) E ?_))
 exact ⟨_, Z, Worker.mkO x ⟨⟨(Own.sep ho1 ho2 (by omega)), ⟨(Own.sep ho1 ho3 (by omega)), ⟨(Own.sep ho1 ho4 (by omega)), ⟨(Own.sep ho1 ho5 (by omega)), ⟨(Own.sep ho1 ho6 (by omega)), ⟨(Own.sep ho1 ho7 (by omega)), ⟨(Own.sep ho1 ho8 (by omega)), trivial⟩⟩⟩⟩⟩⟩⟩, ⟨⟨(Own.sep ho2 ho3 (by omega)), ⟨(Own.sep ho2 ho4 (by omega)), ⟨(Own.sep ho2 ho5 (by omega)), ⟨(Own.sep ho2 ho6 (by omega)), ⟨(Own.sep ho2 ho7 (by omega)), ⟨(Own.sep ho2 ho8 (by omega)), trivial⟩⟩⟩⟩⟩⟩, ⟨⟨(Own.sep ho3 ho4 (by omega)), ⟨(Own.sep ho3 ho5 (by omega)), ⟨(Own.sep ho3 ho6 (by omega)), ⟨(Own.sep ho3 ho7 (by omega)), ⟨(Own.sep ho3 ho8 (by omega)), trivial⟩⟩⟩⟩⟩, ⟨⟨(Own.sep ho4 ho5 (by omega)), ⟨(Own.sep ho4 ho6 (by omega)), ⟨(Own.sep ho4 ho7 (by omega)), ⟨(Own.sep ho4 ho8 (by omega)), trivial⟩⟩⟩⟩, ⟨⟨(Own.sep ho5 ho6 (by omega)), ⟨(Own.sep ho5 ho7 (by omega)), ⟨(Own.sep ho5 ho8 (by omega)), trivial⟩⟩⟩, ⟨⟨(Own.sep ho6 ho7 (by omega)), ⟨(Own.sep ho6 ho8 (by omega)), trivial⟩⟩, ⟨⟨(Own.sep ho7 ho8 (by omega)), trivial⟩, ⟨trivial, trivial⟩⟩⟩⟩⟩⟩⟩⟩ (Own.widen ho1 (by omega) (by omega)) (Own.widen ho2 (by omega) (by omega)) (Own.widen ho3 (by omega) (by omega)) (Own.widen ho4 (by omega) (by omega)) (Own.widen ho5 (by omega) (by omega)) (Own.widen ho6 (by omega) (by omega)) (Own.widen ho7 (by omega) (by omega)) (Own.widen ho8 (by omega) (by omega))⟩

set_option maxHeartbeats 4000000 in
set_option maxRecDepth 20000 in
theorem s_l12Copy (cx : List Value) (x : Worker) (w : World) (hx : Dat.R w 0 w.heap.size cx x) (hb : Yd x ≤ 1048576) : Ct Tryz.prog 93 [.agg cx.toArray] w (fun v w' => ∃ cs, v = .agg cs.toArray ∧ Own1.O w' w.heap.size w'.heap.size cs x) := by
 unfold Yd at hb
 refine Yj Tryz.func93 Z Tryz.ntmps93 Z ?_
 obtain ⟨o1, o2, o3, o4, o5, o6, o7, o8, rfl, hd1, hd2, hd3, hd4, hd5, hd6, hd7, hd8⟩ := Worker.op hx
 refine Q7 [(0, .agg [o1, o2, o3, o4, o5, o6, o7, o8].toArray)] ⟨Z, trivial⟩ ?_
 have E : Ext w w := Ext.refl w
 refine Qf (Qh [false, false] Z Z (Yx Z Z (fun b1 w1 e1 s1 h1 => ?_)))
 have g_b1 : w.heap.size ≤ b1 := by have := E.size; omega
 have y_b1 := h1.lt
 replace E := E.trans e1
 have z1 := e1.size
 refine Yu Xt Z (fun b2 w2 e2 s2 h2 => ?_)
 have g_b2 : w.heap.size ≤ b2 := by have := E.size; omega
 have y_b2 := h2.lt
 replace E := E.trans e2; replace h1 := h1.ext e2
 have z2 := e2.size
 refine Qd (Qf (S_regP Y8 [(1, true), (2, true), (5, true), (6, true), (9, true), (10, true), (13, true), (14, true), (17, true), (18, true), (21, true), (22, true), (25, true), (26, true), (29, true), (30, true)] [⟨0, 3, 5, [], true, none, none⟩, ⟨3, 6, 5, List.flatMap (Enc.enc (α := Record)) x.queue, false, some (0, 3), none⟩, ⟨4, 7, 5, [], true, none, none⟩, ⟨7, 10, 5, List.flatMap (Enc.enc (α := Record)) x.staged, false, some (4, 7), none⟩, ⟨8, 11, 5, [], true, none, none⟩, ⟨11, 14, 5, List.flatMap (Enc.enc (α := Record)) x.inputs, false, some (8, 11), none⟩, ⟨12, 15, 4, [], true, none, none⟩, ⟨15, 18, 4, List.flatMap (Enc.enc (α := Cell)) x.cells, false, some (12, 15), none⟩, ⟨16, 19, 1, [], true, none, none⟩, ⟨19, 22, 1, List.flatMap (Enc.enc (α := Int)) x.sums, false, some (16, 19), none⟩, ⟨20, 23, 1, [], true, none, none⟩, ⟨23, 26, 1, List.flatMap (Enc.enc (α := Bool)) x.black, false, some (20, 23), none⟩, ⟨24, 27, 1, [], true, none, none⟩, ⟨27, 30, 1, List.flatMap (Enc.enc (α := Bool)) x.caps, false, some (24, 27), none⟩, ⟨28, 31, 2, [], true, none, none⟩, ⟨31, 34, 2, List.flatMap (Enc.enc (α := Done)) x.dones, false, some (28, 31), none⟩] [(32, true), (33, false)] (by kernel_rfl) Z Z [(0, .agg [o1, o2, o3, o4, o5, o6, o7, o8].toArray), (1, .pointer (some ⟨b1, 0, none⟩)), (2, .pointer (some ⟨b2, 0, none⟩)), (4, .pointer (some ⟨b1, 0, none⟩)), (5, o1), (8, .pointer (some ⟨b1, 1, none⟩)), (9, o2), (12, .pointer (some ⟨b1, 2, none⟩)), (13, o3), (16, .pointer (some ⟨b1, 3, none⟩)), (17, o4), (20, .pointer (some ⟨b1, 4, none⟩)), (21, o5), (24, .pointer (some ⟨b1, 5, none⟩)), (25, o6), (28, .pointer (some ⟨b1, 6, none⟩)), (29, o7), (32, .pointer (some ⟨b1, 7, none⟩)), (33, o8)] (fun w' => Ext w w' ∧ w2.heap.size ≤ w'.heap.size ∧ Blk w' b1 ([o1, o2, o3, o4, o5, o6, o7, o8]) ∧ Blk w' b2 [.slice none 0 0, .slice none 0 0, .slice none 0 0, .slice none 0 0, .slice none 0 0, .slice none 0 0, .slice none 0 0, .slice none 0 0]) (fun w3 e3 => ?_) (fun w3 hphi_w3 => ?_)))
 ·replace E := E.trans e3; replace h1 := h1.ext e3; replace h2 := h2.ext e3
  have z3 := e3.size
  refine Qa (Qb fl72_0 Z) Z (Qa (Qi Xa Z (h1.one 0 Z)) Z (Qa (Qb fl72_1 Z) Z (Qa (Qi Xa Z (h1.one 1 Z)) Z (Qa (Qb Xo Z) Z (Qa (Qi Xa Z (h1.one 2 Z)) Z (Qa (Qb fl72_3 Z) Z (Qa (Qi sc67 Z (h1.one 3 Z)) Z (Qa (Qb fl72_4 Z) Z (Qa (Qi Yy Z (h1.one 4 Z)) Z (Qa (Qb fl72_5 Z) Z (Qa (Qi sc69 Z (h1.one 5 Z)) Z (Qa (Qb fl72_6 Z) Z (Qa (Qi sc69 Z (h1.one 6 Z)) Z (Qa (Qb fl72_7 Z) Z (Qa (Qi sc70 Z (h1.one 7 Z)) Z (Qo ⟨Z, Z, Z, Z, Z, Z, Z, Z, Z, Z, Z, Z, Z, Z, Z, Z, Z, Z, Z, trivial⟩ ⟨E, (by omega), h1, h2⟩))))))))))))))))
 clear E h1 h2
 obtain ⟨E, z4, h1, h2⟩ := hphi_w3
 refine ⟨⟨⟨_, Z, Z, Z, Z, ?_⟩, ⟨_, Z, Z, Z, Z, ?_⟩, ⟨_, Z, Z, Z, Z, ?_⟩, ⟨_, Z, Z, Z, Z, ?_⟩, ⟨_, Z, Z, Z, Z, ?_⟩, ⟨_, Z, Z, Z, Z, ?_⟩, ⟨_, Z, Z, Z, Z, ?_⟩, ⟨_, Z, Z, Z, Z, ?_⟩, ⟨_, Z, Z, Z, Z, ?_⟩, ⟨_, Z, Z, Z, Z, ?_⟩, ⟨_, Z, Z, Z, Z, ?_⟩, ⟨_, Z, Z, Z, Z, ?_⟩, ⟨_, Z, Z, Z, Z, ?_⟩, ⟨_, Z, Z, Z, Z, ?_⟩, ⟨_, Z, Z, Z, Z, ?_⟩, ⟨_, Z, Z, Z, Z, ?_⟩, trivial⟩, fun w4 e4 => ?_⟩
 ·exact step_lit Xx
 ·exact step_app Xx Z (fun _ eX => RdS.src (RdS.ext (hd1.rd.ext E) eX)) (Xb _) (by simp only [Y0, List.length_nil]; simp only [Enc.sz]; omega) (by decide)
 ·exact step_lit Xx
 ·exact step_app Xx Z (fun _ eX => RdS.src (RdS.ext (hd2.rd.ext E) eX)) (Xb _) (by simp only [Y0, List.length_nil]; simp only [Enc.sz]; omega) (by decide)
 ·exact step_lit Xx
 ·exact step_app Xx Z (fun _ eX => RdS.src (RdS.ext (hd3.rd.ext E) eX)) (Xb _) (by simp only [Y0, List.length_nil]; simp only [Enc.sz]; omega) (by decide)
 ·exact step_lit sl67
 ·exact step_app sl67 Z (fun _ eX => RdS.src (RdS.ext (hd4.rd.ext E) eX)) (Xb _) (by simp only [Y0, List.length_nil]; simp only [Enc.sz]; omega) (by decide)
 ·exact step_lit Y5
 ·exact step_app Y5 Z (fun _ eX => RdS.src (RdS.ext (hd5.rd.ext E) eX)) (Xb _) (by simp only [Y0, List.length_nil]; simp only [Enc.sz]; omega) (by decide)
 ·exact step_lit sl69
 ·exact step_app sl69 Z (fun _ eX => RdS.src (RdS.ext (hd6.rd.ext E) eX)) (Xb _) (by simp only [Y0, List.length_nil]; simp only [Enc.sz]; omega) (by decide)
 ·exact step_lit sl69
 ·exact step_app sl69 Z (fun _ eX => RdS.src (RdS.ext (hd7.rd.ext E) eX)) (Xb _) (by simp only [Y0, List.length_nil]; simp only [Enc.sz]; omega) (by decide)
 ·exact step_lit sl70
 ·exact step_app sl70 Z (fun _ eX => RdS.src (RdS.ext (hd8.rd.ext E) eX)) (Xb _) (by simp only [Y0, List.length_nil]; simp only [Enc.sz]; omega) (by decide)
 intro v1 f1 ho1 v2 f2 ho2 v3 f3 ho3 v4 f4 ho4 v5 f5 ho5 v6 f6 ho6 v7 f7 ho7 v8 f8 ho8 v9 f9 ho9 v10 f10 ho10 v11 f11 ho11 v12 f12 ho12 v13 f13 ho13 v14 f14 ho14 v15 f15 ho15 v16 f16 ho16 sp1
 obtain ⟨ho1, rfl⟩ := ho1
 obtain ⟨ho2, rfl⟩ := ho2
 obtain ⟨ho3, rfl⟩ := ho3
 obtain ⟨ho4, rfl⟩ := ho4
 obtain ⟨ho5, rfl⟩ := ho5
 obtain ⟨ho6, rfl⟩ := ho6
 obtain ⟨ho7, rfl⟩ := ho7
 obtain ⟨ho8, rfl⟩ := ho8
 obtain ⟨ho9, rfl⟩ := ho9
 obtain ⟨ho10, rfl⟩ := ho10
 obtain ⟨ho11, rfl⟩ := ho11
 obtain ⟨ho12, rfl⟩ := ho12
 obtain ⟨ho13, rfl⟩ := ho13
 obtain ⟨ho14, rfl⟩ := ho14
 obtain ⟨ho15, rfl⟩ := ho15
 obtain ⟨ho16, rfl⟩ := ho16
 replace sp1 : SepL [v2, v4, v6, v8, v10, v12, v14, v16] := DjL.toSep (vs := [v2, v4, v6, v8, v10, v12, v14, v16]) sp1
 have g_sp1 : w.heap.size ≤ w3.heap.size := E.size
 replace E := E.trans e4; replace h1 := h1.ext e4; replace h2 := h2.ext e4
 have z5 := e4.size
 clear ho1
 replace ho2 : Own w4 w3.heap.size w4.heap.size 5 v2 (List.flatMap (Enc.enc (α := Record)) x.queue) := ho2
 clear ho3
 replace ho4 : Own w4 w3.heap.size w4.heap.size 5 v4 (List.flatMap (Enc.enc (α := Record)) x.staged) := ho4
 clear ho5
 replace ho6 : Own w4 w3.heap.size w4.heap.size 5 v6 (List.flatMap (Enc.enc (α := Record)) x.inputs) := ho6
 clear ho7
 replace ho8 : Own w4 w3.heap.size w4.heap.size 4 v8 (List.flatMap (Enc.enc (α := Cell)) x.cells) := ho8
 clear ho9
 replace ho10 : Own w4 w3.heap.size w4.heap.size 1 v10 (List.flatMap (Enc.enc (α := Int)) x.sums) := ho10
 clear ho11
 replace ho12 : Own w4 w3.heap.size w4.heap.size 1 v12 (List.flatMap (Enc.enc (α := Bool)) x.black) := ho12
 clear ho13
 replace ho14 : Own w4 w3.heap.size w4.heap.size 1 v14 (List.flatMap (Enc.enc (α := Bool)) x.caps) := ho14
 clear ho15
 replace ho16 : Own w4 w3.heap.size w4.heap.size 2 v16 (List.flatMap (Enc.enc (α := Done)) x.dones) := ho16
 refine J_sub [(0, .agg [o1, o2, o3, o4, o5, o6, o7, o8].toArray), (1, .pointer (some ⟨b1, 0, none⟩)), (2, .pointer (some ⟨b2, 0, none⟩)), (4, .pointer (some ⟨b1, 0, none⟩)), (5, o1), (6, v2), (8, .pointer (some ⟨b1, 1, none⟩)), (9, o2), (10, v4), (12, .pointer (some ⟨b1, 2, none⟩)), (13, o3), (14, v6), (16, .pointer (some ⟨b1, 3, none⟩)), (17, o4), (18, v8), (20, .pointer (some ⟨b1, 4, none⟩)), (21, o5), (22, v10), (24, .pointer (some ⟨b1, 5, none⟩)), (25, o6), (26, v12), (28, .pointer (some ⟨b1, 6, none⟩)), (29, o7), (30, v14), (32, .pointer (some ⟨b1, 7, none⟩)), (33, o8), (34, v16)] ⟨Z, Z, Z, Z, Z, Z, Z, Z, Z, Z, Z, Z, Z, Z, Z, Z, Z, Z, Z, Z, Z, Z, Z, Z, Z, Z, Z, trivial⟩ ?_
 have hbl1 : ∀ w, (Instr.build 72 ([(0, v2), (1, v4), (2, v6), (3, v8), (4, v10), (5, v12), (6, v14), (7, v16)]).toArray).run Tryz.prog w = .ok (.agg [v2, v4, v6, v8, v10, v12, v14, v16].toArray) w := by clear E; obtain ⟨_, _, _, rfl⟩ := Own.shape ho2; obtain ⟨_, _, _, rfl⟩ := Own.shape ho4; obtain ⟨_, _, _, rfl⟩ := Own.shape ho6; obtain ⟨_, _, _, rfl⟩ := Own.shape ho8; obtain ⟨_, _, _, rfl⟩ := Own.shape ho10; obtain ⟨_, _, _, rfl⟩ := Own.shape ho12; obtain ⟨_, _, _, rfl⟩ := Own.shape ho14; obtain ⟨_, _, _, rfl⟩ := Own.shape ho16; intro w; kernel_rfl
 refine Qa (R_buildC [v2, v4, v6, v8, v10, v12, v14, v16] Z hbl1) Z (Ya (cs' := [v2, v4, v6, v8, v10, v12, v14, v16]) Xt Z Z Z (Ql ho2.one (Ql ho4.one (Ql ho6.one (Ql ho8.one (Ql ho10.one (Ql ho12.one (Ql ho14.one (Ql ho16.one Z)))))))) h2 (Nat.le_of_ble_eq_true Z) Z (fun w5 m1 h2' => ?_))
 replace h2 := h2'
 replace E := E.step m1 (fun g hg => by cases hg; omega); replace h1 := h1.mod m1 (fun g hg => by cases hg; omega); replace ho2 := ho2.mod m1 (fun g hg => by cases hg; omega); replace ho4 := ho4.mod m1 (fun g hg => by cases hg; omega); replace ho6 := ho6.mod m1 (fun g hg => by cases hg; omega); replace ho8 := ho8.mod m1 (fun g hg => by cases hg; omega); replace ho10 := ho10.mod m1 (fun g hg => by cases hg; omega); replace ho12 := ho12.mod m1 (fun g hg => by cases hg; omega); replace ho14 := ho14.mod m1 (fun g hg => by cases hg; omega); replace ho16 := ho16.mod m1 (fun g hg => by cases hg; omega)
 have z6 := m1.size
 refine Qd (Qw (Xi Z Z (Ys Xt h2.at Z) E ?_))
 exact ⟨_, Z, Worker.mkO x sp1 (Own.widen ho2 (by omega) (by omega)) (Own.widen ho4 (by omega) (by omega)) (Own.widen ho6 (by omega) (by omega)) (Own.widen ho8 (by omega) (by omega)) (Own.widen ho10 (by omega) (by omega)) (Own.widen ho12 (by omega) (by omega)) (Own.widen ho14 (by omega) (by omega)) (Own.widen ho16 (by omega) (by omega))⟩

set_option maxRecDepth 20000 in
theorem markNodeS (vxs : Value) (lo hi : Nat) (fp : List Nat) (xs : List Node) (k : Nat) (w : World) (gxs : OwF w lo hi vxs xs fp) (hhi : hi ≤ w.heap.size) (hb : k + 4 * Xu Xr xs ≤ 1099511627776) : CtR Tryz.prog 70 [vxs, .int .i64 ((k : Nat) : Int)] w lo hi (fun v w' => v = .int .i64 (((X7 X6) k xs : Nat) : Int) ∧ OwF w' lo hi vxs ((markA X6 markN1) k xs) fp ∧ Kq w w' fp) := by
 have hxs : OwK w fp w lo hi vxs xs := ⟨gxs, Kq.refl _ _⟩
 have hmx : xs.length ≤ maxLen := hxs.rd.1.1
 unfold maxLen at hmx
 refine ctR_of Tryz.func70 Z Tryz.ntmps70 Z ?_
 refine Q7 [(0, vxs), (1, .int .i64 ((k : Nat) : Int))] ⟨Z, Z, trivial⟩ ?_
 have E : ModR w w lo hi := ModR.refl w lo hi
 refine Qf (Qh [true] Z Z (Qa (Qg Z) Z (Qd (Qf (Qf (Qh [true] Z Z (Qa (Qg Z) Z (Qd (Qy (Yh (fun (xq : Nat × Nat) => let ⟨i, q⟩ := xq; [(0, vxs), (1, .int .i64 ((q : Nat) : Int)), (4, .int .i64 0), (5, .int .i64 ((i : Nat) : Int))]) (fun (xq : Nat × Nat) w' => let ⟨i, q⟩ := xq; ModR w w' lo hi ∧ w.heap.size ≤ w'.heap.size ∧ i ≤ xs.length ∧ q = (X7 X6) k (xs.take i) ∧ OwK w fp w' lo hi vxs ((markA X6 markN1) k (xs.take i) ++ xs.drop i)) (fun (xq : Nat × Nat) => let ⟨i, q⟩ := xq; xs.length - i) (0, k) ⟨Z, Z, Z, Z, trivial⟩ ⟨E, Nat.le_refl _, Nat.zero_le _, Z, (by simpa [markA] using hxs)⟩ ?_))))))))))
 clear E hxs
 rintro ⟨i, q⟩ w1 ⟨E, z1, hi0, hq, hxs⟩
 refine Q7 [(0, vxs), (1, .int .i64 ((q : Nat) : Int)), (4, .int .i64 0), (5, .int .i64 ((i : Nat) : Int))] ⟨Z, Z, Z, Z, trivial⟩ ?_
 refine Qf (Qf (Qh [true, true, true, true] Z Z (Qa (Qe Z) Z (Qa (Qe Z) Z (Qa (Q4 Tryz.underlying32 Z (OwK.lenE (n := xs.length) hxs (by simp [markA_length]; omega))) Z (Qa (Yb Z Z) Z (Qd (Qu Z (fun hc1 => ?_) (fun hc1 => ?_)))))))))
 ·have hlt : i < xs.length := by have h := of_decide_eq_true hc1; omega
  rw [drop_split hlt] at hxs
  obtain ⟨_, ho1, hrow⟩ := OwK.focus hxs
  obtain ⟨o1, rfl, sp1, hw1⟩ := Node.opO ho1
  clear hxs
  have hl0 : ((markA X6 markN1) k (xs.take i)).length = i := by rw [markA_length]; simp; omega
  have hn0 : i + 1 + (xs.drop (i + 1)).length = xs.length := by simp; omega
  have hqk := numA_le (k := k) numN1_bd hlt; rw [← hq] at hqk; unfold X6 at hqk
  have hc1n : i < xs.length := by first | (have h := of_decide_eq_true hc1; omega) | (have h := hc1; simp at h; omega)
  refine Qp (Qf (Qy (Qf (Qh [true, true, true, true, true, false] Z Z (Qa (Qe Z) Z (Qa (Qe Z) Z (Qa (Qe Z) Z (Qa (Qv (i := i) sl32 Z Z (RowK.same1 hrow hl0 hn0) (by simp; omega)) Z (Qa (Qz Y3 Z) Z ?_)))))))))
  have hq1 := RowK.sep hrow (u := o1) (by simp)
  have hqb := RowK.blk hrow
  refine Ke (i := i) (f := 0) (cs' := [.int .i64 ((q : Nat) : Int), .int .i64 ((xs[i]'hlt).a), .int .i64 ((xs[i]'hlt).b), o1]) Yk Z Z Z Z hrow hl0 (by decide) Z Z (fun w2 m1 hrow' => ?_)
  replace hrow := hrow'
  replace E := E.mod m1 (fun g hg => by have := hqb g hg; omega); replace hw1 := Own.modS hw1 m1 hq1
  have z2 := m1.size
  clear hqb hq1
  refine Qd (Qf (Qh [true, true, true] Z Z (Qa (Qe Z) Z (Qa (Q8 Z Z (Yc (by unfold maxLen; omega))) Z (Qa (Qg Z) Z (Qd (Qf (Qh [true, true, true, true, true, false] Z Z (Qa (Qe Z) Z (Qa (Qe Z) Z (Qa (Qe Z) Z (Qa (Qv (i := i) sl32 Z Z (RowK.same1 hrow hl0 hn0) (by simp; omega)) Z (Qa (Qz Xq Z) Z ?_)))))))))))))
  have hq2 := RowK.sep hrow (u := o1) (by simp)
  have hqb := RowK.blk hrow
  refine Ke (i := i) (f := 1) (cs' := [.int .i64 ((q : Nat) : Int), .int .i64 ((q + 1 : Nat) : Int), .int .i64 ((xs[i]'hlt).b), o1]) Yk Z Z Z Z hrow hl0 (by decide) Z Z (fun w3 m2 hrow' => ?_)
  replace hrow := hrow'
  replace E := E.mod m2 (fun g hg => by have := hqb g hg; omega); replace hw1 := Own.modS hw1 m2 hq2
  have z3 := m2.size
  clear hqb hq2
  refine Qd (Qf (Qh [true, true, true] Z Z (Qa (Qe Z) Z (Qa (Q8 Z Z (Yc (by unfold maxLen; omega))) Z (Qa (Qg Z) Z (Qd (Qf (Qh [true, true, true, true, true, false] Z Z (Qa (Qe Z) Z (Qa (Qe Z) Z (Qa (Qe Z) Z (Qa (Qv (i := i) sl32 Z Z (RowK.same1 hrow hl0 hn0) (by simp; omega)) Z (Qa (Qz X8 Z) Z ?_)))))))))))))
  have hq3 := RowK.sep hrow (u := o1) (by simp)
  have hqb := RowK.blk hrow
  refine Ke (i := i) (f := 2) (cs' := [.int .i64 ((q : Nat) : Int), .int .i64 ((q + 1 : Nat) : Int), .int .i64 ((q + 1 + 1 : Nat) : Int), o1]) Yk Z Z Z Z hrow hl0 (by decide) Z Z (fun w4 m3 hrow' => ?_)
  replace hrow := hrow'
  replace E := E.mod m3 (fun g hg => by have := hqb g hg; omega); replace hw1 := Own.modS hw1 m3 hq3
  have z4 := m3.size
  clear hqb hq3
  refine Qd (Qf (Qh [true, true, true] Z Z (Qa (Qe Z) Z (Qa (Q8 Z Z (Yc (by unfold maxLen; omega))) Z (Qa (Qg Z) Z (Qd (Qh [true, true, true, true, true, true, false, true] Z Z (Qa (Qe Z) Z (Qa (Qe Z) Z (Qa (Qv (i := i) sl32 Z Z (RowK.same1 hrow hl0 hn0) (by simp; omega)) Z (Qa (Qz Q6 Z) Z (Qa (Qi Yy Z ((RowK.at hrow hl0).one 3 Z)) Z (Qa (Qe Z) Z (Xs Tryz.call73 Z Z (markIntS o1 (bl o1) (bh o1) ((xs[i]'hlt).outs) (q + 1 + 1 + 1) _ (Own.tight hw1) (by first | omega | (simp only [Qj]; omega) | (rw [Qj]; done) | (simp only [Qj]; done))) Z (fun _ w5 e1 hv => ?_)))))))))))))))
  obtain ⟨rfl, hw1'⟩ := hv
  have e1c := ModR.loose e1 (Own.blk hw1)
  replace hw1 := Own.loose hw1' (Own.blk hw1)
  clear hw1'
  replace E := E.trans e1c (by omega) (by omega); replace hrow := RowK.modRS hrow e1 (by simp)
  have z5 := e1c.size
  refine Qa (Qg Z) Z (Qd (Q5 (Yt (Qh [true, true, true] Z Z (Qa (Qe Z) Z (Qa (Q8 Z Z (Yc (by unfold maxLen; omega))) Z (Qa (Qg Z) Z (Qd ?_))))))))
  have hxs := RowK.close hrow (Node.mkO (⟨((q : Nat) : Int), ((q + 1 : Nat) : Int), ((q + 1 + 1 : Nat) : Int), mkL 1 mkInt (q + 1 + 1 + 1) ((xs[i]'hlt).outs).length⟩ : Node) sp1 (Own.widen hw1 (by omega) (by omega)))
  refine Q5 (Q9 (i + 1, (q + 1 + 1 + 1) + 1 * ((xs[i]'hlt).outs).length) (by simp; omega) ⟨Z, Z, Z, Z, trivial⟩ ⟨E, (by omega), (by omega), (by rw [numA_take hlt, ← hq]; rfl), (by rw [markA_take hlt, ← hq]; exact hxs)⟩)
 ·have hc1n : ¬ i < xs.length := by first | (have h := of_decide_eq_false hc1; omega) | (have h := hc1; simp at h; omega)
  refine Yi (Q3 (Q2 ?_))
  refine Qf (Qh [true, true] Z Z (Qa (Qe Z) Z (Qa (Qg Z) Z (Qd (Qw (Qm Z Z E ?_))))))
  have hi9 : xs.length ≤ i := by have h := of_decide_eq_false hc1; omega
  rw [List.take_of_length_le hi9] at hq hxs
  rw [List.drop_of_length_le hi9, List.append_nil] at hxs
  exact ⟨by rw [hq], hxs.1, hxs.2⟩

set_option maxRecDepth 20000 in
theorem markGraph (ox : Value) (lo hi : Nat) (fp : List Nat) (x : Graph) (k : Nat) (w : World) (hx : OwF w lo hi ox x.nodes fp) (hhi : hi ≤ w.heap.size) (hb : k + 4 * Y6 x ≤ 1099511627776) : CtR Tryz.prog 34 [.agg [ox, .int .i64 x.workers, .int .i64 x.cap].toArray, .int .i64 ((k : Nat) : Int)] w lo hi (fun v w' => v = .int .i64 ((X7 X6 k x.nodes : Nat) : Int) ∧ OwF w' lo hi ox (markA X6 markN1 k x.nodes) fp ∧ Kq w w' fp) := by
 unfold Y6 at hb
 refine ctR_of Tryz.func34 Z Tryz.ntmps34 Z ?_
 refine Q7 [(0, .agg [ox, .int .i64 x.workers, .int .i64 x.cap].toArray), (1, .int .i64 ((k : Nat) : Int))] ⟨Z, Z, trivial⟩ ?_
 have E : ModR w w lo hi := ModR.refl w lo hi
 refine Qf (Qh [false, true] Z Z (Yx Z Z (fun b1 w1 e1 s1 h1 => ?_)))
 have g_b1 : w.heap.size ≤ b1 := by have := E.size; omega
 have y_b1 := h1.lt
 replace E := E.ext e1; replace hx := hx.ext e1
 have z1 := e1.size
 refine Qa (Qg Z) Z (Qd (Qf (Qh [true, true, true, false, true] Z Z (Qa (Qb Xp Z) Z (Qa (Qi sc32 Z (h1.one 0 Z)) Z (Qa (Qe Z) Z (Xs Tryz.call70 Z Z (markNodeS ox lo hi fp x.nodes k _ hx (by omega) (by first | omega | (simp only [Qj]; omega) | (rw [Qj]; done) | (simp only [Qj]; done))) Z (fun _ w2 e2 hv => ?_))))))))
 obtain ⟨rfl, hx', kq1⟩ := hv
 replace hx := hx'
 replace E := E.trans e2 (by omega) (by omega); replace h1 := h1.modR e2 (by omega)
 have z2 := e2.size
 refine Qa (Qg Z) Z (Qd (Qf (Qh [true, true] Z Z (Qa (Qe Z) Z (Qa (Qg Z) Z (Qd (Qw (Qm Z Z E ?_))))))))
 exact ⟨Z, hx, (by first | exact kq1 | exact Kq.trans (Ext.kq e1 _) kq1)⟩

set_option maxRecDepth 20000 in
theorem c_toToken (x : Token) (w : World)  : Ct Tryz.prog 56 [.agg (Enc.enc x).toArray] w (fun v _ => v = .agg (Enc.enc x).toArray) := by
 refine Yj Tryz.func56 Z Tryz.ntmps56 Z ?_
 refine Q7 [(0, .agg (Enc.enc x).toArray)] ⟨Z, trivial⟩ ?_
 have E : Ext w w := Ext.refl w
 refine Qf (Qh [false, false] Z Z (Yx Z Z (fun b1 w1 e1 s1 h1 => ?_)))
 have g_b1 : w.heap.size ≤ b1 := by have := E.size; omega
 have y_b1 := h1.lt
 replace E := E.trans e1
 have z1 := e1.size
 refine Yu st110 Z (fun b2 w2 e2 s2 h2 => ?_)
 have g_b2 : w.heap.size ≤ b2 := by have := E.size; omega
 have y_b2 := h2.lt
 replace E := E.trans e2; replace h1 := h1.ext e2
 have z2 := e2.size
 refine Qd (Qf (Qh [false] Z Z (Yu st110 Z (fun b3 w3 e3 s3 h3 => ?_))))
 have g_b3 : w.heap.size ≤ b3 := by have := E.size; omega
 have y_b3 := h3.lt
 replace E := E.trans e3; replace h1 := h1.ext e3; replace h2 := h2.ext e3
 have z3 := e3.size
 refine Qd (Qf (Qh [true, true, true, false] Z Z (Qa (Qb fl112_0 Z) Z (Qa (Qi sc4 Z (h1.one 0 Z)) Z (Qa (Qb fl110_0 Z) Z (Ye (cs' := [.bool x.going, .int .i64 0, .int .i64 0, .bool false, .bool false]) sc4 Z Z Z h3 (Nat.le_of_ble_eq_true Z) Z (fun w4 m1 h3' => ?_)))))))
 replace h3 := h3'
 replace E := E.step m1 (fun g hg => by cases hg; omega); replace h1 := h1.mod m1 (fun g hg => by cases hg; omega); replace h2 := h2.mod m1 (fun g hg => by cases hg; omega)
 have z4 := m1.size
 refine Qd (Qf (Qh [true, true, true, false] Z Z (Qa (Qb fl112_1 Z) Z (Qa (Qi Yk Z (h1.one 1 Z)) Z (Qa (Qb fl110_1 Z) Z (Ye (cs' := [.bool x.going, .int .i64 x.place, .int .i64 0, .bool false, .bool false]) Yk Z Z Z h3 (Nat.le_of_ble_eq_true Z) Z (fun w5 m2 h3' => ?_)))))))
 replace h3 := h3'
 replace E := E.step m2 (fun g hg => by cases hg; omega); replace h1 := h1.mod m2 (fun g hg => by cases hg; omega); replace h2 := h2.mod m2 (fun g hg => by cases hg; omega)
 have z5 := m2.size
 refine Qd (Qf (Qh [true, true, true, false] Z Z (Qa (Qb fl112_2 Z) Z (Qa (Qi Yk Z (h1.one 2 Z)) Z (Qa (Qb fl110_2 Z) Z (Ye (cs' := [.bool x.going, .int .i64 x.place, .int .i64 x.sum, .bool false, .bool false]) Yk Z Z Z h3 (Nat.le_of_ble_eq_true Z) Z (fun w6 m3 h3' => ?_)))))))
 replace h3 := h3'
 replace E := E.step m3 (fun g hg => by cases hg; omega); replace h1 := h1.mod m3 (fun g hg => by cases hg; omega); replace h2 := h2.mod m3 (fun g hg => by cases hg; omega)
 have z6 := m3.size
 refine Qd (Qf (Qh [true, true, true, false] Z Z (Qa (Qb fl112_3 Z) Z (Qa (Qi sc4 Z (h1.one 3 Z)) Z (Qa (Qb fl110_3 Z) Z (Ye (cs' := [.bool x.going, .int .i64 x.place, .int .i64 x.sum, .bool x.black, .bool false]) sc4 Z Z Z h3 (Nat.le_of_ble_eq_true Z) Z (fun w7 m4 h3' => ?_)))))))
 replace h3 := h3'
 replace E := E.step m4 (fun g hg => by cases hg; omega); replace h1 := h1.mod m4 (fun g hg => by cases hg; omega); replace h2 := h2.mod m4 (fun g hg => by cases hg; omega)
 have z7 := m4.size
 refine Qd (Qf (Qh [true, true, true, false] Z Z (Qa (Qb fl112_4 Z) Z (Qa (Qi sc4 Z (h1.one 4 Z)) Z (Qa (Qb fl110_4 Z) Z (Ye (cs' := [.bool x.going, .int .i64 x.place, .int .i64 x.sum, .bool x.black, .bool x.capped]) sc4 Z Z Z h3 (Nat.le_of_ble_eq_true Z) Z (fun w8 m5 h3' => ?_)))))))
 replace h3 := h3'
 replace E := E.step m5 (fun g hg => by cases hg; omega); replace h1 := h1.mod m5 (fun g hg => by cases hg; omega); replace h2 := h2.mod m5 (fun g hg => by cases hg; omega)
 have z8 := m5.size
 refine Qd (Qf (Qh [true, false] Z Z (Qa (Q1 st110 Z h3.at Z) Z (Ya (cs' := [.bool x.going, .int .i64 x.place, .int .i64 x.sum, .bool x.black, .bool x.capped]) st110 Z Z Z Z h2 (Nat.le_of_ble_eq_true Z) Z (fun w9 m6 h2' => ?_)))))
 replace h2 := h2'
 replace E := E.step m6 (fun g hg => by cases hg; omega); replace h1 := h1.mod m6 (fun g hg => by cases hg; omega); replace h3 := h3.mod m6 (fun g hg => by cases hg; omega)
 have z9 := m6.size
 refine Qd (Qw (Xi Z Z (Ys st110 h2.at Z) E ?_))
 rfl

set_option maxRecDepth 20000 in
theorem c_eqToken (x : Token) (y : Token) (w : World)  : Ct Tryz.prog 68 [.agg (Enc.enc x).toArray, .agg (Enc.enc y).toArray] w (fun v _ => v = .bool (decide (x = y))) := by
 refine Yj Tryz.func68 Z Tryz.ntmps68 Z ?_
 refine Q7 [(0, .agg (Enc.enc x).toArray), (1, .agg (Enc.enc y).toArray)] ⟨Z, Z, trivial⟩ ?_
 have E : Ext w w := Ext.refl w
 refine Qf (Qh [false, false, true] Z Z (Yx Z Z (fun b1 w1 e1 s1 h1 => ?_)))
 have g_b1 : w.heap.size ≤ b1 := by have := E.size; omega
 have y_b1 := h1.lt
 replace E := E.trans e1
 have z1 := e1.size
 refine Yx Z Z (fun b2 w2 e2 s2 h2 => ?_)
 have g_b2 : w.heap.size ≤ b2 := by have := E.size; omega
 have y_b2 := h2.lt
 replace E := E.trans e2; replace h1 := h1.ext e2
 have z2 := e2.size
 refine Qa (Qg Z) Z (Qd (Qf (Qf (Qh [true, true, true, true, true] Z Z (Qa (Qb fl110_0 Z) Z (Qa (Qi sc4 Z (h1.one 0 Z)) Z (Qa (Qb fl110_0 Z) Z (Qa (Qi sc4 Z (h2.one 0 Z)) Z (Qa (Ki (Tryz.underlying4) Z Z) Z (Qd (Qu Z (fun hc1 => ?_) (fun hc1 => ?_))))))))))))
 ·refine Qf (Qh [true] Z Z (Qa (Qg Z) Z (Qd (Qw (Qm Z Z E ?_)))))
  cases x; cases y; simp_all
 ·refine Qp (Qf (Qf (Qh [true, true, true, true, true] Z Z (Qa (Qb fl110_1 Z) Z (Qa (Qi Yk Z (h1.one 1 Z)) Z (Qa (Qb fl110_1 Z) Z (Qa (Qi Yk Z (h2.one 1 Z)) Z (Qa (Yr Z Z) Z (Qd (Qu Z (fun hc2 => ?_) (fun hc2 => ?_)))))))))))
  ·refine Qf (Qh [true] Z Z (Qa (Qg Z) Z (Qd (Qw (Qm Z Z E ?_)))))
   cases x; cases y; simp_all
  ·refine Qp (Qf (Qf (Qh [true, true, true, true, true] Z Z (Qa (Qb fl110_2 Z) Z (Qa (Qi Yk Z (h1.one 2 Z)) Z (Qa (Qb fl110_2 Z) Z (Qa (Qi Yk Z (h2.one 2 Z)) Z (Qa (Yr Z Z) Z (Qd (Qu Z (fun hc3 => ?_) (fun hc3 => ?_)))))))))))
   ·refine Qf (Qh [true] Z Z (Qa (Qg Z) Z (Qd (Qw (Qm Z Z E ?_)))))
    cases x; cases y; simp_all
   ·refine Qp (Qf (Qf (Qh [true, true, true, true, true] Z Z (Qa (Qb fl110_3 Z) Z (Qa (Qi sc4 Z (h1.one 3 Z)) Z (Qa (Qb fl110_3 Z) Z (Qa (Qi sc4 Z (h2.one 3 Z)) Z (Qa (Ki (Tryz.underlying4) Z Z) Z (Qd (Qu Z (fun hc4 => ?_) (fun hc4 => ?_)))))))))))
    ·refine Qf (Qh [true] Z Z (Qa (Qg Z) Z (Qd (Qw (Qm Z Z E ?_)))))
     cases x; cases y; simp_all
    ·refine Qp (Qf (Qf (Qh [true, true, true, true, true] Z Z (Qa (Qb fl110_4 Z) Z (Qa (Qi sc4 Z (h1.one 4 Z)) Z (Qa (Qb fl110_4 Z) Z (Qa (Qi sc4 Z (h2.one 4 Z)) Z (Qa (Ki (Tryz.underlying4) Z Z) Z (Qd (Qu Z (fun hc5 => ?_) (fun hc5 => ?_)))))))))))
     ·refine Qf (Qh [true] Z Z (Qa (Qg Z) Z (Qd (Qw (Qm Z Z E ?_)))))
      cases x; cases y; simp_all
     ·refine Qp (Qf (Qh [true] Z Z (Qa (Qg Z) Z (Qd (Qw (Qm Z Z E ?_))))))
      cases x; cases y; simp_all

set_option maxRecDepth 20000 in
theorem c_szTokenS (vxs : Value) (xs : List Token) (n : Int) (w : World) (hxs : RdS w vxs xs) (h0 : 0 ≤ n ∧ n ≤ 1048576) : Ct Tryz.prog 17 [vxs, .int .i64 n] w (fun v _ => v = .int .i64 (Kh xs.length n)) := by
 refine Yj Tryz.func17 Z Tryz.ntmps17 Z ?_
 refine Q7 [(0, vxs), (1, .int .i64 n)] ⟨Z, Z, trivial⟩ ?_
 have E : Ext w w := Ext.refl w
 refine Qf (Qh [true] Z Z (Qa (Qg Z) Z (Qd (Qf (Qh [true, true, true, true, true] Z Z (Qa (Qe Z) Z (Qa (Qe Z) Z (Qa (Q4 Tryz.underlying27 Z (hxs.ext E).len) Z (Qa (Ka Z Z Z) Z (Qa (Qg Z) Z (Qd (Qf (Qf (Qh [true, true] Z Z (Qa (Qe Z) Z (Qa (Yb Z Z) Z (Qd (Qu Z (fun hc1 => ?_) (fun hc1 => ?_)))))))))))))))))))
 ·refine Qf (Qh [true] Z Z (Qa (Qg Z) Z (Qd (Qw (Qm Z Z E ?_)))))
  exact sz_no h0.2 h0.1 hxs.1 hc1
 ·refine Qp (Qf (Qh [true, true] Z Z (Qa (Qe Z) Z (Qa (Qg Z) Z (Qd (Qw (Qm Z Z E ?_)))))))
  exact sz_yes h0.2 h0.1 hxs.1 hc1

set_option maxRecDepth 20000 in
theorem c_toTokenS (vxs : Value) (xs : List Token) (w : World) (hxs : RdS w vxs xs) (hb : xs.length ≤ 1048576) : Ct Tryz.prog 24 [vxs] w (fun v w' => Own w' w.heap.size w'.heap.size 5 v (List.flatMap (Enc.enc (α := Token)) xs)) := by
 refine Yj Tryz.func24 Z Tryz.ntmps24 Z ?_
 refine Q7 [(0, vxs)] ⟨Z, trivial⟩ ?_
 have E : Ext w w := Ext.refl w
 refine Qf (Qh [true] Z Z (Qa (Qg Z) Z (Qd (Qf (Qh [true, true, false, true] Z Z (Qa (Qe Z) Z (Qa (Q4 Tryz.underlying27 Z (hxs.ext E).len) Z (J_make (m := xs.length) sl37 Z Z (by omega) (by decide) Z (fun b1 w1 e1 s1 h1 => ?_)))))))))
 have g_b1 : w.heap.size ≤ b1 := by have := E.size; omega
 have y_b1 := h1.lt
 replace E := E.trans e1
 have z1 := e1.size
 refine Qa (Qg Z) Z (Qd (Qf (Qf (Qh [true] Z Z (Qa (Qg Z) Z (Qd (Qy (Yh (fun (k : Nat) => [(0, vxs), (2, .slice none 0 0), (3, .slice (some ⟨b1, 0, none⟩) xs.length xs.length), (4, .int .i64 ((k : Nat) : Int))]) (fun (k : Nat) w' => Ext w w' ∧ w1.heap.size ≤ w'.heap.size ∧ k ≤ xs.length ∧ Blk w' b1 (mk xs [.bool false, .int .i64 0, .int .i64 0, .bool false, .bool false] k xs.length)) (fun (k : Nat) => xs.length - k) 0 ⟨Z, Z, Z, Z, trivial⟩ ⟨E, Nat.le_refl _, Nat.zero_le _, (mk_zero xs [.bool false, .int .i64 0, .int .i64 0, .bool false, .bool false] xs.length) ▸ h1⟩ ?_))))))))
 clear E h1
 rintro k w2 ⟨E, z2, hk, h1⟩
 refine Qf (Qf (Qh [true, true, true, true] Z Z (Qa (Qe Z) Z (Qa (Qe Z) Z (Qa (Q4 Tryz.underlying27 Z (hxs.ext E).len) Z (Qa (Yb Z Z) Z (Qd (Qu Z (fun hc1 => ?_) (fun hc1 => ?_)))))))))
 ·have hc1n : k < xs.length := by first | (have h := of_decide_eq_true hc1; omega) | (have h := hc1; simp at h; omega)
  refine Qp (Qf (Qy (Qh [true, true, true, true, true, true, false, true, false] Z Z (Qa (Qe Z) Z (Qa (Qe Z) Z (Qa (Qe Z) Z (Qa (Qe Z) Z ?_)))))))
  have hi1 : k < xs.length := (by first | assumption | omega | (simp only [List.length_set]; first | assumption | omega))
  refine Qa (Qv (i := k) sl27 Z Z (hxs.ext E) hi1) Z (Qa (Q1 st112 Z ((hxs.ext E).get hi1) Z) Z (Q0 Tryz.call56 Z (c_toToken (xs[k]'hi1) _ ) Z (fun _ w3 e2 hv => ?_)))
  subst hv
  replace E := E.trans e2; replace h1 := h1.ext e2
  have z3 := e2.size
  refine Qa (R_indexB sl37 Z Z (by first | assumption | omega | (simp only [List.length_set]; first | assumption | omega))) Z (Ya (cs' := mk xs [.bool false, .int .i64 0, .int .i64 0, .bool false, .bool false] (k + 1) xs.length) st110 Z Z Z Z h1 (mk_room xs [.bool false, .int .i64 0, .int .i64 0, .bool false, .bool false] Z hc1n hc1n (by rfl)) (mk_step xs [.bool false, .int .i64 0, .int .i64 0, .bool false, .bool false] Z hc1n hc1n) (fun w4 m1 h1' => ?_))
  replace h1 := h1'
  replace E := E.step m1 (fun g hg => by cases hg; omega)
  have z4 := m1.size
  refine Qd (Q5 (Yt (Qh [true, true, true] Z Z (Qa (Qe Z) Z (Qa (Q8 Z Z (Yq hc1n hxs.1)) Z (Qa (Qg Z) Z (Qd (Q5 (Q9 (k + 1) (by omega) ⟨Z, Z, Z, Z, trivial⟩ ⟨E, (by omega), (by omega), h1⟩)))))))))
 ·have hc1n : ¬ k < xs.length := by first | (have h := of_decide_eq_false hc1; omega) | (have h := hc1; simp at h; omega)
  refine Yi (Q3 (Q2 ?_))
  refine Qf (Qh [true, true] Z Z (Qa (Qe Z) Z (Qa (Qg Z) Z (Qd (Qw (Qm Z Z E ?_))))))
  obtain rfl : k = xs.length := by omega
  rw [mk_all] at h1
  exact Own.ofBlk h1 (by omega) (by have := h1.lt; omega) (Y0 xs) hxs.1

set_option maxRecDepth 20000 in
theorem c_eqTokenS (vxs : Value) (xs : List Token) (vys : Value) (ys : List Token) (w : World) (hxs : RdS w vxs xs) (hys : RdS w vys ys) : Ct Tryz.prog 32 [vxs, vys] w (fun v _ => v = .bool (decide (xs = ys))) := by
 refine Yj Tryz.func32 Z Tryz.ntmps32 Z ?_
 refine Q7 [(0, vxs), (1, vys)] ⟨Z, Z, trivial⟩ ?_
 have E : Ext w w := Ext.refl w
 refine Qf (Qh [true] Z Z (Qa (Qg Z) Z (Qd (Qf (Qf (Qh [true, true, true, true, true] Z Z (Qa (Qe Z) Z (Qa (Q4 Tryz.underlying37 Z (hxs.ext E).len) Z (Qa (Qe Z) Z (Qa (Q4 Tryz.underlying37 Z (hys.ext E).len) Z (Qa (Yr Z Z) Z (Qd (Qu Z (fun hc1 => ?_) (fun hc1 => ?_))))))))))))))
 ·have hc1n : ¬ xs.length = ys.length := by first | (have h := of_decide_eq_true hc1; omega) | (have h := hc1; simp at h; omega)
  refine Qf (Qh [true] Z Z (Qa (Qg Z) Z (Qd (Qw (Qm Z Z E ?_)))))
  simp [eq_len hc1n]
 ·have hc1n : xs.length = ys.length := by first | (have h := of_decide_eq_false hc1; omega) | (have h := hc1; simp at h; omega)
  refine Qp (Qf (Qf (Qh [true] Z Z (Qa (Qg Z) Z (Qd (Qy (Yh (fun (k : Nat) => [(0, vxs), (1, vys), (4, .bool false), (5, .int .i64 ((k : Nat) : Int))]) (fun (k : Nat) w' => Ext w w' ∧ w.heap.size ≤ w'.heap.size ∧ k ≤ xs.length ∧ xs.take k = ys.take k) (fun (k : Nat) => xs.length - k) 0 ⟨Z, Z, Z, Z, trivial⟩ ⟨E, Nat.le_refl _, Nat.zero_le _, Z⟩ ?_)))))))
  clear E
  rintro k w1 ⟨E, z1, hk, hp⟩
  refine Qf (Qf (Qh [true, true, true, true] Z Z (Qa (Qe Z) Z (Qa (Qe Z) Z (Qa (Q4 Tryz.underlying37 Z (hxs.ext E).len) Z (Qa (Yb Z Z) Z (Qd (Qu Z (fun hc2 => ?_) (fun hc2 => ?_)))))))))
  ·have hc2n : k < xs.length := by first | (have h := of_decide_eq_true hc2; omega) | (have h := hc2; simp at h; omega)
   refine Qp (Qf (Qy (Qf (Y7 Y8 [(0, true), (1, true), (2, true), (3, true), (4, true), (5, true), (6, true), (7, true), (8, false), (9, true)] (by decide +kernel) Z (fun w2 e1 => ?_)))))
   replace E := E.trans e1
   have z2 := e1.size
   refine Qa (Qe Z) Z (Qa (Qe Z) Z ?_)
   have hi1 : k < xs.length := (by first | assumption | omega | (simp only [List.length_set]; first | assumption | omega))
   refine Qa (Qv (i := k) sl37 Z Z (hxs.ext E) hi1) Z (Qa (Q1 st110 Z ((hxs.ext E).get hi1) Z) Z (Qa (Qe Z) Z (Qa (Qe Z) Z ?_)))
   have hi2 : k < ys.length := (by first | assumption | omega | (simp only [List.length_set]; first | assumption | omega))
   refine Qa (Qv (i := k) sl37 Z Z (hys.ext E) hi2) Z (Qa (Q1 st110 Z ((hys.ext E).get hi2) Z) Z (Q0 Tryz.call68 Z (c_eqToken (xs[k]'hi1) (ys[k]'hi2) _ ) Z (fun _ w3 e2 hv => ?_)))
   subst hv
   replace E := E.trans e2
   have z3 := e2.size
   refine Qa (Yn Z) Z (Qd (Qu Z (fun hc3 => ?_) (fun hc3 => ?_)))
   ·refine Qf (Qh [true] Z Z (Qa (Qg Z) Z (Qd (Qw (Qx (Yg (Qx (Qm Z Z E ?_))))))))
    exact eqS_no (by omega) (by omega) (by simpa using hc3)
   ·refine Qp (Q5 (Yt (Qh [true, true, true] Z Z (Qa (Qe Z) Z (Qa (Q8 Z Z (Yq hc2n hxs.1)) Z (Qa (Qg Z) Z (Qd (Q5 (Q9 (k + 1) (by omega) ⟨Z, Z, Z, Z, trivial⟩ ⟨E, (by omega), (by omega), eqS_step hp (by assumption) (by omega) (by simpa using hc3)⟩)))))))))
  ·have hc2n : ¬ k < xs.length := by first | (have h := of_decide_eq_false hc2; omega) | (have h := hc2; simp at h; omega)
   refine Yi (Q3 (Q2 ?_))
   refine Qf (Qh [true] Z Z (Qa (Qg Z) Z (Qd (Qw (Qm Z Z E ?_)))))
   exact eqS_yes hp hc1n (by omega)

set_option maxRecDepth 20000 in
theorem c_toNews (x : News) (w : World)  : Ct Tryz.prog 57 [.agg (Enc.enc x).toArray] w (fun v _ => v = .agg (Enc.enc x).toArray) := by
 refine Yj Tryz.func57 Z Tryz.ntmps57 Z ?_
 refine Q7 [(0, .agg (Enc.enc x).toArray)] ⟨Z, trivial⟩ ?_
 have E : Ext w w := Ext.refl w
 refine Qf (Qh [false, false] Z Z (Yx Z Z (fun b1 w1 e1 s1 h1 => ?_)))
 have g_b1 : w.heap.size ≤ b1 := by have := E.size; omega
 have y_b1 := h1.lt
 replace E := E.trans e1
 have z1 := e1.size
 refine Yu st114 Z (fun b2 w2 e2 s2 h2 => ?_)
 have g_b2 : w.heap.size ≤ b2 := by have := E.size; omega
 have y_b2 := h2.lt
 replace E := E.trans e2; replace h1 := h1.ext e2
 have z2 := e2.size
 refine Qd (Qf (Qh [false] Z Z (Yu st114 Z (fun b3 w3 e3 s3 h3 => ?_))))
 have g_b3 : w.heap.size ≤ b3 := by have := E.size; omega
 have y_b3 := h3.lt
 replace E := E.trans e3; replace h1 := h1.ext e3; replace h2 := h2.ext e3
 have z3 := e3.size
 refine Qd (Qf (Qh [true, true, true, false] Z Z (Qa (Qb fl116_0 Z) Z (Qa (Qi Yk Z (h1.one 0 Z)) Z (Qa (Qb fl114_0 Z) Z (Ye (cs' := [.int .i64 x.dest, .int .i64 0, .bool false]) Yk Z Z Z h3 (Nat.le_of_ble_eq_true Z) Z (fun w4 m1 h3' => ?_)))))))
 replace h3 := h3'
 replace E := E.step m1 (fun g hg => by cases hg; omega); replace h1 := h1.mod m1 (fun g hg => by cases hg; omega); replace h2 := h2.mod m1 (fun g hg => by cases hg; omega)
 have z4 := m1.size
 refine Qd (Qf (Qh [true, true, true, false] Z Z (Qa (Qb fl116_1 Z) Z (Qa (Qi Yk Z (h1.one 1 Z)) Z (Qa (Qb fl114_1 Z) Z (Ye (cs' := [.int .i64 x.dest, .int .i64 x.epoch, .bool false]) Yk Z Z Z h3 (Nat.le_of_ble_eq_true Z) Z (fun w5 m2 h3' => ?_)))))))
 replace h3 := h3'
 replace E := E.step m2 (fun g hg => by cases hg; omega); replace h1 := h1.mod m2 (fun g hg => by cases hg; omega); replace h2 := h2.mod m2 (fun g hg => by cases hg; omega)
 have z5 := m2.size
 refine Qd (Qf (Qh [true, true, true, false] Z Z (Qa (Qb fl116_2 Z) Z (Qa (Qi sc4 Z (h1.one 2 Z)) Z (Qa (Qb fl114_2 Z) Z (Ye (cs' := [.int .i64 x.dest, .int .i64 x.epoch, .bool x.capped]) sc4 Z Z Z h3 (Nat.le_of_ble_eq_true Z) Z (fun w6 m3 h3' => ?_)))))))
 replace h3 := h3'
 replace E := E.step m3 (fun g hg => by cases hg; omega); replace h1 := h1.mod m3 (fun g hg => by cases hg; omega); replace h2 := h2.mod m3 (fun g hg => by cases hg; omega)
 have z6 := m3.size
 refine Qd (Qf (Qh [true, false] Z Z (Qa (Q1 st114 Z h3.at Z) Z (Ya (cs' := [.int .i64 x.dest, .int .i64 x.epoch, .bool x.capped]) st114 Z Z Z Z h2 (Nat.le_of_ble_eq_true Z) Z (fun w7 m4 h2' => ?_)))))
 replace h2 := h2'
 replace E := E.step m4 (fun g hg => by cases hg; omega); replace h1 := h1.mod m4 (fun g hg => by cases hg; omega); replace h3 := h3.mod m4 (fun g hg => by cases hg; omega)
 have z7 := m4.size
 refine Qd (Qw (Xi Z Z (Ys st114 h2.at Z) E ?_))
 rfl

set_option maxRecDepth 20000 in
theorem c_eqNews (x : News) (y : News) (w : World)  : Ct Tryz.prog 69 [.agg (Enc.enc x).toArray, .agg (Enc.enc y).toArray] w (fun v _ => v = .bool (decide (x = y))) := by
 refine Yj Tryz.func69 Z Tryz.ntmps69 Z ?_
 refine Q7 [(0, .agg (Enc.enc x).toArray), (1, .agg (Enc.enc y).toArray)] ⟨Z, Z, trivial⟩ ?_
 have E : Ext w w := Ext.refl w
 refine Qf (Qh [false, false, true] Z Z (Yx Z Z (fun b1 w1 e1 s1 h1 => ?_)))
 have g_b1 : w.heap.size ≤ b1 := by have := E.size; omega
 have y_b1 := h1.lt
 replace E := E.trans e1
 have z1 := e1.size
 refine Yx Z Z (fun b2 w2 e2 s2 h2 => ?_)
 have g_b2 : w.heap.size ≤ b2 := by have := E.size; omega
 have y_b2 := h2.lt
 replace E := E.trans e2; replace h1 := h1.ext e2
 have z2 := e2.size
 refine Qa (Qg Z) Z (Qd (Qf (Qf (Qh [true, true, true, true, true] Z Z (Qa (Qb fl114_0 Z) Z (Qa (Qi Yk Z (h1.one 0 Z)) Z (Qa (Qb fl114_0 Z) Z (Qa (Qi Yk Z (h2.one 0 Z)) Z (Qa (Yr Z Z) Z (Qd (Qu Z (fun hc1 => ?_) (fun hc1 => ?_))))))))))))
 ·refine Qf (Qh [true] Z Z (Qa (Qg Z) Z (Qd (Qw (Qm Z Z E ?_)))))
  cases x; cases y; simp_all
 ·refine Qp (Qf (Qf (Qh [true, true, true, true, true] Z Z (Qa (Qb fl114_1 Z) Z (Qa (Qi Yk Z (h1.one 1 Z)) Z (Qa (Qb fl114_1 Z) Z (Qa (Qi Yk Z (h2.one 1 Z)) Z (Qa (Yr Z Z) Z (Qd (Qu Z (fun hc2 => ?_) (fun hc2 => ?_)))))))))))
  ·refine Qf (Qh [true] Z Z (Qa (Qg Z) Z (Qd (Qw (Qm Z Z E ?_)))))
   cases x; cases y; simp_all
  ·refine Qp (Qf (Qf (Qh [true, true, true, true, true] Z Z (Qa (Qb fl114_2 Z) Z (Qa (Qi sc4 Z (h1.one 2 Z)) Z (Qa (Qb fl114_2 Z) Z (Qa (Qi sc4 Z (h2.one 2 Z)) Z (Qa (Ki (Tryz.underlying4) Z Z) Z (Qd (Qu Z (fun hc3 => ?_) (fun hc3 => ?_)))))))))))
   ·refine Qf (Qh [true] Z Z (Qa (Qg Z) Z (Qd (Qw (Qm Z Z E ?_)))))
    cases x; cases y; simp_all
   ·refine Qp (Qf (Qh [true] Z Z (Qa (Qg Z) Z (Qd (Qw (Qm Z Z E ?_))))))
    cases x; cases y; simp_all

set_option maxRecDepth 20000 in
theorem c_szNewsS (vxs : Value) (xs : List News) (n : Int) (w : World) (hxs : RdS w vxs xs) (h0 : 0 ≤ n ∧ n ≤ 1048576) : Ct Tryz.prog 18 [vxs, .int .i64 n] w (fun v _ => v = .int .i64 (Kh xs.length n)) := by
 refine Yj Tryz.func18 Z Tryz.ntmps18 Z ?_
 refine Q7 [(0, vxs), (1, .int .i64 n)] ⟨Z, Z, trivial⟩ ?_
 have E : Ext w w := Ext.refl w
 refine Qf (Qh [true] Z Z (Qa (Qg Z) Z (Qd (Qf (Qh [true, true, true, true, true] Z Z (Qa (Qe Z) Z (Qa (Qe Z) Z (Qa (Q4 Tryz.underlying28 Z (hxs.ext E).len) Z (Qa (Ka Z Z Z) Z (Qa (Qg Z) Z (Qd (Qf (Qf (Qh [true, true] Z Z (Qa (Qe Z) Z (Qa (Yb Z Z) Z (Qd (Qu Z (fun hc1 => ?_) (fun hc1 => ?_)))))))))))))))))))
 ·refine Qf (Qh [true] Z Z (Qa (Qg Z) Z (Qd (Qw (Qm Z Z E ?_)))))
  exact sz_no h0.2 h0.1 hxs.1 hc1
 ·refine Qp (Qf (Qh [true, true] Z Z (Qa (Qe Z) Z (Qa (Qg Z) Z (Qd (Qw (Qm Z Z E ?_)))))))
  exact sz_yes h0.2 h0.1 hxs.1 hc1

set_option maxRecDepth 20000 in
theorem c_toNewsS (vxs : Value) (xs : List News) (w : World) (hxs : RdS w vxs xs) (hb : xs.length ≤ 1048576) : Ct Tryz.prog 25 [vxs] w (fun v w' => Own w' w.heap.size w'.heap.size 3 v (List.flatMap (Enc.enc (α := News)) xs)) := by
 refine Yj Tryz.func25 Z Tryz.ntmps25 Z ?_
 refine Q7 [(0, vxs)] ⟨Z, trivial⟩ ?_
 have E : Ext w w := Ext.refl w
 refine Qf (Qh [true] Z Z (Qa (Qg Z) Z (Qd (Qf (Qh [true, true, false, true] Z Z (Qa (Qe Z) Z (Qa (Q4 Tryz.underlying28 Z (hxs.ext E).len) Z (J_make (m := xs.length) sl38 Z Z (by omega) (by decide) Z (fun b1 w1 e1 s1 h1 => ?_)))))))))
 have g_b1 : w.heap.size ≤ b1 := by have := E.size; omega
 have y_b1 := h1.lt
 replace E := E.trans e1
 have z1 := e1.size
 refine Qa (Qg Z) Z (Qd (Qf (Qf (Qh [true] Z Z (Qa (Qg Z) Z (Qd (Qy (Yh (fun (k : Nat) => [(0, vxs), (2, .slice none 0 0), (3, .slice (some ⟨b1, 0, none⟩) xs.length xs.length), (4, .int .i64 ((k : Nat) : Int))]) (fun (k : Nat) w' => Ext w w' ∧ w1.heap.size ≤ w'.heap.size ∧ k ≤ xs.length ∧ Blk w' b1 (mk xs [.int .i64 0, .int .i64 0, .bool false] k xs.length)) (fun (k : Nat) => xs.length - k) 0 ⟨Z, Z, Z, Z, trivial⟩ ⟨E, Nat.le_refl _, Nat.zero_le _, (mk_zero xs [.int .i64 0, .int .i64 0, .bool false] xs.length) ▸ h1⟩ ?_))))))))
 clear E h1
 rintro k w2 ⟨E, z2, hk, h1⟩
 refine Qf (Qf (Qh [true, true, true, true] Z Z (Qa (Qe Z) Z (Qa (Qe Z) Z (Qa (Q4 Tryz.underlying28 Z (hxs.ext E).len) Z (Qa (Yb Z Z) Z (Qd (Qu Z (fun hc1 => ?_) (fun hc1 => ?_)))))))))
 ·have hc1n : k < xs.length := by first | (have h := of_decide_eq_true hc1; omega) | (have h := hc1; simp at h; omega)
  refine Qp (Qf (Qy (Qh [true, true, true, true, true, true, false, true, false] Z Z (Qa (Qe Z) Z (Qa (Qe Z) Z (Qa (Qe Z) Z (Qa (Qe Z) Z ?_)))))))
  have hi1 : k < xs.length := (by first | assumption | omega | (simp only [List.length_set]; first | assumption | omega))
  refine Qa (Qv (i := k) sl28 Z Z (hxs.ext E) hi1) Z (Qa (Q1 st116 Z ((hxs.ext E).get hi1) Z) Z (Q0 Tryz.call57 Z (c_toNews (xs[k]'hi1) _ ) Z (fun _ w3 e2 hv => ?_)))
  subst hv
  replace E := E.trans e2; replace h1 := h1.ext e2
  have z3 := e2.size
  refine Qa (R_indexB sl38 Z Z (by first | assumption | omega | (simp only [List.length_set]; first | assumption | omega))) Z (Ya (cs' := mk xs [.int .i64 0, .int .i64 0, .bool false] (k + 1) xs.length) st114 Z Z Z Z h1 (mk_room xs [.int .i64 0, .int .i64 0, .bool false] Z hc1n hc1n (by rfl)) (mk_step xs [.int .i64 0, .int .i64 0, .bool false] Z hc1n hc1n) (fun w4 m1 h1' => ?_))
  replace h1 := h1'
  replace E := E.step m1 (fun g hg => by cases hg; omega)
  have z4 := m1.size
  refine Qd (Q5 (Yt (Qh [true, true, true] Z Z (Qa (Qe Z) Z (Qa (Q8 Z Z (Yq hc1n hxs.1)) Z (Qa (Qg Z) Z (Qd (Q5 (Q9 (k + 1) (by omega) ⟨Z, Z, Z, Z, trivial⟩ ⟨E, (by omega), (by omega), h1⟩)))))))))
 ·have hc1n : ¬ k < xs.length := by first | (have h := of_decide_eq_false hc1; omega) | (have h := hc1; simp at h; omega)
  refine Yi (Q3 (Q2 ?_))
  refine Qf (Qh [true, true] Z Z (Qa (Qe Z) Z (Qa (Qg Z) Z (Qd (Qw (Qm Z Z E ?_))))))
  obtain rfl : k = xs.length := by omega
  rw [mk_all] at h1
  exact Own.ofBlk h1 (by omega) (by have := h1.lt; omega) (Y0 xs) hxs.1

set_option maxRecDepth 20000 in
theorem c_eqNewsS (vxs : Value) (xs : List News) (vys : Value) (ys : List News) (w : World) (hxs : RdS w vxs xs) (hys : RdS w vys ys) : Ct Tryz.prog 33 [vxs, vys] w (fun v _ => v = .bool (decide (xs = ys))) := by
 refine Yj Tryz.func33 Z Tryz.ntmps33 Z ?_
 refine Q7 [(0, vxs), (1, vys)] ⟨Z, Z, trivial⟩ ?_
 have E : Ext w w := Ext.refl w
 refine Qf (Qh [true] Z Z (Qa (Qg Z) Z (Qd (Qf (Qf (Qh [true, true, true, true, true] Z Z (Qa (Qe Z) Z (Qa (Q4 Tryz.underlying38 Z (hxs.ext E).len) Z (Qa (Qe Z) Z (Qa (Q4 Tryz.underlying38 Z (hys.ext E).len) Z (Qa (Yr Z Z) Z (Qd (Qu Z (fun hc1 => ?_) (fun hc1 => ?_))))))))))))))
 ·have hc1n : ¬ xs.length = ys.length := by first | (have h := of_decide_eq_true hc1; omega) | (have h := hc1; simp at h; omega)
  refine Qf (Qh [true] Z Z (Qa (Qg Z) Z (Qd (Qw (Qm Z Z E ?_)))))
  simp [eq_len hc1n]
 ·have hc1n : xs.length = ys.length := by first | (have h := of_decide_eq_false hc1; omega) | (have h := hc1; simp at h; omega)
  refine Qp (Qf (Qf (Qh [true] Z Z (Qa (Qg Z) Z (Qd (Qy (Yh (fun (k : Nat) => [(0, vxs), (1, vys), (4, .bool false), (5, .int .i64 ((k : Nat) : Int))]) (fun (k : Nat) w' => Ext w w' ∧ w.heap.size ≤ w'.heap.size ∧ k ≤ xs.length ∧ xs.take k = ys.take k) (fun (k : Nat) => xs.length - k) 0 ⟨Z, Z, Z, Z, trivial⟩ ⟨E, Nat.le_refl _, Nat.zero_le _, Z⟩ ?_)))))))
  clear E
  rintro k w1 ⟨E, z1, hk, hp⟩
  refine Qf (Qf (Qh [true, true, true, true] Z Z (Qa (Qe Z) Z (Qa (Qe Z) Z (Qa (Q4 Tryz.underlying38 Z (hxs.ext E).len) Z (Qa (Yb Z Z) Z (Qd (Qu Z (fun hc2 => ?_) (fun hc2 => ?_)))))))))
  ·have hc2n : k < xs.length := by first | (have h := of_decide_eq_true hc2; omega) | (have h := hc2; simp at h; omega)
   refine Qp (Qf (Qy (Qf (Y7 Y8 [(0, true), (1, true), (2, true), (3, true), (4, true), (5, true), (6, true), (7, true), (8, false), (9, true)] (by decide +kernel) Z (fun w2 e1 => ?_)))))
   replace E := E.trans e1
   have z2 := e1.size
   refine Qa (Qe Z) Z (Qa (Qe Z) Z ?_)
   have hi1 : k < xs.length := (by first | assumption | omega | (simp only [List.length_set]; first | assumption | omega))
   refine Qa (Qv (i := k) sl38 Z Z (hxs.ext E) hi1) Z (Qa (Q1 st114 Z ((hxs.ext E).get hi1) Z) Z (Qa (Qe Z) Z (Qa (Qe Z) Z ?_)))
   have hi2 : k < ys.length := (by first | assumption | omega | (simp only [List.length_set]; first | assumption | omega))
   refine Qa (Qv (i := k) sl38 Z Z (hys.ext E) hi2) Z (Qa (Q1 st114 Z ((hys.ext E).get hi2) Z) Z (Q0 Tryz.call69 Z (c_eqNews (xs[k]'hi1) (ys[k]'hi2) _ ) Z (fun _ w3 e2 hv => ?_)))
   subst hv
   replace E := E.trans e2
   have z3 := e2.size
   refine Qa (Yn Z) Z (Qd (Qu Z (fun hc3 => ?_) (fun hc3 => ?_)))
   ·refine Qf (Qh [true] Z Z (Qa (Qg Z) Z (Qd (Qw (Qx (Yg (Qx (Qm Z Z E ?_))))))))
    exact eqS_no (by omega) (by omega) (by simpa using hc3)
   ·refine Qp (Q5 (Yt (Qh [true, true, true] Z Z (Qa (Qe Z) Z (Qa (Q8 Z Z (Yq hc2n hxs.1)) Z (Qa (Qg Z) Z (Qd (Q5 (Q9 (k + 1) (by omega) ⟨Z, Z, Z, Z, trivial⟩ ⟨E, (by omega), (by omega), eqS_step hp (by assumption) (by omega) (by simpa using hc3)⟩)))))))))
  ·have hc2n : ¬ k < xs.length := by first | (have h := of_decide_eq_false hc2; omega) | (have h := hc2; simp at h; omega)
   refine Yi (Q3 (Q2 ?_))
   refine Qf (Qh [true] Z Z (Qa (Qg Z) Z (Qd (Qw (Qm Z Z E ?_)))))
   exact eqS_yes hp hc1n (by omega)

set_option maxRecDepth 20000 in
theorem c_szLink (cx : List Value) (x : Link) (n : Int) (w : World) (hx : Dat.R w 0 w.heap.size cx x) (h0 : 0 ≤ n ∧ n ≤ 1048576) : Ct Tryz.prog 49 [.agg cx.toArray, .int .i64 n] w (fun v _ => v = .int .i64 (Kh (Y9 x) n)) := by
 refine Yj Tryz.func49 Z Tryz.ntmps49 Z ?_
 obtain ⟨o1, rfl, hd1⟩ := Link.op hx
 refine Q7 [(0, .agg [.int .i64 x.cap, o1, .int .i64 x.credits, .int .i64 x.back, .int .i64 x.sent, .int .i64 x.got].toArray), (1, .int .i64 n)] ⟨Z, Z, trivial⟩ ?_
 have E : Ext w w := Ext.refl w
 refine Qf (Qh [false, true] Z Z (Yx Z Z (fun b1 w1 e1 s1 h1 => ?_)))
 have g_b1 : w.heap.size ≤ b1 := by have := E.size; omega
 have y_b1 := h1.lt
 replace E := E.trans e1
 have z1 := e1.size
 refine Qa (Qg Z) Z (Qd (Qf (Qh [true, true, true, false, true] Z Z (Qa (Qb fl100_1 Z) Z (Qa (Qi sc93 Z (h1.one 1 Z)) Z (Qa (Qe Z) Z (Q0 Tryz.call87 Z (c_szRecordS o1 x.queue n _ (hd1.rd.ext E) (by first | omega | (simp only [Qj]; omega) | (rw [Qj]; done) | (simp only [Qj]; done))) Z (fun _ w2 e2 hv => ?_))))))))
 subst hv
 replace E := E.trans e2; replace h1 := h1.ext e2
 have z2 := e2.size
 refine Qa (Qg Z) Z (Qd (Qf (Qf (Qh [true, true] Z Z (Qa (Qe Z) Z (Qa (Yb Z Z) Z (Qd (Qu Z (fun hc1 => ?_) (fun hc1 => ?_)))))))))
 ·have q1 := X4 hc1 (by omega)
  refine Qf (Qh [true] Z Z (Qa (Qg Z) Z (Qd (Qw (Qm Z Z E ?_)))))
  first | exact Xh (by unfold Y9; omega) | exact Xn (by unfold Y9; omega) (by unfold Y9; omega)
 ·have q2 := X3 hc1 (by omega)
  refine Qp (Qf (Qh [true, true] Z Z (Qa (Qe Z) Z (Qa (Qg Z) Z (Qd (Qw (Qm Z Z E ?_)))))))
  first | exact Xh (by unfold Y9; omega) | exact Xn (by unfold Y9; omega) (by unfold Y9; omega)

set_option maxRecDepth 20000 in
theorem c_toLink (cx : List Value) (x : Link) (w : World) (hx : Dat.R w 0 w.heap.size cx x) (hb : Y9 x ≤ 1048576) : Ct Tryz.prog 55 [.agg cx.toArray] w (fun v w' => ∃ cs, v = .agg cs.toArray ∧ Own1.O w' w.heap.size w'.heap.size cs x) := by
 unfold Y9 at hb
 refine Yj Tryz.func55 Z Tryz.ntmps55 Z ?_
 obtain ⟨o1, rfl, hd1⟩ := Link.op hx
 refine Q7 [(0, .agg [.int .i64 x.cap, o1, .int .i64 x.credits, .int .i64 x.back, .int .i64 x.sent, .int .i64 x.got].toArray)] ⟨Z, trivial⟩ ?_
 have E : Ext w w := Ext.refl w
 refine Qf (Qh [false, false] Z Z (Yx Z Z (fun b1 w1 e1 s1 h1 => ?_)))
 have g_b1 : w.heap.size ≤ b1 := by have := E.size; omega
 have y_b1 := h1.lt
 replace E := E.trans e1
 have z1 := e1.size
 refine Yu st88 Z (fun b2 w2 e2 s2 h2 => ?_)
 have g_b2 : w.heap.size ≤ b2 := by have := E.size; omega
 have y_b2 := h2.lt
 replace E := E.trans e2; replace h1 := h1.ext e2
 have z2 := e2.size
 refine Qd (Qf (Qh [false] Z Z (Yu st88 Z (fun b3 w3 e3 s3 h3 => ?_))))
 have g_b3 : w.heap.size ≤ b3 := by have := E.size; omega
 have y_b3 := h3.lt
 replace E := E.trans e3; replace h1 := h1.ext e3; replace h2 := h2.ext e3
 have z3 := e3.size
 refine Qd (Qf (Qh [true, true, true, false] Z Z (Qa (Qb fl100_0 Z) Z (Qa (Qi Yk Z (h1.one 0 Z)) Z (Qa (Qb fl88_0 Z) Z (Ye (cs' := [.int .i64 x.cap, .slice none 0 0, .int .i64 0, .int .i64 0, .int .i64 0, .int .i64 0]) Yk Z Z Z h3 (Nat.le_of_ble_eq_true Z) Z (fun w4 m1 h3' => ?_)))))))
 replace h3 := h3'
 replace E := E.step m1 (fun g hg => by cases hg; omega); replace h1 := h1.mod m1 (fun g hg => by cases hg; omega); replace h2 := h2.mod m1 (fun g hg => by cases hg; omega)
 have z4 := m1.size
 refine Qd (Qf (Qh [true, true, false, true, false] Z Z (Qa (Qb fl100_1 Z) Z (Qa (Qi sc93 Z (h1.one 1 Z)) Z (Q0 Tryz.call101 Z (c_toRecordS o1 x.queue _ (hd1.rd.ext E) (by first | omega | (simp only [Qj]; omega) | (rw [Qj]; done) | (simp only [Qj]; done))) Z (fun v1 w5 e4 ho1 => ?_))))))
 have g_ho1 : w.heap.size ≤ w4.heap.size := E.size
 replace E := E.trans e4; replace h1 := h1.ext e4; replace h2 := h2.ext e4; replace h3 := h3.ext e4
 have z5 := e4.size
 refine Qa (Qb X5 Z) Z (Ye (cs' := [.int .i64 x.cap, v1, .int .i64 0, .int .i64 0, .int .i64 0, .int .i64 0]) Xa Z Z ho1.one h3 (Nat.le_of_ble_eq_true Z) Z (fun w6 m2 h3' => ?_))
 replace h3 := h3'
 replace E := E.step m2 (fun g hg => by cases hg; omega); replace h1 := h1.mod m2 (fun g hg => by cases hg; omega); replace h2 := h2.mod m2 (fun g hg => by cases hg; omega); replace ho1 := ho1.mod m2 (fun g hg => by cases hg; omega)
 have z6 := m2.size
 refine Qd (Qf (Qh [true, true, true, false] Z Z (Qa (Qb fl100_2 Z) Z (Qa (Qi Yk Z (h1.one 2 Z)) Z (Qa (Qb fl88_2 Z) Z (Ye (cs' := [.int .i64 x.cap, v1, .int .i64 x.credits, .int .i64 0, .int .i64 0, .int .i64 0]) Yk Z Z Z h3 (Nat.le_of_ble_eq_true Z) Z (fun w7 m3 h3' => ?_)))))))
 replace h3 := h3'
 replace E := E.step m3 (fun g hg => by cases hg; omega); replace h1 := h1.mod m3 (fun g hg => by cases hg; omega); replace h2 := h2.mod m3 (fun g hg => by cases hg; omega); replace ho1 := ho1.mod m3 (fun g hg => by cases hg; omega)
 have z7 := m3.size
 refine Qd (Qf (Qh [true, true, true, false] Z Z (Qa (Qb fl100_3 Z) Z (Qa (Qi Yk Z (h1.one 3 Z)) Z (Qa (Qb fl88_3 Z) Z (Ye (cs' := [.int .i64 x.cap, v1, .int .i64 x.credits, .int .i64 x.back, .int .i64 0, .int .i64 0]) Yk Z Z Z h3 (Nat.le_of_ble_eq_true Z) Z (fun w8 m4 h3' => ?_)))))))
 replace h3 := h3'
 replace E := E.step m4 (fun g hg => by cases hg; omega); replace h1 := h1.mod m4 (fun g hg => by cases hg; omega); replace h2 := h2.mod m4 (fun g hg => by cases hg; omega); replace ho1 := ho1.mod m4 (fun g hg => by cases hg; omega)
 have z8 := m4.size
 refine Qd (Qf (Qh [true, true, true, false] Z Z (Qa (Qb fl100_4 Z) Z (Qa (Qi Yk Z (h1.one 4 Z)) Z (Qa (Qb fl88_4 Z) Z (Ye (cs' := [.int .i64 x.cap, v1, .int .i64 x.credits, .int .i64 x.back, .int .i64 x.sent, .int .i64 0]) Yk Z Z Z h3 (Nat.le_of_ble_eq_true Z) Z (fun w9 m5 h3' => ?_)))))))
 replace h3 := h3'
 replace E := E.step m5 (fun g hg => by cases hg; omega); replace h1 := h1.mod m5 (fun g hg => by cases hg; omega); replace h2 := h2.mod m5 (fun g hg => by cases hg; omega); replace ho1 := ho1.mod m5 (fun g hg => by cases hg; omega)
 have z9 := m5.size
 refine Qd (Qf (Qh [true, true, true, false] Z Z (Qa (Qb fl100_5 Z) Z (Qa (Qi Yk Z (h1.one 5 Z)) Z (Qa (Qb fl88_5 Z) Z (Ye (cs' := [.int .i64 x.cap, v1, .int .i64 x.credits, .int .i64 x.back, .int .i64 x.sent, .int .i64 x.got]) Yk Z Z Z h3 (Nat.le_of_ble_eq_true Z) Z (fun w10 m6 h3' => ?_)))))))
 replace h3 := h3'
 replace E := E.step m6 (fun g hg => by cases hg; omega); replace h1 := h1.mod m6 (fun g hg => by cases hg; omega); replace h2 := h2.mod m6 (fun g hg => by cases hg; omega); replace ho1 := ho1.mod m6 (fun g hg => by cases hg; omega)
 have z10 := m6.size
 refine Qd (Qf (Qh [true, false] Z Z (Qa (Q1 st88 Z h3.at Z) Z (Ya (cs' := [.int .i64 x.cap, v1, .int .i64 x.credits, .int .i64 x.back, .int .i64 x.sent, .int .i64 x.got]) st88 Z Z Z (Ql Z (Ql ho1.one (Ql Z (Ql Z (Ql Z (Ql Z Z)))))) h2 (Nat.le_of_ble_eq_true Z) Z (fun w11 m7 h2' => ?_)))))
 replace h2 := h2'
 replace E := E.step m7 (fun g hg => by cases hg; omega); replace h1 := h1.mod m7 (fun g hg => by cases hg; omega); replace h3 := h3.mod m7 (fun g hg => by cases hg; omega); replace ho1 := ho1.mod m7 (fun g hg => by cases hg; omega)
 have z11 := m7.size
 refine Qd (Qw (Xi Z Z (Ys st88 h2.at Z) E ?_))
 exact ⟨_, Z, Link.mkO x ⟨trivial, trivial⟩ (Own.widen ho1 (by omega) (by omega))⟩

set_option maxRecDepth 20000 in
theorem c_eqLink (cx : List Value) (x : Link) (cy : List Value) (y : Link) (w : World) (hx : Dat.R w 0 w.heap.size cx x) (hy : Dat.R w 0 w.heap.size cy y) : Ct Tryz.prog 67 [.agg cx.toArray, .agg cy.toArray] w (fun v _ => v = .bool (decide (x = y))) := by
 refine Yj Tryz.func67 Z Tryz.ntmps67 Z ?_
 obtain ⟨o1, rfl, hd1⟩ := Link.op hx
 obtain ⟨o2, rfl, hd2⟩ := Link.op hy
 refine Q7 [(0, .agg [.int .i64 x.cap, o1, .int .i64 x.credits, .int .i64 x.back, .int .i64 x.sent, .int .i64 x.got].toArray), (1, .agg [.int .i64 y.cap, o2, .int .i64 y.credits, .int .i64 y.back, .int .i64 y.sent, .int .i64 y.got].toArray)] ⟨Z, Z, trivial⟩ ?_
 have E : Ext w w := Ext.refl w
 refine Qf (Qh [false, false, true] Z Z (Yx Z Z (fun b1 w1 e1 s1 h1 => ?_)))
 have g_b1 : w.heap.size ≤ b1 := by have := E.size; omega
 have y_b1 := h1.lt
 replace E := E.trans e1
 have z1 := e1.size
 refine Yx Z Z (fun b2 w2 e2 s2 h2 => ?_)
 have g_b2 : w.heap.size ≤ b2 := by have := E.size; omega
 have y_b2 := h2.lt
 replace E := E.trans e2; replace h1 := h1.ext e2
 have z2 := e2.size
 refine Qa (Qg Z) Z (Qd (Qf (Qf (Qh [true, true, true, true, true] Z Z (Qa (Qb fl88_0 Z) Z (Qa (Qi Yk Z (h1.one 0 Z)) Z (Qa (Qb fl88_0 Z) Z (Qa (Qi Yk Z (h2.one 0 Z)) Z (Qa (Yr Z Z) Z (Qd (Qu Z (fun hc1 => ?_) (fun hc1 => ?_))))))))))))
 ·refine Qf (Qh [true] Z Z (Qa (Qg Z) Z (Qd (Qw (Qm Z Z E ?_)))))
  cases x; cases y; simp_all
 ·refine Qp (Qf (Qf (Qh [true, true, true, true, false, true] Z Z (Qa (Qb X5 Z) Z (Qa (Qi Xa Z (h1.one 1 Z)) Z (Qa (Qb X5 Z) Z (Qa (Qi Xa Z (h2.one 1 Z)) Z (Q0 Tryz.call114 Z (c_eqRecordS o1 x.queue o2 y.queue _ (hd1.rd.ext E) (hd2.rd.ext E)) Z (fun _ w3 e3 hv => ?_)))))))))
  subst hv
  replace E := E.trans e3; replace h1 := h1.ext e3; replace h2 := h2.ext e3
  have z3 := e3.size
  refine Qa (Yn Z) Z (Qd (Qu Z (fun hc2 => ?_) (fun hc2 => ?_)))
  ·refine Qf (Qh [true] Z Z (Qa (Qg Z) Z (Qd (Qw (Qm Z Z E ?_)))))
   cases x; cases y; simp_all
  ·refine Qp (Qf (Qf (Qh [true, true, true, true, true] Z Z (Qa (Qb fl88_2 Z) Z (Qa (Qi Yk Z (h1.one 2 Z)) Z (Qa (Qb fl88_2 Z) Z (Qa (Qi Yk Z (h2.one 2 Z)) Z (Qa (Yr Z Z) Z (Qd (Qu Z (fun hc3 => ?_) (fun hc3 => ?_)))))))))))
   ·refine Qf (Qh [true] Z Z (Qa (Qg Z) Z (Qd (Qw (Qm Z Z E ?_)))))
    cases x; cases y; simp_all
   ·refine Qp (Qf (Qf (Qh [true, true, true, true, true] Z Z (Qa (Qb fl88_3 Z) Z (Qa (Qi Yk Z (h1.one 3 Z)) Z (Qa (Qb fl88_3 Z) Z (Qa (Qi Yk Z (h2.one 3 Z)) Z (Qa (Yr Z Z) Z (Qd (Qu Z (fun hc4 => ?_) (fun hc4 => ?_)))))))))))
    ·refine Qf (Qh [true] Z Z (Qa (Qg Z) Z (Qd (Qw (Qm Z Z E ?_)))))
     cases x; cases y; simp_all
    ·refine Qp (Qf (Qf (Qh [true, true, true, true, true] Z Z (Qa (Qb fl88_4 Z) Z (Qa (Qi Yk Z (h1.one 4 Z)) Z (Qa (Qb fl88_4 Z) Z (Qa (Qi Yk Z (h2.one 4 Z)) Z (Qa (Yr Z Z) Z (Qd (Qu Z (fun hc5 => ?_) (fun hc5 => ?_)))))))))))
     ·refine Qf (Qh [true] Z Z (Qa (Qg Z) Z (Qd (Qw (Qm Z Z E ?_)))))
      cases x; cases y; simp_all
     ·refine Qp (Qf (Qf (Qh [true, true, true, true, true] Z Z (Qa (Qb fl88_5 Z) Z (Qa (Qi Yk Z (h1.one 5 Z)) Z (Qa (Qb fl88_5 Z) Z (Qa (Qi Yk Z (h2.one 5 Z)) Z (Qa (Yr Z Z) Z (Qd (Qu Z (fun hc6 => ?_) (fun hc6 => ?_)))))))))))
      ·refine Qf (Qh [true] Z Z (Qa (Qg Z) Z (Qd (Qw (Qm Z Z E ?_)))))
       cases x; cases y; simp_all
      ·refine Qp (Qf (Qh [true] Z Z (Qa (Qg Z) Z (Qd (Qw (Qm Z Z E ?_))))))
       cases x; cases y; simp_all

set_option maxRecDepth 20000 in
theorem c_szLinkS (vxs : Value) (xs : List Link) (n : Int) (w : World) (hxs : RdD w 0 w.heap.size vxs xs) (h0 : 0 ≤ n ∧ n ≤ 1048576) : Ct Tryz.prog 16 [vxs, .int .i64 n] w (fun v _ => v = .int .i64 (Kh (Xu Y9 xs) n)) := by
 have hlm := hxs.1.1
 unfold maxLen at hlm
 refine Yj Tryz.func16 Z Tryz.ntmps16 Z ?_
 refine Q7 [(0, vxs), (1, .int .i64 n)] ⟨Z, Z, trivial⟩ ?_
 have E : Ext w w := Ext.refl w
 refine Qf (Qh [true] Z Z (Qa (Qg Z) Z (Qd (Qf (Qh [true, true, true, true, true] Z Z (Qa (Qe Z) Z (Qa (Qe Z) Z (Qa (Q4 Tryz.underlying26 Z (hxs.ext E).len) Z (Qa (Ka Z Z (wrap_in (by omega) (by omega))) Z (Qa (Qg Z) Z (Qd (Qf (Qf (Qh [true, true] Z Z (Qa (Qe Z) Z (Qa (Yb Z Z) Z (Qd (Qu Z (fun hc1 => ?_) (fun hc1 => ?_)))))))))))))))))))
 ·refine Qf (Qh [true] Z Z (Qa (Qg Z) Z (Qd (Qw (Qm Z Z E ?_)))))
  exact Xh (by have := of_decide_eq_true hc1; unfold Xu; omega)
 ·refine Qp (Qf (Qf (Qh [true] Z Z (Qa (Qg Z) Z (Qd (Qy (Yh (fun (xq : Nat × Int) => let ⟨k, l⟩ := xq; [(0, vxs), (1, .int .i64 l), (4, .int .i64 0), (5, .int .i64 ((k : Nat) : Int))]) (fun (xq : Nat × Int) w' => let ⟨k, l⟩ := xq; Ext w w' ∧ w.heap.size ≤ w'.heap.size ∧ k ≤ xs.length ∧ 0 ≤ l ∧ l ≤ 1048576 ∧ l = n - ((xs.length : Nat) : Int) - ((((xs.take k).map Y9).sum : Nat) : Int)) (fun (xq : Nat × Int) => let ⟨k, l⟩ := xq; xs.length - k) (0, n - ((xs.length : Nat) : Int)) ⟨Z, Z, Z, Z, trivial⟩ ⟨E, Nat.le_refl _, Nat.zero_le _, (by have := of_decide_eq_false hc1; simp; omega)⟩ ?_)))))))
  clear E
  rintro ⟨k, l⟩ w1 ⟨E, z1, hk, hl⟩
  refine Q7 [(0, vxs), (1, .int .i64 l), (4, .int .i64 0), (5, .int .i64 ((k : Nat) : Int))] ⟨Z, Z, Z, Z, trivial⟩ ?_
  refine Qf (Qf (Qh [true, true, true, true] Z Z (Qa (Qe Z) Z (Qa (Qe Z) Z (Qa (Q4 Tryz.underlying26 Z (hxs.ext E).len) Z (Qa (Yb Z Z) Z (Qd (Qu Z (fun hc2 => ?_) (fun hc2 => ?_)))))))))
  ·have hc2n : k < xs.length := by first | (have h := of_decide_eq_true hc2; omega) | (have h := hc2; simp at h; omega)
   refine Qp (Qf (Qy (Qf (Qh [true, true, true, true, true, false, true] Z Z (Qa (Qe Z) Z (Qa (Qe Z) Z ?_))))))
   have hi1 : k < xs.length := (by first | assumption | omega | (simp only [List.length_set]; first | assumption | omega))
   obtain ⟨_, hr1, ha1⟩ := RdD.get hxs hi1
   obtain ⟨o1, rfl, hd1⟩ := Link.op hr1
   replace ha1 : At w (Xm vxs) (Xl vxs + k * 6) [.int .i64 ((xs[k]'hi1).cap), o1, .int .i64 ((xs[k]'hi1).credits), .int .i64 ((xs[k]'hi1).back), .int .i64 ((xs[k]'hi1).sent), .int .i64 ((xs[k]'hi1).got)] := ha1
   refine Qa (Qv (i := k) sl26 Z Z (hxs.ext E).1 hi1) Z (Qa (Q1 st100 Z (ha1.ext E) Z) Z (Qa (Qe Z) Z (Q0 Tryz.call49 Z (c_szLink [.int .i64 ((xs[k]'hi1).cap), o1, .int .i64 ((xs[k]'hi1).credits), .int .i64 ((xs[k]'hi1).back), .int .i64 ((xs[k]'hi1).sent), .int .i64 ((xs[k]'hi1).got)] (xs[k]'hi1) l _ (Link.mkR (xs[k]'hi1) (RdD.any (hd1.ext E))) (by first | omega | (simp only [Qj]; omega) | (rw [Qj]; done) | (simp only [Qj]; done))) Z (fun _ w2 e1 hv => ?_))))
   subst hv
   replace E := E.trans e1
   have z2 := e1.size
   refine Qa (Qg Z) Z (Qd (Qf (Qh [true, true] Z Z (Qa (Qe Z) Z (Qa (Yb Z Z) Z (Qd (Qu Z (fun hc3 => ?_) (fun hc3 => ?_))))))))
   ·have q1 := X4 hc3 (by omega)
    refine Qf (Qh [true] Z Z (Qa (Qg Z) Z (Qd (Qw (Qx (Yg (Qx (Qm Z Z E ?_))))))))
    exact Xh (by have := sum_le (f := Y9) (show k < xs.length by omega); unfold Xu; omega)
   ·have q2 := X3 hc3 (by omega)
    refine Qp (Q5 (Yt (Qh [true, true, true] Z Z (Qa (Qe Z) Z (Qa (Q8 Z Z (Yq hc2n (hxs.ext E).1.1)) Z (Qa (Qg Z) Z (Qd (Q5 (Q9 (k + 1, Kh (Y9 (xs[k]'hi1)) l) (by simp; omega) ⟨Z, Z, Z, Z, trivial⟩ ⟨E, (by omega), (by omega), (by have := sum_step (f := Y9) (show k < xs.length by omega); omega)⟩)))))))))
  ·have hc2n : ¬ k < xs.length := by first | (have h := of_decide_eq_false hc2; omega) | (have h := hc2; simp at h; omega)
   refine Yi (Q3 (Q2 ?_))
   refine Qf (Qh [true, true] Z Z (Qa (Qe Z) Z (Qa (Qg Z) Z (Qd (Qw (Qm Z Z E ?_))))))
   have := sum_all (f := Y9) (show xs.length ≤ k by omega); exact Xn (by unfold Xu; omega) (by unfold Xu; omega)

set_option maxRecDepth 20000 in
theorem c_toLinkS (vxs : Value) (xs : List Link) (w : World) (hxs : RdD w 0 w.heap.size vxs xs) (hb : Xu Y9 xs ≤ 1048576) : Ct Tryz.prog 23 [vxs] w (fun v w' => OwS (α := Link) w' w.heap.size w'.heap.size v xs) := by
 unfold Xu at hb
 refine Yj Tryz.func23 Z Tryz.ntmps23 Z ?_
 refine Q7 [(0, vxs)] ⟨Z, trivial⟩ ?_
 have E : Ext w w := Ext.refl w
 refine Qf (Qh [true] Z Z (Qa (Qg Z) Z (Qd (Qf (Qh [true, true, false, true] Z Z (Qa (Qe Z) Z (Qa (Q4 Tryz.underlying26 Z (hxs.ext E).len) Z (J_make (m := xs.length) sl36 Z Z (by omega) (by decide) Z (fun b1 w1 e1 s1 h1 => ?_)))))))))
 have g_b1 : w.heap.size ≤ b1 := by have := E.size; omega
 have y_b1 := h1.lt
 replace E := E.trans e1
 have z1 := e1.size
 refine Qa (Qg Z) Z (Qd (Qf (Qf (Qh [true] Z Z (Qa (Qg Z) Z (Qd (Qy (Yh (fun (xq : Nat × List (List Value)) => let ⟨k, css⟩ := xq; [(0, vxs), (2, .slice none 0 0), (3, .slice (some ⟨b1, 0, none⟩) xs.length xs.length), (4, .int .i64 ((k : Nat) : Int))]) (fun (xq : Nat × List (List Value)) w' => let ⟨k, css⟩ := xq; Ext w w' ∧ w1.heap.size ≤ w'.heap.size ∧ k ≤ xs.length ∧ css.length = k ∧ Blk w' b1 (mkc css [.int .i64 0, .slice none 0 0, .int .i64 0, .int .i64 0, .int .i64 0, .int .i64 0] (xs.length - k)) ∧ AllO w' w1.heap.size w'.heap.size css (xs.take k)) (fun (xq : Nat × List (List Value)) => let ⟨k, css⟩ := xq; xs.length - k) (0, []) ⟨Z, Z, Z, Z, trivial⟩ ⟨E, Nat.le_refl _, Nat.zero_le _, Z, (by simpa [mkc] using h1), (by simp [AllO, All2])⟩ ?_))))))))
 clear E h1
 rintro ⟨k, css⟩ w2 ⟨E, z2, hk, hlk, h1, hA⟩
 refine Q7 [(0, vxs), (2, .slice none 0 0), (3, .slice (some ⟨b1, 0, none⟩) xs.length xs.length), (4, .int .i64 ((k : Nat) : Int))] ⟨Z, Z, Z, Z, trivial⟩ ?_
 refine Qf (Qf (Qh [true, true, true, true] Z Z (Qa (Qe Z) Z (Qa (Qe Z) Z (Qa (Q4 Tryz.underlying26 Z (hxs.ext E).len) Z (Qa (Yb Z Z) Z (Qd (Qu Z (fun hc1 => ?_) (fun hc1 => ?_)))))))))
 ·have hc1n : k < xs.length := by first | (have h := of_decide_eq_true hc1; omega) | (have h := hc1; simp at h; omega)
  refine Qp (Qf (Qy (Qh [true, true, true, true, true, true, false, true, false] Z Z (Qa (Qe Z) Z (Qa (Qe Z) Z (Qa (Qe Z) Z (Qa (Qe Z) Z ?_)))))))
  have hi1 : k < xs.length := (by first | assumption | omega | (simp only [List.length_set]; first | assumption | omega))
  obtain ⟨_, hr1, ha1⟩ := RdD.get hxs hi1
  obtain ⟨o1, rfl, hd1⟩ := Link.op hr1
  replace ha1 : At w (Xm vxs) (Xl vxs + k * 6) [.int .i64 ((xs[k]'hi1).cap), o1, .int .i64 ((xs[k]'hi1).credits), .int .i64 ((xs[k]'hi1).back), .int .i64 ((xs[k]'hi1).sent), .int .i64 ((xs[k]'hi1).got)] := ha1
  refine Qa (Qv (i := k) sl26 Z Z (hxs.ext E).1 hi1) Z (Qa (Q1 st100 Z (ha1.ext E) Z) Z (Q0 Tryz.call55 Z (c_toLink [.int .i64 ((xs[k]'hi1).cap), o1, .int .i64 ((xs[k]'hi1).credits), .int .i64 ((xs[k]'hi1).back), .int .i64 ((xs[k]'hi1).sent), .int .i64 ((xs[k]'hi1).got)] (xs[k]'hi1) _ (Link.mkR (xs[k]'hi1) (RdD.any (hd1.ext E))) (by have := sum_le (f := Y9) (show k < xs.length by omega); omega)) Z (fun _ w3 e2 ho1 => ?_)))
  obtain ⟨_, rfl, ho1⟩ := ho1
  have g_ho1 : w.heap.size ≤ w2.heap.size := E.size
  replace E := E.trans e2; replace h1 := h1.ext e2; replace hA := hA.ext e2
  have z3 := e2.size
  obtain ⟨o2, rfl, sp1, hw1⟩ := Link.opO ho1
  refine Qa (R_indexB sl36 Z Z (by first | assumption | omega | (simp only [List.length_set]; first | assumption | omega))) Z (Ya (cs' := mkc (css ++ [[.int .i64 ((xs[k]'hi1).cap), o2, .int .i64 ((xs[k]'hi1).credits), .int .i64 ((xs[k]'hi1).back), .int .i64 ((xs[k]'hi1).sent), .int .i64 ((xs[k]'hi1).got)]]) [.int .i64 0, .slice none 0 0, .int .i64 0, .int .i64 0, .int .i64 0, .int .i64 0] (xs.length - (k + 1))) st88 Z Z Z (Ql Z (Ql hw1.one (Ql Z (Ql Z (Ql Z (Ql Z Z)))))) h1 (mkc_room hA.d hlk Z hc1n (by rfl)) (mkc_step hA.d hlk Z hc1n Z) (fun w4 m1 h1' => ?_))
  replace h1 := h1'
  replace E := E.step m1 (fun g hg => by cases hg; omega); replace hA := hA.mod m1 (fun g hg => by cases hg; omega); replace hw1 := hw1.mod m1 (fun g hg => by cases hg; omega)
  have z4 := m1.size
  refine Qd (Q5 (Yt (Qh [true, true, true] Z Z (Qa (Qe Z) Z (Qa (Q8 Z Z (Yq hc1n (hxs.ext E).1.1)) Z (Qa (Qg Z) Z (Qd (Q5 (Q9 (k + 1, css ++ [[.int .i64 ((xs[k]'hi1).cap), o2, .int .i64 ((xs[k]'hi1).credits), .int .i64 ((xs[k]'hi1).back), .int .i64 ((xs[k]'hi1).sent), .int .i64 ((xs[k]'hi1).got)]]) (by simp; omega) ⟨Z, Z, Z, Z, trivial⟩ ⟨E, (by omega), (by omega), (by simp [hlk]), h1, (AllO.widen (AllO.step hA hc1n (Link.mkO (xs[k]'hi1) sp1 (Own.widen hw1 (by omega) (by omega))) (Nat.le_refl _) (Nat.le_refl _) (by omega) (by omega)) (Nat.le_refl _) (by omega))⟩)))))))))
 ·have hc1n : ¬ k < xs.length := by first | (have h := of_decide_eq_false hc1; omega) | (have h := hc1; simp at h; omega)
  refine Yi (Q3 (Q2 ?_))
  refine Qf (Qh [true, true] Z Z (Qa (Qe Z) Z (Qa (Qg Z) Z (Qd (Qw (Qm Z Z E ?_))))))
  obtain rfl : k = xs.length := by omega
  rw [Nat.sub_self, mkc_all] at h1
  rw [List.take_length] at hA
  exact OwS.ofBlk h1 hA (by have := E.size; omega) (by omega) (by have := E.size; omega) (by omega) (by omega) Z (by unfold maxLen; omega)

set_option maxRecDepth 20000 in
theorem c_eqLinkS (vxs : Value) (xs : List Link) (vys : Value) (ys : List Link) (w : World) (hxs : RdD w 0 w.heap.size vxs xs) (hys : RdD w 0 w.heap.size vys ys) : Ct Tryz.prog 31 [vxs, vys] w (fun v _ => v = .bool (decide (xs = ys))) := by
 refine Yj Tryz.func31 Z Tryz.ntmps31 Z ?_
 refine Q7 [(0, vxs), (1, vys)] ⟨Z, Z, trivial⟩ ?_
 have E : Ext w w := Ext.refl w
 refine Qf (Qh [true] Z Z (Qa (Qg Z) Z (Qd (Qf (Qf (Qh [true, true, true, true, true] Z Z (Qa (Qe Z) Z (Qa (Q4 Tryz.underlying36 Z (hxs.ext E).len) Z (Qa (Qe Z) Z (Qa (Q4 Tryz.underlying36 Z (hys.ext E).len) Z (Qa (Yr Z Z) Z (Qd (Qu Z (fun hc1 => ?_) (fun hc1 => ?_))))))))))))))
 ·have hc1n : ¬ xs.length = ys.length := by first | (have h := of_decide_eq_true hc1; omega) | (have h := hc1; simp at h; omega)
  refine Qf (Qh [true] Z Z (Qa (Qg Z) Z (Qd (Qw (Qm Z Z E ?_)))))
  simp [eq_len hc1n]
 ·have hc1n : xs.length = ys.length := by first | (have h := of_decide_eq_false hc1; omega) | (have h := hc1; simp at h; omega)
  refine Qp (Qf (Qf (Qh [true] Z Z (Qa (Qg Z) Z (Qd (Qy (Yh (fun (k : Nat) => [(0, vxs), (1, vys), (4, .bool false), (5, .int .i64 ((k : Nat) : Int))]) (fun (k : Nat) w' => Ext w w' ∧ w.heap.size ≤ w'.heap.size ∧ k ≤ xs.length ∧ xs.take k = ys.take k) (fun (k : Nat) => xs.length - k) 0 ⟨Z, Z, Z, Z, trivial⟩ ⟨E, Nat.le_refl _, Nat.zero_le _, Z⟩ ?_)))))))
  clear E
  rintro k w1 ⟨E, z1, hk, hp⟩
  refine Qf (Qf (Qh [true, true, true, true] Z Z (Qa (Qe Z) Z (Qa (Qe Z) Z (Qa (Q4 Tryz.underlying36 Z (hxs.ext E).len) Z (Qa (Yb Z Z) Z (Qd (Qu Z (fun hc2 => ?_) (fun hc2 => ?_)))))))))
  ·have hc2n : k < xs.length := by first | (have h := of_decide_eq_true hc2; omega) | (have h := hc2; simp at h; omega)
   refine Qp (Qf (Qy (Qf (Y7 Y8 [(0, true), (1, true), (2, true), (3, true), (4, true), (5, true), (6, true), (7, true), (8, false), (9, true)] (by decide +kernel) Z (fun w2 e1 => ?_)))))
   replace E := E.trans e1
   have z2 := e1.size
   refine Qa (Qe Z) Z (Qa (Qe Z) Z ?_)
   have hi1 : k < xs.length := (by first | assumption | omega | (simp only [List.length_set]; first | assumption | omega))
   obtain ⟨_, hr1, ha1⟩ := RdD.get hxs hi1
   obtain ⟨o1, rfl, hd1⟩ := Link.op hr1
   replace ha1 : At w (Xm vxs) (Xl vxs + k * 6) [.int .i64 ((xs[k]'hi1).cap), o1, .int .i64 ((xs[k]'hi1).credits), .int .i64 ((xs[k]'hi1).back), .int .i64 ((xs[k]'hi1).sent), .int .i64 ((xs[k]'hi1).got)] := ha1
   refine Qa (Qv (i := k) sl36 Z Z (hxs.ext E).1 hi1) Z (Qa (Q1 st88 Z (ha1.ext E) Z) Z (Qa (Qe Z) Z (Qa (Qe Z) Z ?_)))
   have hi2 : k < ys.length := (by first | assumption | omega | (simp only [List.length_set]; first | assumption | omega))
   obtain ⟨_, hr2, ha2⟩ := RdD.get hys hi2
   obtain ⟨o2, rfl, hd2⟩ := Link.op hr2
   replace ha2 : At w (Xm vys) (Xl vys + k * 6) [.int .i64 ((ys[k]'hi2).cap), o2, .int .i64 ((ys[k]'hi2).credits), .int .i64 ((ys[k]'hi2).back), .int .i64 ((ys[k]'hi2).sent), .int .i64 ((ys[k]'hi2).got)] := ha2
   refine Qa (Qv (i := k) sl36 Z Z (hys.ext E).1 hi2) Z (Qa (Q1 st88 Z (ha2.ext E) Z) Z (Q0 Tryz.call67 Z (c_eqLink [.int .i64 ((xs[k]'hi1).cap), o1, .int .i64 ((xs[k]'hi1).credits), .int .i64 ((xs[k]'hi1).back), .int .i64 ((xs[k]'hi1).sent), .int .i64 ((xs[k]'hi1).got)] (xs[k]'hi1) [.int .i64 ((ys[k]'hi2).cap), o2, .int .i64 ((ys[k]'hi2).credits), .int .i64 ((ys[k]'hi2).back), .int .i64 ((ys[k]'hi2).sent), .int .i64 ((ys[k]'hi2).got)] (ys[k]'hi2) _ (Link.mkR (xs[k]'hi1) (RdD.any (hd1.ext E))) (Link.mkR (ys[k]'hi2) (RdD.any (hd2.ext E)))) Z (fun _ w3 e2 hv => ?_)))
   subst hv
   replace E := E.trans e2
   have z3 := e2.size
   refine Qa (Yn Z) Z (Qd (Qu Z (fun hc3 => ?_) (fun hc3 => ?_)))
   ·refine Qf (Qh [true] Z Z (Qa (Qg Z) Z (Qd (Qw (Qx (Yg (Qx (Qm Z Z E ?_))))))))
    exact eqS_no (by omega) (by omega) (by simpa using hc3)
   ·refine Qp (Q5 (Yt (Qh [true, true, true] Z Z (Qa (Qe Z) Z (Qa (Q8 Z Z (Yq hc2n (hxs.ext E).1.1)) Z (Qa (Qg Z) Z (Qd (Q5 (Q9 (k + 1) (by omega) ⟨Z, Z, Z, Z, trivial⟩ ⟨E, (by omega), (by omega), eqS_step hp (by assumption) (by omega) (by simpa using hc3)⟩)))))))))
  ·have hc2n : ¬ k < xs.length := by first | (have h := of_decide_eq_false hc2; omega) | (have h := hc2; simp at h; omega)
   refine Yi (Q3 (Q2 ?_))
   refine Qf (Qh [true] Z Z (Qa (Qg Z) Z (Qd (Qw (Qm Z Z E ?_)))))
   exact eqS_yes hp hc1n (by omega)

set_option maxRecDepth 20000 in
theorem c_szWorkerS (vxs : Value) (xs : List Worker) (n : Int) (w : World) (hxs : RdD w 0 w.heap.size vxs xs) (h0 : 0 ≤ n ∧ n ≤ 1048576) : Ct Tryz.prog 15 [vxs, .int .i64 n] w (fun v _ => v = .int .i64 (Kh (Xu Yd xs) n)) := by
 have hlm := hxs.1.1
 unfold maxLen at hlm
 refine Yj Tryz.func15 Z Tryz.ntmps15 Z ?_
 refine Q7 [(0, vxs), (1, .int .i64 n)] ⟨Z, Z, trivial⟩ ?_
 have E : Ext w w := Ext.refl w
 refine Qf (Qh [true] Z Z (Qa (Qg Z) Z (Qd (Qf (Qh [true, true, true, true, true] Z Z (Qa (Qe Z) Z (Qa (Qe Z) Z (Qa (Q4 Tryz.underlying25 Z (hxs.ext E).len) Z (Qa (Ka Z Z (wrap_in (by omega) (by omega))) Z (Qa (Qg Z) Z (Qd (Qf (Qf (Qh [true, true] Z Z (Qa (Qe Z) Z (Qa (Yb Z Z) Z (Qd (Qu Z (fun hc1 => ?_) (fun hc1 => ?_)))))))))))))))))))
 ·refine Qf (Qh [true] Z Z (Qa (Qg Z) Z (Qd (Qw (Qm Z Z E ?_)))))
  exact Xh (by have := of_decide_eq_true hc1; unfold Xu; omega)
 ·refine Qp (Qf (Qf (Qh [true] Z Z (Qa (Qg Z) Z (Qd (Qy (Yh (fun (xq : Nat × Int) => let ⟨k, l⟩ := xq; [(0, vxs), (1, .int .i64 l), (4, .int .i64 0), (5, .int .i64 ((k : Nat) : Int))]) (fun (xq : Nat × Int) w' => let ⟨k, l⟩ := xq; Ext w w' ∧ w.heap.size ≤ w'.heap.size ∧ k ≤ xs.length ∧ 0 ≤ l ∧ l ≤ 1048576 ∧ l = n - ((xs.length : Nat) : Int) - ((((xs.take k).map Yd).sum : Nat) : Int)) (fun (xq : Nat × Int) => let ⟨k, l⟩ := xq; xs.length - k) (0, n - ((xs.length : Nat) : Int)) ⟨Z, Z, Z, Z, trivial⟩ ⟨E, Nat.le_refl _, Nat.zero_le _, (by have := of_decide_eq_false hc1; simp; omega)⟩ ?_)))))))
  clear E
  rintro ⟨k, l⟩ w1 ⟨E, z1, hk, hl⟩
  refine Q7 [(0, vxs), (1, .int .i64 l), (4, .int .i64 0), (5, .int .i64 ((k : Nat) : Int))] ⟨Z, Z, Z, Z, trivial⟩ ?_
  refine Qf (Qf (Qh [true, true, true, true] Z Z (Qa (Qe Z) Z (Qa (Qe Z) Z (Qa (Q4 Tryz.underlying25 Z (hxs.ext E).len) Z (Qa (Yb Z Z) Z (Qd (Qu Z (fun hc2 => ?_) (fun hc2 => ?_)))))))))
  ·have hc2n : k < xs.length := by first | (have h := of_decide_eq_true hc2; omega) | (have h := hc2; simp at h; omega)
   refine Qp (Qf (Qy (Qf (Qh [true, true, true, true, true, false, true] Z Z (Qa (Qe Z) Z (Qa (Qe Z) Z ?_))))))
   have hi1 : k < xs.length := (by first | assumption | omega | (simp only [List.length_set]; first | assumption | omega))
   obtain ⟨_, hr1, ha1⟩ := RdD.get hxs hi1
   obtain ⟨o1, o2, o3, o4, o5, o6, o7, o8, rfl, hd1, hd2, hd3, hd4, hd5, hd6, hd7, hd8⟩ := Worker.op hr1
   replace ha1 : At w (Xm vxs) (Xl vxs + k * 8) [o1, o2, o3, o4, o5, o6, o7, o8] := ha1
   refine Qa (Qv (i := k) sl25 Z Z (hxs.ext E).1 hi1) Z (Qa (Q1 st97 Z (ha1.ext E) Z) Z (Qa (Qe Z) Z (Q0 Tryz.call48 Z (c_szWorker [o1, o2, o3, o4, o5, o6, o7, o8] (xs[k]'hi1) l _ (Worker.mkR (xs[k]'hi1) (RdD.any (hd1.ext E)) (RdD.any (hd2.ext E)) (RdD.any (hd3.ext E)) (RdD.any (hd4.ext E)) (RdD.any (hd5.ext E)) (RdD.any (hd6.ext E)) (RdD.any (hd7.ext E)) (RdD.any (hd8.ext E))) (by first | omega | (simp only [Qj]; omega) | (rw [Qj]; done) | (simp only [Qj]; done))) Z (fun _ w2 e1 hv => ?_))))
   subst hv
   replace E := E.trans e1
   have z2 := e1.size
   refine Qa (Qg Z) Z (Qd (Qf (Qh [true, true] Z Z (Qa (Qe Z) Z (Qa (Yb Z Z) Z (Qd (Qu Z (fun hc3 => ?_) (fun hc3 => ?_))))))))
   ·have q1 := X4 hc3 (by omega)
    refine Qf (Qh [true] Z Z (Qa (Qg Z) Z (Qd (Qw (Qx (Yg (Qx (Qm Z Z E ?_))))))))
    exact Xh (by have := sum_le (f := Yd) (show k < xs.length by omega); unfold Xu; omega)
   ·have q2 := X3 hc3 (by omega)
    refine Qp (Q5 (Yt (Qh [true, true, true] Z Z (Qa (Qe Z) Z (Qa (Q8 Z Z (Yq hc2n (hxs.ext E).1.1)) Z (Qa (Qg Z) Z (Qd (Q5 (Q9 (k + 1, Kh (Yd (xs[k]'hi1)) l) (by simp; omega) ⟨Z, Z, Z, Z, trivial⟩ ⟨E, (by omega), (by omega), (by have := sum_step (f := Yd) (show k < xs.length by omega); omega)⟩)))))))))
  ·have hc2n : ¬ k < xs.length := by first | (have h := of_decide_eq_false hc2; omega) | (have h := hc2; simp at h; omega)
   refine Yi (Q3 (Q2 ?_))
   refine Qf (Qh [true, true] Z Z (Qa (Qe Z) Z (Qa (Qg Z) Z (Qd (Qw (Qm Z Z E ?_))))))
   have := sum_all (f := Yd) (show xs.length ≤ k by omega); exact Xn (by unfold Xu; omega) (by unfold Xu; omega)

set_option maxRecDepth 20000 in
theorem c_toWorkerS (vxs : Value) (xs : List Worker) (w : World) (hxs : RdD w 0 w.heap.size vxs xs) (hb : Xu Yd xs ≤ 1048576) : Ct Tryz.prog 22 [vxs] w (fun v w' => OwS (α := Worker) w' w.heap.size w'.heap.size v xs) := by
 unfold Xu at hb
 refine Yj Tryz.func22 Z Tryz.ntmps22 Z ?_
 refine Q7 [(0, vxs)] ⟨Z, trivial⟩ ?_
 have E : Ext w w := Ext.refl w
 refine Qf (Qh [true] Z Z (Qa (Qg Z) Z (Qd (Qf (Qh [true, true, false, true] Z Z (Qa (Qe Z) Z (Qa (Q4 Tryz.underlying25 Z (hxs.ext E).len) Z (J_make (m := xs.length) Kf Z Z (by omega) (by decide) Z (fun b1 w1 e1 s1 h1 => ?_)))))))))
 have g_b1 : w.heap.size ≤ b1 := by have := E.size; omega
 have y_b1 := h1.lt
 replace E := E.trans e1
 have z1 := e1.size
 refine Qa (Qg Z) Z (Qd (Qf (Qf (Qh [true] Z Z (Qa (Qg Z) Z (Qd (Qy (Yh (fun (xq : Nat × List (List Value)) => let ⟨k, css⟩ := xq; [(0, vxs), (2, .slice none 0 0), (3, .slice (some ⟨b1, 0, none⟩) xs.length xs.length), (4, .int .i64 ((k : Nat) : Int))]) (fun (xq : Nat × List (List Value)) w' => let ⟨k, css⟩ := xq; Ext w w' ∧ w1.heap.size ≤ w'.heap.size ∧ k ≤ xs.length ∧ css.length = k ∧ Blk w' b1 (mkc css [.slice none 0 0, .slice none 0 0, .slice none 0 0, .slice none 0 0, .slice none 0 0, .slice none 0 0, .slice none 0 0, .slice none 0 0] (xs.length - k)) ∧ AllO w' w1.heap.size w'.heap.size css (xs.take k)) (fun (xq : Nat × List (List Value)) => let ⟨k, css⟩ := xq; xs.length - k) (0, []) ⟨Z, Z, Z, Z, trivial⟩ ⟨E, Nat.le_refl _, Nat.zero_le _, Z, (by simpa [mkc] using h1), (by simp [AllO, All2])⟩ ?_))))))))
 clear E h1
 rintro ⟨k, css⟩ w2 ⟨E, z2, hk, hlk, h1, hA⟩
 refine Q7 [(0, vxs), (2, .slice none 0 0), (3, .slice (some ⟨b1, 0, none⟩) xs.length xs.length), (4, .int .i64 ((k : Nat) : Int))] ⟨Z, Z, Z, Z, trivial⟩ ?_
 refine Qf (Qf (Qh [true, true, true, true] Z Z (Qa (Qe Z) Z (Qa (Qe Z) Z (Qa (Q4 Tryz.underlying25 Z (hxs.ext E).len) Z (Qa (Yb Z Z) Z (Qd (Qu Z (fun hc1 => ?_) (fun hc1 => ?_)))))))))
 ·have hc1n : k < xs.length := by first | (have h := of_decide_eq_true hc1; omega) | (have h := hc1; simp at h; omega)
  refine Qp (Qf (Qy (Qh [true, true, true, true, true, true, false, true, false] Z Z (Qa (Qe Z) Z (Qa (Qe Z) Z (Qa (Qe Z) Z (Qa (Qe Z) Z ?_)))))))
  have hi1 : k < xs.length := (by first | assumption | omega | (simp only [List.length_set]; first | assumption | omega))
  obtain ⟨_, hr1, ha1⟩ := RdD.get hxs hi1
  obtain ⟨o1, o2, o3, o4, o5, o6, o7, o8, rfl, hd1, hd2, hd3, hd4, hd5, hd6, hd7, hd8⟩ := Worker.op hr1
  replace ha1 : At w (Xm vxs) (Xl vxs + k * 8) [o1, o2, o3, o4, o5, o6, o7, o8] := ha1
  refine Qa (Qv (i := k) sl25 Z Z (hxs.ext E).1 hi1) Z (Qa (Q1 st97 Z (ha1.ext E) Z) Z (Q0 Tryz.call54 Z (c_toWorker [o1, o2, o3, o4, o5, o6, o7, o8] (xs[k]'hi1) _ (Worker.mkR (xs[k]'hi1) (RdD.any (hd1.ext E)) (RdD.any (hd2.ext E)) (RdD.any (hd3.ext E)) (RdD.any (hd4.ext E)) (RdD.any (hd5.ext E)) (RdD.any (hd6.ext E)) (RdD.any (hd7.ext E)) (RdD.any (hd8.ext E))) (by have := sum_le (f := Yd) (show k < xs.length by omega); omega)) Z (fun _ w3 e2 ho1 => ?_)))
  obtain ⟨_, rfl, ho1⟩ := ho1
  have g_ho1 : w.heap.size ≤ w2.heap.size := E.size
  replace E := E.trans e2; replace h1 := h1.ext e2; replace hA := hA.ext e2
  have z3 := e2.size
  obtain ⟨o9, o10, o11, o12, o13, o14, o15, o16, rfl, sp1, hw1, hw2, hw3, hw4, hw5, hw6, hw7, hw8⟩ := Worker.opO ho1
  refine Qa (R_indexB Kf Z Z (by first | assumption | omega | (simp only [List.length_set]; first | assumption | omega))) Z (Ya (cs' := mkc (css ++ [[o9, o10, o11, o12, o13, o14, o15, o16]]) [.slice none 0 0, .slice none 0 0, .slice none 0 0, .slice none 0 0, .slice none 0 0, .slice none 0 0, .slice none 0 0, .slice none 0 0] (xs.length - (k + 1))) Xt Z Z Z (Ql hw1.one (Ql hw2.one (Ql hw3.one (Ql hw4.one (Ql hw5.one (Ql hw6.one (Ql hw7.one (Ql hw8.one Z)))))))) h1 (mkc_room hA.d hlk Z hc1n (by rfl)) (mkc_step hA.d hlk Z hc1n Z) (fun w4 m1 h1' => ?_))
  replace h1 := h1'
  replace E := E.step m1 (fun g hg => by cases hg; omega); replace hA := hA.mod m1 (fun g hg => by cases hg; omega); replace hw1 := hw1.mod m1 (fun g hg => by cases hg; omega); replace hw2 := hw2.mod m1 (fun g hg => by cases hg; omega); replace hw3 := hw3.mod m1 (fun g hg => by cases hg; omega); replace hw4 := hw4.mod m1 (fun g hg => by cases hg; omega); replace hw5 := hw5.mod m1 (fun g hg => by cases hg; omega); replace hw6 := hw6.mod m1 (fun g hg => by cases hg; omega); replace hw7 := hw7.mod m1 (fun g hg => by cases hg; omega); replace hw8 := hw8.mod m1 (fun g hg => by cases hg; omega)
  have z4 := m1.size
  refine Qd (Q5 (Yt (Qh [true, true, true] Z Z (Qa (Qe Z) Z (Qa (Q8 Z Z (Yq hc1n (hxs.ext E).1.1)) Z (Qa (Qg Z) Z (Qd (Q5 (Q9 (k + 1, css ++ [[o9, o10, o11, o12, o13, o14, o15, o16]]) (by simp; omega) ⟨Z, Z, Z, Z, trivial⟩ ⟨E, (by omega), (by omega), (by simp [hlk]), h1, (AllO.widen (AllO.step hA hc1n (Worker.mkO (xs[k]'hi1) sp1 (Own.widen hw1 (by omega) (by omega)) (Own.widen hw2 (by omega) (by omega)) (Own.widen hw3 (by omega) (by omega)) (Own.widen hw4 (by omega) (by omega)) (Own.widen hw5 (by omega) (by omega)) (Own.widen hw6 (by omega) (by omega)) (Own.widen hw7 (by omega) (by omega)) (Own.widen hw8 (by omega) (by omega))) (Nat.le_refl _) (Nat.le_refl _) (by omega) (by omega)) (Nat.le_refl _) (by omega))⟩)))))))))
 ·have hc1n : ¬ k < xs.length := by first | (have h := of_decide_eq_false hc1; omega) | (have h := hc1; simp at h; omega)
  refine Yi (Q3 (Q2 ?_))
  refine Qf (Qh [true, true] Z Z (Qa (Qe Z) Z (Qa (Qg Z) Z (Qd (Qw (Qm Z Z E ?_))))))
  obtain rfl : k = xs.length := by omega
  rw [Nat.sub_self, mkc_all] at h1
  rw [List.take_length] at hA
  exact OwS.ofBlk h1 hA (by have := E.size; omega) (by omega) (by have := E.size; omega) (by omega) (by omega) Z (by unfold maxLen; omega)

set_option maxRecDepth 20000 in
theorem c_eqWorkerS (vxs : Value) (xs : List Worker) (vys : Value) (ys : List Worker) (w : World) (hxs : RdD w 0 w.heap.size vxs xs) (hys : RdD w 0 w.heap.size vys ys) : Ct Tryz.prog 30 [vxs, vys] w (fun v _ => v = .bool (decide (xs = ys))) := by
 refine Yj Tryz.func30 Z Tryz.ntmps30 Z ?_
 refine Q7 [(0, vxs), (1, vys)] ⟨Z, Z, trivial⟩ ?_
 have E : Ext w w := Ext.refl w
 refine Qf (Qh [true] Z Z (Qa (Qg Z) Z (Qd (Qf (Qf (Qh [true, true, true, true, true] Z Z (Qa (Qe Z) Z (Qa (Q4 Tryz.underlying35 Z (hxs.ext E).len) Z (Qa (Qe Z) Z (Qa (Q4 Tryz.underlying35 Z (hys.ext E).len) Z (Qa (Yr Z Z) Z (Qd (Qu Z (fun hc1 => ?_) (fun hc1 => ?_))))))))))))))
 ·have hc1n : ¬ xs.length = ys.length := by first | (have h := of_decide_eq_true hc1; omega) | (have h := hc1; simp at h; omega)
  refine Qf (Qh [true] Z Z (Qa (Qg Z) Z (Qd (Qw (Qm Z Z E ?_)))))
  simp [eq_len hc1n]
 ·have hc1n : xs.length = ys.length := by first | (have h := of_decide_eq_false hc1; omega) | (have h := hc1; simp at h; omega)
  refine Qp (Qf (Qf (Qh [true] Z Z (Qa (Qg Z) Z (Qd (Qy (Yh (fun (k : Nat) => [(0, vxs), (1, vys), (4, .bool false), (5, .int .i64 ((k : Nat) : Int))]) (fun (k : Nat) w' => Ext w w' ∧ w.heap.size ≤ w'.heap.size ∧ k ≤ xs.length ∧ xs.take k = ys.take k) (fun (k : Nat) => xs.length - k) 0 ⟨Z, Z, Z, Z, trivial⟩ ⟨E, Nat.le_refl _, Nat.zero_le _, Z⟩ ?_)))))))
  clear E
  rintro k w1 ⟨E, z1, hk, hp⟩
  refine Qf (Qf (Qh [true, true, true, true] Z Z (Qa (Qe Z) Z (Qa (Qe Z) Z (Qa (Q4 Tryz.underlying35 Z (hxs.ext E).len) Z (Qa (Yb Z Z) Z (Qd (Qu Z (fun hc2 => ?_) (fun hc2 => ?_)))))))))
  ·have hc2n : k < xs.length := by first | (have h := of_decide_eq_true hc2; omega) | (have h := hc2; simp at h; omega)
   refine Qp (Qf (Qy (Qf (Y7 Y8 [(0, true), (1, true), (2, true), (3, true), (4, true), (5, true), (6, true), (7, true), (8, false), (9, true)] (by decide +kernel) Z (fun w2 e1 => ?_)))))
   replace E := E.trans e1
   have z2 := e1.size
   refine Qa (Qe Z) Z (Qa (Qe Z) Z ?_)
   have hi1 : k < xs.length := (by first | assumption | omega | (simp only [List.length_set]; first | assumption | omega))
   obtain ⟨_, hr1, ha1⟩ := RdD.get hxs hi1
   obtain ⟨o1, o2, o3, o4, o5, o6, o7, o8, rfl, hd1, hd2, hd3, hd4, hd5, hd6, hd7, hd8⟩ := Worker.op hr1
   replace ha1 : At w (Xm vxs) (Xl vxs + k * 8) [o1, o2, o3, o4, o5, o6, o7, o8] := ha1
   refine Qa (Qv (i := k) Kf Z Z (hxs.ext E).1 hi1) Z (Qa (Q1 Xt Z (ha1.ext E) Z) Z (Qa (Qe Z) Z (Qa (Qe Z) Z ?_)))
   have hi2 : k < ys.length := (by first | assumption | omega | (simp only [List.length_set]; first | assumption | omega))
   obtain ⟨_, hr2, ha2⟩ := RdD.get hys hi2
   obtain ⟨o9, o10, o11, o12, o13, o14, o15, o16, rfl, hd9, hd10, hd11, hd12, hd13, hd14, hd15, hd16⟩ := Worker.op hr2
   replace ha2 : At w (Xm vys) (Xl vys + k * 8) [o9, o10, o11, o12, o13, o14, o15, o16] := ha2
   refine Qa (Qv (i := k) Kf Z Z (hys.ext E).1 hi2) Z (Qa (Q1 Xt Z (ha2.ext E) Z) Z (Q0 Tryz.call66 Z (c_eqWorker [o1, o2, o3, o4, o5, o6, o7, o8] (xs[k]'hi1) [o9, o10, o11, o12, o13, o14, o15, o16] (ys[k]'hi2) _ (Worker.mkR (xs[k]'hi1) (RdD.any (hd1.ext E)) (RdD.any (hd2.ext E)) (RdD.any (hd3.ext E)) (RdD.any (hd4.ext E)) (RdD.any (hd5.ext E)) (RdD.any (hd6.ext E)) (RdD.any (hd7.ext E)) (RdD.any (hd8.ext E))) (Worker.mkR (ys[k]'hi2) (RdD.any (hd9.ext E)) (RdD.any (hd10.ext E)) (RdD.any (hd11.ext E)) (RdD.any (hd12.ext E)) (RdD.any (hd13.ext E)) (RdD.any (hd14.ext E)) (RdD.any (hd15.ext E)) (RdD.any (hd16.ext E)))) Z (fun _ w3 e2 hv => ?_)))
   subst hv
   replace E := E.trans e2
   have z3 := e2.size
   refine Qa (Yn Z) Z (Qd (Qu Z (fun hc3 => ?_) (fun hc3 => ?_)))
   ·refine Qf (Qh [true] Z Z (Qa (Qg Z) Z (Qd (Qw (Qx (Yg (Qx (Qm Z Z E ?_))))))))
    exact eqS_no (by omega) (by omega) (by simpa using hc3)
   ·refine Qp (Q5 (Yt (Qh [true, true, true] Z Z (Qa (Qe Z) Z (Qa (Q8 Z Z (Yq hc2n (hxs.ext E).1.1)) Z (Qa (Qg Z) Z (Qd (Q5 (Q9 (k + 1) (by omega) ⟨Z, Z, Z, Z, trivial⟩ ⟨E, (by omega), (by omega), eqS_step hp (by assumption) (by omega) (by simpa using hc3)⟩)))))))))
  ·have hc2n : ¬ k < xs.length := by first | (have h := of_decide_eq_false hc2; omega) | (have h := hc2; simp at h; omega)
   refine Yi (Q3 (Q2 ?_))
   refine Qf (Qh [true] Z Z (Qa (Qg Z) Z (Qd (Qw (Qm Z Z E ?_)))))
   exact eqS_yes hp hc1n (by omega)

set_option maxHeartbeats 4000000 in
set_option maxRecDepth 20000 in
theorem c_szCluster (cx : List Value) (x : Cluster) (n : Int) (w : World) (hx : Dat.R w 0 w.heap.size cx x) (h0 : 0 ≤ n ∧ n ≤ 1048576) : Ct Tryz.prog 5 [.agg cx.toArray, .int .i64 n] w (fun v _ => v = .int .i64 (Kh (Yf x) n)) := by
 refine Yj Tryz.func5 Z Tryz.ntmps5 Z ?_
 obtain ⟨o1, o2, o3, o4, o5, rfl, hd1, hd2, hd3, hd4, hd5⟩ := Cluster.op hx
 refine Q7 [(0, .agg [o1, .int .i64 x.graph.workers, .int .i64 x.graph.cap, o2, o3, o4, o5].toArray), (1, .int .i64 n)] ⟨Z, Z, trivial⟩ ?_
 have E : Ext w w := Ext.refl w
 refine Qf (Qh [false, true] Z Z (Yx Z Z (fun b1 w1 e1 s1 h1 => ?_)))
 have g_b1 : w.heap.size ≤ b1 := by have := E.size; omega
 have y_b1 := h1.lt
 replace E := E.trans e1
 have z1 := e1.size
 refine Qa (Qg Z) Z (Qd (Qf (Qh [true, true, true, false, true] Z Z (Qa (Qb fl30_0 Z) Z (Qa (Q1 st24 Z (h1.part 0 [o1, .int .i64 x.graph.workers, .int .i64 x.graph.cap] Z) Z) Z (Qa (Qe Z) Z (Q0 Tryz.call14 Z (c_szGraph [o1, .int .i64 x.graph.workers, .int .i64 x.graph.cap] x.graph n _ (Graph.mkR x.graph (RdD.any (hd1.ext E))) (by first | omega | (simp only [Qj]; omega) | (rw [Qj]; done) | (simp only [Qj]; done))) Z (fun _ w2 e2 hv => ?_))))))))
 subst hv
 replace E := E.trans e2; replace h1 := h1.ext e2
 have z2 := e2.size
 refine Qa (Qg Z) Z (Qd (Qf (Qf (Qh [true, true] Z Z (Qa (Qe Z) Z (Qa (Yb Z Z) Z (Qd (Qu Z (fun hc1 => ?_) (fun hc1 => ?_)))))))))
 ·have q1 := X4 hc1 (by omega)
  refine Qf (Qh [true] Z Z (Qa (Qg Z) Z (Qd (Qw (Qm Z Z E ?_)))))
  first | exact Xh (by unfold Yf; omega) | exact Xn (by unfold Yf; omega) (by unfold Yf; omega)
 ·have q2 := X3 hc1 (by omega)
  refine Qp (Qf (Qh [true, true, true, false, true] Z Z (Qa (Qb fl30_1 Z) Z (Qa (Qi sc25 Z (h1.one 3 Z)) Z (Qa (Qe Z) Z (Q0 Tryz.call15 Z (c_szWorkerS o2 x.workers (Kh (Y6 x.graph) n) _ (RdD.any (hd2.ext E)) (by first | omega | (simp only [Qj]; omega) | (rw [Qj]; done) | (simp only [Qj]; done))) Z (fun _ w3 e3 hv => ?_)))))))
  subst hv
  replace E := E.trans e3; replace h1 := h1.ext e3
  have z3 := e3.size
  refine Qa (Qg Z) Z (Qd (Qf (Qf (Qh [true, true] Z Z (Qa (Qe Z) Z (Qa (Yb Z Z) Z (Qd (Qu Z (fun hc2 => ?_) (fun hc2 => ?_)))))))))
  ·have q3 := X4 hc2 (by omega)
   refine Qf (Qh [true] Z Z (Qa (Qg Z) Z (Qd (Qw (Qm Z Z E ?_)))))
   first | exact Xh (by unfold Yf; omega) | exact Xn (by unfold Yf; omega) (by unfold Yf; omega)
  ·have q4 := X3 hc2 (by omega)
   refine Qp (Qf (Qh [true, true, true, false, true] Z Z (Qa (Qb fl30_2 Z) Z (Qa (Qi sc26 Z (h1.one 4 Z)) Z (Qa (Qe Z) Z (Q0 Tryz.call16 Z (c_szLinkS o3 x.links (Kh (Xu Yd x.workers) (Kh (Y6 x.graph) n)) _ (RdD.any (hd3.ext E)) (by first | omega | (simp only [Qj]; omega) | (rw [Qj]; done) | (simp only [Qj]; done))) Z (fun _ w4 e4 hv => ?_)))))))
   subst hv
   replace E := E.trans e4; replace h1 := h1.ext e4
   have z4 := e4.size
   refine Qa (Qg Z) Z (Qd (Qf (Qf (Qh [true, true] Z Z (Qa (Qe Z) Z (Qa (Yb Z Z) Z (Qd (Qu Z (fun hc3 => ?_) (fun hc3 => ?_)))))))))
   ·have q5 := X4 hc3 (by omega)
    refine Qf (Qh [true] Z Z (Qa (Qg Z) Z (Qd (Qw (Qm Z Z E ?_)))))
    first | exact Xh (by unfold Yf; omega) | exact Xn (by unfold Yf; omega) (by unfold Yf; omega)
   ·have q6 := X3 hc3 (by omega)
    refine Qp (Qf (Qh [true, true, true, false, true] Z Z (Qa (Qb fl30_3 Z) Z (Qa (Qi sc27 Z (h1.one 5 Z)) Z (Qa (Qe Z) Z (Q0 Tryz.call17 Z (c_szTokenS o4 x.tokens (Kh (Xu Y9 x.links) (Kh (Xu Yd x.workers) (Kh (Y6 x.graph) n))) _ (hd4.rd.ext E) (by first | omega | (simp only [Qj]; omega) | (rw [Qj]; done) | (simp only [Qj]; done))) Z (fun _ w5 e5 hv => ?_)))))))
    subst hv
    replace E := E.trans e5; replace h1 := h1.ext e5
    have z5 := e5.size
    refine Qa (Qg Z) Z (Qd (Qf (Qf (Qh [true, true] Z Z (Qa (Qe Z) Z (Qa (Yb Z Z) Z (Qd (Qu Z (fun hc4 => ?_) (fun hc4 => ?_)))))))))
    ·have q7 := X4 hc4 (by omega)
     refine Qf (Qh [true] Z Z (Qa (Qg Z) Z (Qd (Qw (Qm Z Z E ?_)))))
     first | exact Xh (by unfold Yf; omega) | exact Xn (by unfold Yf; omega) (by unfold Yf; omega)
    ·have q8 := X3 hc4 (by omega)
     refine Qp (Qf (Qh [true, true, true, false, true] Z Z (Qa (Qb fl30_4 Z) Z (Qa (Qi sc28 Z (h1.one 6 Z)) Z (Qa (Qe Z) Z (Q0 Tryz.call18 Z (c_szNewsS o5 x.news (Kh x.tokens.length (Kh (Xu Y9 x.links) (Kh (Xu Yd x.workers) (Kh (Y6 x.graph) n)))) _ (hd5.rd.ext E) (by first | omega | (simp only [Qj]; omega) | (rw [Qj]; done) | (simp only [Qj]; done))) Z (fun _ w6 e6 hv => ?_)))))))
     subst hv
     replace E := E.trans e6; replace h1 := h1.ext e6
     have z6 := e6.size
     refine Qa (Qg Z) Z (Qd (Qf (Qf (Qh [true, true] Z Z (Qa (Qe Z) Z (Qa (Yb Z Z) Z (Qd (Qu Z (fun hc5 => ?_) (fun hc5 => ?_)))))))))
     ·have q9 := X4 hc5 (by omega)
      refine Qf (Qh [true] Z Z (Qa (Qg Z) Z (Qd (Qw (Qm Z Z E ?_)))))
      first | exact Xh (by unfold Yf; omega) | exact Xn (by unfold Yf; omega) (by unfold Yf; omega)
     ·have q10 := X3 hc5 (by omega)
      refine Qp (Qf (Qh [true, true] Z Z (Qa (Qe Z) Z (Qa (Qg Z) Z (Qd (Qw (Qm Z Z E ?_)))))))
      first | exact Xh (by unfold Yf; omega) | exact Xn (by unfold Yf; omega) (by unfold Yf; omega)

set_option maxRecDepth 20000 in
theorem c_eqCluster (cx : List Value) (x : Cluster) (cy : List Value) (y : Cluster) (w : World) (hx : Dat.R w 0 w.heap.size cx x) (hy : Dat.R w 0 w.heap.size cy y) : Ct Tryz.prog 9 [.agg cx.toArray, .agg cy.toArray] w (fun v _ => v = .bool (decide (x = y))) := by
 refine Yj Tryz.func9 Z Tryz.ntmps9 Z ?_
 obtain ⟨o1, o2, o3, o4, o5, rfl, hd1, hd2, hd3, hd4, hd5⟩ := Cluster.op hx
 obtain ⟨o6, o7, o8, o9, o10, rfl, hd6, hd7, hd8, hd9, hd10⟩ := Cluster.op hy
 refine Q7 [(0, .agg [o1, .int .i64 x.graph.workers, .int .i64 x.graph.cap, o2, o3, o4, o5].toArray), (1, .agg [o6, .int .i64 y.graph.workers, .int .i64 y.graph.cap, o7, o8, o9, o10].toArray)] ⟨Z, Z, trivial⟩ ?_
 have E : Ext w w := Ext.refl w
 refine Qf (Qh [false, false, true] Z Z (Yx Z Z (fun b1 w1 e1 s1 h1 => ?_)))
 have g_b1 : w.heap.size ≤ b1 := by have := E.size; omega
 have y_b1 := h1.lt
 replace E := E.trans e1
 have z1 := e1.size
 refine Yx Z Z (fun b2 w2 e2 s2 h2 => ?_)
 have g_b2 : w.heap.size ≤ b2 := by have := E.size; omega
 have y_b2 := h2.lt
 replace E := E.trans e2; replace h1 := h1.ext e2
 have z2 := e2.size
 refine Qa (Qg Z) Z (Qd (Qf (Qf (Qh [true, true, true, true, false, true] Z Z (Qa (Qb Kd Z) Z (Qa (Q1 X2 Z (h1.part 0 [o1, .int .i64 x.graph.workers, .int .i64 x.graph.cap] Z) Z) Z (Qa (Qb Kd Z) Z (Qa (Q1 X2 Z (h2.part 0 [o6, .int .i64 y.graph.workers, .int .i64 y.graph.cap] Z) Z) Z (Q0 Tryz.call29 Z (c_eqGraph [o1, .int .i64 x.graph.workers, .int .i64 x.graph.cap] x.graph [o6, .int .i64 y.graph.workers, .int .i64 y.graph.cap] y.graph _ (Graph.mkR x.graph (RdD.any (hd1.ext E))) (Graph.mkR y.graph (RdD.any (hd6.ext E)))) Z (fun _ w3 e3 hv => ?_))))))))))
 subst hv
 replace E := E.trans e3; replace h1 := h1.ext e3; replace h2 := h2.ext e3
 have z3 := e3.size
 refine Qa (Yn Z) Z (Qd (Qu Z (fun hc1 => ?_) (fun hc1 => ?_)))
 ·refine Qf (Qh [true] Z Z (Qa (Qg Z) Z (Qd (Qw (Qm Z Z E ?_)))))
  cases x; cases y; simp_all
 ·refine Qp (Qf (Qf (Qh [true, true, true, true, false, true] Z Z (Qa (Qb Xk Z) Z (Qa (Qi sc35 Z (h1.one 3 Z)) Z (Qa (Qb Xk Z) Z (Qa (Qi sc35 Z (h2.one 3 Z)) Z (Q0 Tryz.call30 Z (c_eqWorkerS o2 x.workers o7 y.workers _ (RdD.any (hd2.ext E)) (RdD.any (hd7.ext E))) Z (fun _ w4 e4 hv => ?_)))))))))
  subst hv
  replace E := E.trans e4; replace h1 := h1.ext e4; replace h2 := h2.ext e4
  have z4 := e4.size
  refine Qa (Yn Z) Z (Qd (Qu Z (fun hc2 => ?_) (fun hc2 => ?_)))
  ·refine Qf (Qh [true] Z Z (Qa (Qg Z) Z (Qd (Qw (Qm Z Z E ?_)))))
   cases x; cases y; simp_all
  ·refine Qp (Qf (Qf (Qh [true, true, true, true, false, true] Z Z (Qa (Qb X1 Z) Z (Qa (Qi sc36 Z (h1.one 4 Z)) Z (Qa (Qb X1 Z) Z (Qa (Qi sc36 Z (h2.one 4 Z)) Z (Q0 Tryz.call31 Z (c_eqLinkS o3 x.links o8 y.links _ (RdD.any (hd3.ext E)) (RdD.any (hd8.ext E))) Z (fun _ w5 e5 hv => ?_)))))))))
   subst hv
   replace E := E.trans e5; replace h1 := h1.ext e5; replace h2 := h2.ext e5
   have z5 := e5.size
   refine Qa (Yn Z) Z (Qd (Qu Z (fun hc3 => ?_) (fun hc3 => ?_)))
   ·refine Qf (Qh [true] Z Z (Qa (Qg Z) Z (Qd (Qw (Qm Z Z E ?_)))))
    cases x; cases y; simp_all
   ·refine Qp (Qf (Qf (Qh [true, true, true, true, false, true] Z Z (Qa (Qb Kj Z) Z (Qa (Qi sc37 Z (h1.one 5 Z)) Z (Qa (Qb Kj Z) Z (Qa (Qi sc37 Z (h2.one 5 Z)) Z (Q0 Tryz.call32 Z (c_eqTokenS o4 x.tokens o9 y.tokens _ (hd4.rd.ext E) (hd9.rd.ext E)) Z (fun _ w6 e6 hv => ?_)))))))))
    subst hv
    replace E := E.trans e6; replace h1 := h1.ext e6; replace h2 := h2.ext e6
    have z6 := e6.size
    refine Qa (Yn Z) Z (Qd (Qu Z (fun hc4 => ?_) (fun hc4 => ?_)))
    ·refine Qf (Qh [true] Z Z (Qa (Qg Z) Z (Qd (Qw (Qm Z Z E ?_)))))
     cases x; cases y; simp_all
    ·refine Qp (Qf (Qf (Qh [true, true, true, true, false, true] Z Z (Qa (Qb fl40_4 Z) Z (Qa (Qi sc38 Z (h1.one 6 Z)) Z (Qa (Qb fl40_4 Z) Z (Qa (Qi sc38 Z (h2.one 6 Z)) Z (Q0 Tryz.call33 Z (c_eqNewsS o5 x.news o10 y.news _ (hd5.rd.ext E) (hd10.rd.ext E)) Z (fun _ w7 e7 hv => ?_)))))))))
     subst hv
     replace E := E.trans e7; replace h1 := h1.ext e7; replace h2 := h2.ext e7
     have z7 := e7.size
     refine Qa (Yn Z) Z (Qd (Qu Z (fun hc5 => ?_) (fun hc5 => ?_)))
     ·refine Qf (Qh [true] Z Z (Qa (Qg Z) Z (Qd (Qw (Qm Z Z E ?_)))))
      cases x; cases y; simp_all
     ·refine Qp (Qf (Qh [true] Z Z (Qa (Qg Z) Z (Qd (Qw (Qm Z Z E ?_))))))
      cases x; cases y; simp_all

set_option maxRecDepth 20000 in
theorem c_toCluster (cx : List Value) (x : Cluster) (w : World) (hx : Dat.R w 0 w.heap.size cx x) (hb : Yf x ≤ 1048576) : Ct Tryz.prog 7 [.agg cx.toArray] w (fun v w' => ∃ o1 o2 o3 o4 o5, v = .agg [o1, .int .i64 x.graph.workers, .int .i64 x.graph.cap, o2, o3, o4, o5].toArray ∧ OwC w' w.heap.size w'.heap.size o1 o2 o3 o4 o5 x) := by
 unfold Yf at hb
 refine Yj Tryz.func7 Z Tryz.ntmps7 Z ?_
 obtain ⟨o1, o2, o3, o4, o5, rfl, hd1, hd2, hd3, hd4, hd5⟩ := Cluster.op hx
 refine Q7 [(0, .agg [o1, .int .i64 x.graph.workers, .int .i64 x.graph.cap, o2, o3, o4, o5].toArray)] ⟨Z, trivial⟩ ?_
 have E : Ext w w := Ext.refl w
 refine Qf (Qh [false, false] Z Z (Yx Z Z (fun b1 w1 e1 s1 h1 => ?_)))
 have g_b1 : w.heap.size ≤ b1 := by have := E.size; omega
 have y_b1 := h1.lt
 replace E := E.trans e1
 have z1 := e1.size
 refine Yu Xd Z (fun b2 w2 e2 s2 h2 => ?_)
 have g_b2 : w.heap.size ≤ b2 := by have := E.size; omega
 have y_b2 := h2.lt
 replace E := E.trans e2; replace h1 := h1.ext e2
 have z2 := e2.size
 refine Qd (Qf (Qh [false] Z Z (Yu Xd Z (fun b3 w3 e3 s3 h3 => ?_))))
 have g_b3 : w.heap.size ≤ b3 := by have := E.size; omega
 have y_b3 := h3.lt
 replace E := E.trans e3; replace h1 := h1.ext e3; replace h2 := h2.ext e3
 have z3 := e3.size
 refine Qd (Qf (Qh [true, true, false, true, false] Z Z (Qa (Qb fl30_0 Z) Z (Qa (Q1 st24 Z (h1.part 0 [o1, .int .i64 x.graph.workers, .int .i64 x.graph.cap] Z) Z) Z (Q0 Tryz.call21 Z (c_toGraph [o1, .int .i64 x.graph.workers, .int .i64 x.graph.cap] x.graph _ (Graph.mkR x.graph (RdD.any (hd1.ext E))) (by first | omega | (simp only [Qj]; omega) | (rw [Qj]; done) | (simp only [Qj]; done))) Z (fun _ w4 e4 ho1 => ?_))))))
 obtain ⟨o6, rfl, ho1⟩ := ho1
 have g_ho1 : w.heap.size ≤ w3.heap.size := E.size
 replace E := E.trans e4; replace h1 := h1.ext e4; replace h2 := h2.ext e4; replace h3 := h3.ext e4
 have z4 := e4.size
 refine Qa (Qb Kd Z) Z (Ya (cs' := [o6, .int .i64 x.graph.workers, .int .i64 x.graph.cap, .slice none 0 0, .slice none 0 0, .slice none 0 0, .slice none 0 0]) X2 Z Z Z (Ql (RdD.one (OwS.rd ho1)) (Ql Z (Ql Z Z))) h3 (Nat.le_of_ble_eq_true Z) Z (fun w5 m1 h3' => ?_))
 replace h3 := h3'
 replace E := E.step m1 (fun g hg => by cases hg; omega); replace h1 := h1.mod m1 (fun g hg => by cases hg; omega); replace h2 := h2.mod m1 (fun g hg => by cases hg; omega); replace ho1 := ho1.mod m1 (fun g hg => by cases hg; omega)
 have z5 := m1.size
 refine Qd (Qf (Qh [true, true, false, true, false] Z Z (Qa (Qb fl30_1 Z) Z (Qa (Qi sc25 Z (h1.one 3 Z)) Z (Q0 Tryz.call22 Z (c_toWorkerS o2 x.workers _ (RdD.any (hd2.ext E)) (by first | omega | (simp only [Qj]; omega) | (rw [Qj]; done) | (simp only [Qj]; done))) Z (fun v1 w6 e5 ho2 => ?_))))))
 have g_ho2 : w.heap.size ≤ w5.heap.size := E.size
 replace E := E.trans e5; replace h1 := h1.ext e5; replace h2 := h2.ext e5; replace h3 := h3.ext e5; replace ho1 := ho1.ext e5
 have z6 := e5.size
 refine Qa (Qb Xk Z) Z (Ye (cs' := [o6, .int .i64 x.graph.workers, .int .i64 x.graph.cap, v1, .slice none 0 0, .slice none 0 0, .slice none 0 0]) sc35 Z Z (RdD.one (OwS.rd ho2)) h3 (Nat.le_of_ble_eq_true Z) Z (fun w7 m2 h3' => ?_))
 replace h3 := h3'
 replace E := E.step m2 (fun g hg => by cases hg; omega); replace h1 := h1.mod m2 (fun g hg => by cases hg; omega); replace h2 := h2.mod m2 (fun g hg => by cases hg; omega); replace ho1 := ho1.mod m2 (fun g hg => by cases hg; omega); replace ho2 := ho2.mod m2 (fun g hg => by cases hg; omega)
 have z7 := m2.size
 refine Qd (Qf (Qh [true, true, false, true, false] Z Z (Qa (Qb fl30_2 Z) Z (Qa (Qi sc26 Z (h1.one 4 Z)) Z (Q0 Tryz.call23 Z (c_toLinkS o3 x.links _ (RdD.any (hd3.ext E)) (by first | omega | (simp only [Qj]; omega) | (rw [Qj]; done) | (simp only [Qj]; done))) Z (fun v2 w8 e6 ho3 => ?_))))))
 have g_ho3 : w.heap.size ≤ w7.heap.size := E.size
 replace E := E.trans e6; replace h1 := h1.ext e6; replace h2 := h2.ext e6; replace h3 := h3.ext e6; replace ho1 := ho1.ext e6; replace ho2 := ho2.ext e6
 have z8 := e6.size
 refine Qa (Qb X1 Z) Z (Ye (cs' := [o6, .int .i64 x.graph.workers, .int .i64 x.graph.cap, v1, v2, .slice none 0 0, .slice none 0 0]) sc36 Z Z (RdD.one (OwS.rd ho3)) h3 (Nat.le_of_ble_eq_true Z) Z (fun w9 m3 h3' => ?_))
 replace h3 := h3'
 replace E := E.step m3 (fun g hg => by cases hg; omega); replace h1 := h1.mod m3 (fun g hg => by cases hg; omega); replace h2 := h2.mod m3 (fun g hg => by cases hg; omega); replace ho1 := ho1.mod m3 (fun g hg => by cases hg; omega); replace ho2 := ho2.mod m3 (fun g hg => by cases hg; omega); replace ho3 := ho3.mod m3 (fun g hg => by cases hg; omega)
 have z9 := m3.size
 refine Qd (Qf (Qh [true, true, false, true, false] Z Z (Qa (Qb fl30_3 Z) Z (Qa (Qi sc27 Z (h1.one 5 Z)) Z (Q0 Tryz.call24 Z (c_toTokenS o4 x.tokens _ (hd4.rd.ext E) (by first | omega | (simp only [Qj]; omega) | (rw [Qj]; done) | (simp only [Qj]; done))) Z (fun v3 w10 e7 ho4 => ?_))))))
 have g_ho4 : w.heap.size ≤ w9.heap.size := E.size
 replace E := E.trans e7; replace h1 := h1.ext e7; replace h2 := h2.ext e7; replace h3 := h3.ext e7; replace ho1 := ho1.ext e7; replace ho2 := ho2.ext e7; replace ho3 := ho3.ext e7
 have z10 := e7.size
 refine Qa (Qb Kj Z) Z (Ye (cs' := [o6, .int .i64 x.graph.workers, .int .i64 x.graph.cap, v1, v2, v3, .slice none 0 0]) sc37 Z Z ho4.one h3 (Nat.le_of_ble_eq_true Z) Z (fun w11 m4 h3' => ?_))
 replace h3 := h3'
 replace E := E.step m4 (fun g hg => by cases hg; omega); replace h1 := h1.mod m4 (fun g hg => by cases hg; omega); replace h2 := h2.mod m4 (fun g hg => by cases hg; omega); replace ho1 := ho1.mod m4 (fun g hg => by cases hg; omega); replace ho2 := ho2.mod m4 (fun g hg => by cases hg; omega); replace ho3 := ho3.mod m4 (fun g hg => by cases hg; omega); replace ho4 := ho4.mod m4 (fun g hg => by cases hg; omega)
 have z11 := m4.size
 refine Qd (Qf (Qh [true, true, false, true, false] Z Z (Qa (Qb fl30_4 Z) Z (Qa (Qi sc28 Z (h1.one 6 Z)) Z (Q0 Tryz.call25 Z (c_toNewsS o5 x.news _ (hd5.rd.ext E) (by first | omega | (simp only [Qj]; omega) | (rw [Qj]; done) | (simp only [Qj]; done))) Z (fun v4 w12 e8 ho5 => ?_))))))
 have g_ho5 : w.heap.size ≤ w11.heap.size := E.size
 replace E := E.trans e8; replace h1 := h1.ext e8; replace h2 := h2.ext e8; replace h3 := h3.ext e8; replace ho1 := ho1.ext e8; replace ho2 := ho2.ext e8; replace ho3 := ho3.ext e8; replace ho4 := ho4.ext e8
 have z12 := e8.size
 refine Qa (Qb fl40_4 Z) Z (Ye (cs' := [o6, .int .i64 x.graph.workers, .int .i64 x.graph.cap, v1, v2, v3, v4]) sc38 Z Z ho5.one h3 (Nat.le_of_ble_eq_true Z) Z (fun w13 m5 h3' => ?_))
 replace h3 := h3'
 replace E := E.step m5 (fun g hg => by cases hg; omega); replace h1 := h1.mod m5 (fun g hg => by cases hg; omega); replace h2 := h2.mod m5 (fun g hg => by cases hg; omega); replace ho1 := ho1.mod m5 (fun g hg => by cases hg; omega); replace ho2 := ho2.mod m5 (fun g hg => by cases hg; omega); replace ho3 := ho3.mod m5 (fun g hg => by cases hg; omega); replace ho4 := ho4.mod m5 (fun g hg => by cases hg; omega); replace ho5 := ho5.mod m5 (fun g hg => by cases hg; omega)
 have z13 := m5.size
 refine Qd (Qf (Qh [true, false] Z Z (Qa (Q1 Xd Z h3.at Z) Z (Ya (cs' := [o6, .int .i64 x.graph.workers, .int .i64 x.graph.cap, v1, v2, v3, v4]) Xd Z Z Z (Ql (RdD.one (OwS.rd ho1)) (Ql Z (Ql Z (Ql (RdD.one (OwS.rd ho2)) (Ql (RdD.one (OwS.rd ho3)) (Ql ho4.one (Ql ho5.one Z))))))) h2 (Nat.le_of_ble_eq_true Z) Z (fun w14 m6 h2' => ?_)))))
 replace h2 := h2'
 replace E := E.step m6 (fun g hg => by cases hg; omega); replace h1 := h1.mod m6 (fun g hg => by cases hg; omega); replace h3 := h3.mod m6 (fun g hg => by cases hg; omega); replace ho1 := ho1.mod m6 (fun g hg => by cases hg; omega); replace ho2 := ho2.mod m6 (fun g hg => by cases hg; omega); replace ho3 := ho3.mod m6 (fun g hg => by cases hg; omega); replace ho4 := ho4.mod m6 (fun g hg => by cases hg; omega); replace ho5 := ho5.mod m6 (fun g hg => by cases hg; omega)
 have z14 := m6.size
 refine Qd (Qw (Xi Z Z (Ys Xd h2.at Z) E ?_))
 exact ⟨_, _, _, _, _, Z, OwC.of x ho1 ho2 ho3 ho4 ho5 (by have := E.size; omega) (by omega)⟩

set_option maxRecDepth 20000 in
theorem c_allRecordsOk (vxs : Value) (xs : List Record) (w : World) (hxs : RdS w vxs xs) : Ct Tryz.prog 119 [vxs] w (fun v _ => v = .bool (xs.all Kb)) := by
 refine Yj Tryz.func119 Z Tryz.ntmps119 Z ?_
 refine Q7 [(0, vxs)] ⟨Z, trivial⟩ ?_
 have E : Ext w w := Ext.refl w
 refine Qf (Qh [true] Z Z (Qa (Qg Z) Z (Qd (Qf (Qf (Qh [true, true, true] Z Z (Qa (Qe Z) Z (Qa (Q4 Tryz.underlying66 Z (hxs.ext E).len) Z (Qa (Qe Z) Z (Qd (Qy (Yh (fun (k : Nat) => [(2, .bool false), (5, vxs), (6, .int .i64 ((xs.length : Nat) : Int)), (7, .int .i64 ((k : Nat) : Int))]) (fun (k : Nat) w' => Ext w w' ∧ w.heap.size ≤ w'.heap.size ∧ k ≤ xs.length ∧ (xs.take k).all Kb = true) (fun (k : Nat) => xs.length - k) 0 ⟨Z, Z, Z, Z, trivial⟩ ⟨E, Nat.le_refl _, Nat.zero_le _, Z⟩ ?_))))))))))))
 clear E
 rintro k w1 ⟨E, z1, hk, hI⟩
 refine Qf (Qh [true] Z Z (Qa (Yb Z Z) Z (Qd (Qf (Qu Z (fun hc1 => ?_) (fun hc1 => ?_))))))
 ·have hc1n : k < xs.length := by first | (have h := of_decide_eq_true hc1; omega) | (have h := hc1; simp at h; omega)
  refine Qp (Qf (Qy (Qf (Qh [true, true, false, false] Z Z ?_))))
  have hi1 : k < xs.length := (by first | assumption | omega | (simp only [List.length_set]; first | assumption | omega))
  refine Qa (Qv (i := k) Xx Z Z (hxs.ext E) hi1) Z (Qa (Q1 Kg Z ((hxs.ext E).get hi1) Z) Z (Yu Kg Z (fun b1 w2 e1 s1 h1 => ?_)))
  have g_b1 : w.heap.size ≤ b1 := by have := E.size; omega
  have y_b1 := h1.lt
  replace E := E.trans e1
  have z2 := e1.size
  refine Ya (cs' := [.int .i64 ((xs[k]'hi1).op), .int .i64 (((xs[k]'hi1).stamp).epoch), .int .i64 (((xs[k]'hi1).stamp).turn), .int .i64 ((xs[k]'hi1).key), .int .i64 ((xs[k]'hi1).val)]) Kg Z Z Z Z h1 (Nat.le_of_ble_eq_true Z) Z (fun w3 m1 h1' => ?_)
  replace h1 := h1'
  replace E := E.step m1 (fun g hg => by cases hg; omega)
  have z3 := m1.size
  refine Qd (Qf (Qh [true, false, true] Z Z (Qa (Q1 Kg Z h1.at Z) Z (Q0 Tryz.call126 Z (c_RecordOk (xs[k]'hi1) _ ) Z (fun _ w4 e2 hv => ?_)))))
  subst hv
  replace E := E.trans e2; replace h1 := h1.ext e2
  have z4 := e2.size
  refine Qa (Yn Z) Z (Qd (Qu Z (fun hc2 => ?_) (fun hc2 => ?_)))
  ·refine Qf (Qh [true] Z Z (Qa (Qg Z) Z (Qd (Qw (Qx (Yg (Qx (Qm Z Z E ?_))))))))
   exact all_no (by assumption) (by simpa using hc2)
  ·refine Qp (Q5 (Yt (Qh [true, true] Z Z (Qa (Q8 Z Z (Yq hc1n hxs.1)) Z (Qa (Qe Z) Z (Qd (Q5 (Q9 (k + 1) (by omega) ⟨Z, Z, Z, Z, trivial⟩ ⟨E, (by omega), (by omega), Y4 hI (by assumption) (by simpa using hc2)⟩))))))))
 ·have hc1n : ¬ k < xs.length := by first | (have h := of_decide_eq_false hc1; omega) | (have h := hc1; simp at h; omega)
  refine Yi (Q3 (Q2 ?_))
  refine Qf (Qh [true] Z Z (Qa (Qg Z) Z (Qd (Qw (Qm Z Z E ?_)))))
  exact all_yes hI (by omega)

set_option maxRecDepth 20000 in
theorem c_LinkOk (cx : List Value) (x : Link) (w : World) (hx : Dat.R w 0 w.heap.size cx x) (hr : rg x.got) : Ct Tryz.prog 85 [.agg cx.toArray] w (fun v _ => v = .bool (linkOk x)) := by
 refine Yj Tryz.func85 Z Tryz.ntmps85 Z ?_
 obtain ⟨o1, rfl, hd1⟩ := Link.op hx
 refine Q7 [(0, .agg [.int .i64 x.cap, o1, .int .i64 x.credits, .int .i64 x.back, .int .i64 x.sent, .int .i64 x.got].toArray)] ⟨Z, trivial⟩ ?_
 have E : Ext w w := Ext.refl w
 refine Qf (Qh [false, true] Z Z (Yx Z Z (fun b1 w1 e1 s1 h1 => ?_)))
 have g_b1 : w.heap.size ≤ b1 := by have := E.size; omega
 have y_b1 := h1.lt
 replace E := E.trans e1
 have z1 := e1.size
 refine Qa (Qg Z) Z (Qd (Qf (Qf (Qh [true, true, false, true, true, true, true, true, true, false, true, true, true, true, true, true, true, false, true, true, true, true, true, true, true, true, true, true, true, true, true, true, true, true] Z Z (Qa (Qb fl88_0 Z) Z (Qa (Qi Yk Z (h1.one 0 Z)) Z (Q0 Tryz.call62 Z (c_within x.cap 1 4 _ ) Z (fun _ w2 e2 hv => ?_))))))))
 subst hv
 replace E := E.trans e2; replace h1 := h1.ext e2
 have z2 := e2.size
 refine Qa (Yn Z) Z (Qa (Qe Z) Z (Yz 29 [(0, .agg [.int .i64 x.cap, o1, .int .i64 x.credits, .int .i64 x.back, .int .i64 x.sent, .int .i64 x.got].toArray), (1, .pointer (some ⟨b1, 0, none⟩)), (2, .bool false), (36, .bool ((((!(Yo x.cap 1 4)) || (!(Yo x.credits 0 x.cap))) || (!(Yo x.back 0 x.cap))) || ((IntKind.i64.wrap ((IntKind.i64.wrap (x.credits + x.back)) + ((x.queue.length : Nat) : Int))) != x.cap)))] (fun w' => Ext w w' ∧ w2.heap.size ≤ w'.heap.size ∧ Blk w' b1 ([.int .i64 x.cap, o1, .int .i64 x.credits, .int .i64 x.back, .int .i64 x.sent, .int .i64 x.got])) ?_ ?_))
 ·refine Ym (gd := 7) Z Z (fun hg1 => ?_) (fun hg1 => ?_)
  ·refine Qc Z Z Z Z (Qc Z Z Z Z (Qc Z Z Z Z (Qc Z Z Z Z ?_)))
   refine Yv Z Z Z Z ?_
   refine Qc Z Z Z Z (Qa (Qr Z Z) Z (Qa (Qe Z) Z (Qc Z Z Z Z (Qc Z Z Z Z (Qc Z Z Z Z (Qc Z Z Z Z ?_))))))
   refine Yv Z Z Z Z ?_
   refine Qc Z Z Z Z (Qa (Qr Z Z) Z (Qa (Qe Z) Z (Qc Z Z Z Z (Qc Z Z Z Z (Qc Z Z Z Z (Qc Z Z Z Z (Qc Z Z Z Z (Qc Z Z Z Z (Qc Z Z Z Z (Qc Z Z Z Z (Qc Z Z Z Z (Qc Z Z Z Z (Qc Z Z Z Z (Qc Z Z Z Z (Qa (Qr Z Z) Z (Qo ⟨Z, Z, Z, congrArg (fun b => some (Value.bool b)) (show true = ((((!(Yo x.cap 1 4)) || (!(Yo x.credits 0 x.cap))) || (!(Yo x.back 0 x.cap))) || ((IntKind.i64.wrap ((IntKind.i64.wrap (x.credits + x.back)) + ((x.queue.length : Nat) : Int))) != x.cap)) by first | (rw [hg1] <;> rfl) | (simp [hg1]; done) | (simp only [Qn] <;> simp)), trivial⟩ ⟨E, (by omega), h1⟩))))))))))))))))
  ·refine Qk Z Z (Qb fl88_2 Z) Z (Qk Z Z (Qi Yk Z (h1.one 2 Z)) Z (Qk Z Z (Qb fl88_0 Z) Z (Qk Z Z (Qi Yk Z (h1.one 0 Z)) Z ?_)))
   refine Xf Z Z ?_
   refine Q0 Tryz.call62 Z (c_within x.credits 0 x.cap _ ) Z (fun _ w4 e3 hv => ?_)
   subst hv
   replace E := E.trans e3; replace h1 := h1.ext e3
   have z3 := e3.size
   refine Qk Z Z (Yn Z) Z (Qa (Qs Z Z) Z (Qa (Qe Z) Z ?_))
   refine Ym (gd := 15) Z Z (fun hg2 => ?_) (fun hg2 => ?_)
   ·refine Qc Z Z Z Z (Qc Z Z Z Z (Qc Z Z Z Z (Qc Z Z Z Z ?_)))
    refine Yv Z Z Z Z ?_
    refine Qc Z Z Z Z (Qa (Qr Z Z) Z (Qa (Qe Z) Z (Qc Z Z Z Z (Qc Z Z Z Z (Qc Z Z Z Z (Qc Z Z Z Z (Qc Z Z Z Z (Qc Z Z Z Z (Qc Z Z Z Z (Qc Z Z Z Z (Qc Z Z Z Z (Qc Z Z Z Z (Qc Z Z Z Z (Qc Z Z Z Z (Qa (Qr Z Z) Z (Qo ⟨Z, Z, Z, congrArg (fun b => some (Value.bool b)) (show true = ((((!(Yo x.cap 1 4)) || (!(Yo x.credits 0 x.cap))) || (!(Yo x.back 0 x.cap))) || ((IntKind.i64.wrap ((IntKind.i64.wrap (x.credits + x.back)) + ((x.queue.length : Nat) : Int))) != x.cap)) by first | (rw [hg1, hg2] <;> rfl) | (simp [hg1, hg2]; done) | (simp only [Qn] <;> simp)), trivial⟩ ⟨E, (by omega), h1⟩))))))))))))))))
   ·refine Qk Z Z (Qb fl88_3 Z) Z (Qk Z Z (Qi Yk Z (h1.one 3 Z)) Z (Qk Z Z (Qb fl88_0 Z) Z (Qk Z Z (Qi Yk Z (h1.one 0 Z)) Z ?_)))
    refine Xf Z Z ?_
    refine Q0 Tryz.call62 Z (c_within x.back 0 x.cap _ ) Z (fun _ w5 e4 hv => ?_)
    subst hv
    replace E := E.trans e4; replace h1 := h1.ext e4
    have z4 := e4.size
    refine Qk Z Z (Yn Z) Z (Qa (Qs Z Z) Z (Qa (Qe Z) Z ?_))
    refine Ym (gd := 23) Z Z (fun hg3 => ?_) (fun hg3 => ?_)
    ·refine Qc Z Z Z Z (Qc Z Z Z Z (Qc Z Z Z Z (Qc Z Z Z Z (Qc Z Z Z Z (Qc Z Z Z Z (Qc Z Z Z Z (Qc Z Z Z Z (Qc Z Z Z Z (Qc Z Z Z Z (Qc Z Z Z Z (Qc Z Z Z Z (Qa (Qr Z Z) Z (Qo ⟨Z, Z, Z, congrArg (fun b => some (Value.bool b)) (show true = ((((!(Yo x.cap 1 4)) || (!(Yo x.credits 0 x.cap))) || (!(Yo x.back 0 x.cap))) || ((IntKind.i64.wrap ((IntKind.i64.wrap (x.credits + x.back)) + ((x.queue.length : Nat) : Int))) != x.cap)) by first | (rw [hg1, hg2, hg3] <;> rfl) | (simp [hg1, hg2, hg3]; done) | (simp only [Qn] <;> simp)), trivial⟩ ⟨E, (by omega), h1⟩)))))))))))))
    ·refine Qk Z Z (Qb fl88_2 Z) Z (Qk Z Z (Qi Yk Z (h1.one 2 Z)) Z (Qk Z Z (Qb fl88_3 Z) Z (Qk Z Z (Qi Yk Z (h1.one 3 Z)) Z (Qk Z Z (Q8 Z Z Z) Z (Qk Z Z (Qb X5 Z) Z (Qk Z Z (Qi Xa Z (h1.one 1 Z)) Z (Qk Z Z (Q4 Tryz.underlying66 Z (hd1.ext E).len) Z (Qk Z Z (Q8 Z Z Z) Z (Qk Z Z (Qb fl88_0 Z) Z (Qk Z Z (Qi Yk Z (h1.one 0 Z)) Z (Qk Z Z (Yr Z Z) Z (Qa (Qs Z Z) Z (Qo ⟨Z, Z, Z, congrArg (fun b => some (Value.bool b)) (show ((IntKind.i64.wrap ((IntKind.i64.wrap (x.credits + x.back)) + ((x.queue.length : Nat) : Int))) != x.cap) = ((((!(Yo x.cap 1 4)) || (!(Yo x.credits 0 x.cap))) || (!(Yo x.back 0 x.cap))) || ((IntKind.i64.wrap ((IntKind.i64.wrap (x.credits + x.back)) + ((x.queue.length : Nat) : Int))) != x.cap)) by first | (rw [hg1, hg2, hg3] <;> rfl) | (simp [hg1, hg2, hg3]; done) | (simp only [Qn] <;> simp)), trivial⟩ ⟨E, (by omega), h1⟩)))))))))))))
 clear E h1
 rintro w3 ⟨E, z5, h1⟩
 refine Qd (Qu Z (fun hc1 => ?_) (fun hc1 => ?_))
 ·refine Qf (Qh [true] Z Z (Qa (Qg Z) Z (Qd (Qw (Qm Z Z E ?_)))))
  exact bf fun h => lk_i1 h hc1
 ·refine Qp (Qf (Qf (Qh [true, true, false, true, true, true, true, true, true, true, true, true, true, true, true, true, true, true, true, true] Z Z (Qa (Qb fl88_4 Z) Z (Qa (Qi Yk Z (h1.one 4 Z)) Z (Q0 Tryz.call62 Z (c_within x.sent 0 1000000000 _ ) Z (fun _ w6 e5 hv => ?_)))))))
  subst hv
  replace E := E.trans e5; replace h1 := h1.ext e5
  have z6 := e5.size
  refine Qa (Yn Z) Z (Qa (Qe Z) Z (Yz 15 [(0, .agg [.int .i64 x.cap, o1, .int .i64 x.credits, .int .i64 x.back, .int .i64 x.sent, .int .i64 x.got].toArray), (1, .pointer (some ⟨b1, 0, none⟩)), (2, .bool false), (36, .bool ((((!(Yo x.cap 1 4)) || (!(Yo x.credits 0 x.cap))) || (!(Yo x.back 0 x.cap))) || ((IntKind.i64.wrap ((IntKind.i64.wrap (x.credits + x.back)) + ((x.queue.length : Nat) : Int))) != x.cap))), (56, .bool (((!(Yo x.sent 0 1000000000)) || (decide (x.got < 0))) || ((IntKind.i64.wrap (x.sent - x.got)) != ((x.queue.length : Nat) : Int))))] (fun w' => w6 = w') ?_ ?_))
  ·refine Ym (gd := 41) Z Z (fun hg4 => ?_) (fun hg4 => ?_)
   ·refine Qc Z Z Z Z (Qc Z Z Z Z (Qc Z Z Z Z (Qa (Qr Z Z) Z (Qa (Qe Z) Z (Qc Z Z Z Z (Qc Z Z Z Z (Qc Z Z Z Z (Qc Z Z Z Z (Qc Z Z Z Z (Qc Z Z Z Z (Qc Z Z Z Z (Qc Z Z Z Z (Qc Z Z Z Z (Qa (Qr Z Z) Z (Qo ⟨Z, Z, Z, Z, congrArg (fun b => some (Value.bool b)) (show true = (((!(Yo x.sent 0 1000000000)) || (decide (x.got < 0))) || ((IntKind.i64.wrap (x.sent - x.got)) != ((x.queue.length : Nat) : Int))) by first | (rw [hg4] <;> rfl) | (simp [hg4]; done) | (simp only [Qn] <;> simp)), trivial⟩ Z)))))))))))))))
   ·refine Qk Z Z (Qb fl88_5 Z) Z (Qk Z Z (Qi Yk Z (h1.one 5 Z)) Z (Qk Z Z (Yb Z Z) Z (Qa (Qs Z Z) Z (Qa (Qe Z) Z ?_))))
    refine Ym (gd := 46) Z Z (fun hg5 => ?_) (fun hg5 => ?_)
    ·refine Qc Z Z Z Z (Qc Z Z Z Z (Qc Z Z Z Z (Qc Z Z Z Z (Qc Z Z Z Z (Qc Z Z Z Z (Qc Z Z Z Z (Qc Z Z Z Z (Qc Z Z Z Z (Qa (Qr Z Z) Z (Qo ⟨Z, Z, Z, Z, congrArg (fun b => some (Value.bool b)) (show true = (((!(Yo x.sent 0 1000000000)) || (decide (x.got < 0))) || ((IntKind.i64.wrap (x.sent - x.got)) != ((x.queue.length : Nat) : Int))) by first | (rw [hg4, hg5] <;> rfl) | (simp [hg4, hg5]; done) | (simp only [Qn] <;> simp)), trivial⟩ Z))))))))))
    ·refine Qk Z Z (Qb fl88_4 Z) Z (Qk Z Z (Qi Yk Z (h1.one 4 Z)) Z (Qk Z Z (Qb fl88_5 Z) Z (Qk Z Z (Qi Yk Z (h1.one 5 Z)) Z (Qk Z Z (Ka Z Z Z) Z (Qk Z Z (Qb X5 Z) Z (Qk Z Z (Qi Xa Z (h1.one 1 Z)) Z (Qk Z Z (Q4 Tryz.underlying66 Z (hd1.ext E).len) Z (Qk Z Z (Yr Z Z) Z (Qa (Qs Z Z) Z (Qo ⟨Z, Z, Z, Z, congrArg (fun b => some (Value.bool b)) (show ((IntKind.i64.wrap (x.sent - x.got)) != ((x.queue.length : Nat) : Int)) = (((!(Yo x.sent 0 1000000000)) || (decide (x.got < 0))) || ((IntKind.i64.wrap (x.sent - x.got)) != ((x.queue.length : Nat) : Int))) by first | (rw [hg4, hg5] <;> rfl) | (simp [hg4, hg5]; done) | (simp only [Qn] <;> simp)), trivial⟩ Z))))))))))
  rintro _ rfl
  refine Qd (Qu Z (fun hc2 => ?_) (fun hc2 => ?_))
  ·refine Qf (Qh [true] Z Z (Qa (Qg Z) Z (Qd (Qw (Qm Z Z E ?_)))))
   exact bf fun h => lk_i2 hr h hc2
  ·refine Qp (Qf (Qh [true, true, false, true] Z Z (Qa (Qb X5 Z) Z (Qa (Qi Xa Z (h1.one 1 Z)) Z (Q0 Tryz.call119 Z (c_allRecordsOk o1 x.queue _ (hd1.rd.ext E)) Z (fun _ w8 e6 hv => ?_))))))
   subst hv
   replace E := E.trans e6; replace h1 := h1.ext e6
   have z7 := e6.size
   refine Qa (Qg Z) Z (Qd (Qw (Qm Z Z E ?_)))
   exact congrArg Value.bool (lk_i3 hr hc1 hc2).symm

end Go.Proofs.YtbnoffhbponglaaGreat
