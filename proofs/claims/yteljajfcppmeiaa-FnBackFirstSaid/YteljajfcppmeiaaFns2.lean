/- What the functions that the laws call come to: a contract each; no condition. -/
import Derived.Test.YteljajfcppmeiaaFns
namespace Go.Proofs.Yteljajfcppmeiaa
open Go Go.Proofs.Yteljajfcppmeiaa.X Go.Proofs
set_option maxHeartbeats 4000000 in
set_option maxRecDepth 20000 in
theorem s_WorkerOk (cg : List Value) (g : Graph) (cx : List Value) (x : Worker) (w : World) (hg : Dat.R w 0 w.heap.size cg g) (hx : Dat.R w 0 w.heap.size cx x) : Ct Try.prog 57 [.agg cg.toArray, .agg cx.toArray] w (fun v _ => v = .bool (workerOk g x)) := by
 refine ct_of Try.func57 rfl Try.ntmps57 rfl ?_
 obtain ⟨o1, rfl, hd1⟩ := Graph.op hg
 obtain ⟨o2, o3, o4, o5, o6, o7, o8, o9, rfl, hd2, hd3, hd4, hd5, hd6, hd7, hd8, hd9⟩ := Worker.op hx
 refine S_sub [(0, .agg [o1, .int .i64 g.workers, .int .i64 g.cap].toArray), (1, .agg [o2, o3, o4, o5, o6, o7, o8, o9].toArray)] ⟨rfl, rfl, trivial⟩ ?_
 have E : Ext w w := Ext.refl w
 refine S_seq ?_
 refine S_reg [false, false, true] rfl rfl ?_
 refine J_box rfl rfl (fun b1 w1 e1 s1 h1 => ?_)
 have g_b1 : w.heap.size ≤ b1 := by have := E.size; omega
 have y_b1 := h1.lt
 replace E := E.trans e1
 have z1 := e1.size
 refine J_box rfl rfl (fun b2 w2 e2 s2 h2 => ?_)
 have g_b2 : w.heap.size ≤ b2 := by have := E.size; omega
 have y_b2 := h2.lt
 replace E := E.trans e2; replace h1 := h1.ext e2
 have z2 := e2.size
 refine J_st (R_assign rfl) rfl (J_done ?_)
 refine S_seq ?_
 refine S_reg [true] rfl rfl ?_
 refine J_st (R_assign rfl) rfl (J_done ?_)
 refine S_seq ?_
 refine S_seq ?_
 refine S_reg [true, true, true, false, true, true, true, true, true, false, true, true, true, true, true, true, false, true, true, true, true, true, false, true, true, true, true, true, true, true, true, true, true, true, true, true, true, true, true, true, true, true, true, true, true, true] rfl rfl ?_
 refine J_st (R_loadS st26 rfl h1.at rfl) rfl (J_st (R_fieldAddr0 fl33_0 rfl) rfl (J_st (R_load sc27 rfl (h2.one 0 rfl)) rfl ?_))
 refine J_call Try.call63 rfl (s_l12Records [o1, .int .i64 g.workers, .int .i64 g.cap] g o2 x.queue _ (Graph.mkR g (RdD.any (hd1.ext E))) (hd2.rd.ext E)) rfl (fun _ w3 e3 hv => ?_)
 subst hv
 replace E := E.trans e3; replace h1 := h1.ext e3; replace h2 := h2.ext e3
 have z3 := e3.size
 refine J_st (R_not rfl) rfl (J_st (R_move rfl) rfl ?_)
 refine J_cut 40 [(0, .agg [o1, .int .i64 g.workers, .int .i64 g.cap].toArray), (1, .agg [o2, o3, o4, o5, o6, o7, o8, o9].toArray), (2, .pointer (some ⟨b1, 0, none⟩)), (3, .pointer (some ⟨b2, 0, none⟩)), (4, .bool false), (5, .int .i64 4), (55, .bool (((((((!(x.queue.all (opOk g))) || (!(x.staged.all (opOk g)))) || (!(x.inputs.all (opOk g)))) || (!((adj x.cells).all cellLt))) || (((x.sums.length : Nat) : Int) != 4)) || (((x.black.length : Nat) : Int) != 4)) || (((x.caps.length : Nat) : Int) != 4)))] (fun w' => Ext w w' ∧ w3.heap.size ≤ w'.heap.size ∧ Blk w' b1 ([o1, .int .i64 g.workers, .int .i64 g.cap]) ∧ Blk w' b2 ([o2, o3, o4, o5, o6, o7, o8, o9])) ?_ ?_
 ·refine J_if (gd := 15) rfl rfl (fun hg1 => ?_) (fun hg1 => ?_)
  ·refine J_gdno rfl rfl rfl rfl (J_gdno rfl rfl rfl rfl (J_gdno rfl rfl rfl rfl ?_))
   refine J_ungno rfl rfl rfl rfl ?_
   refine J_gdno rfl rfl rfl rfl (J_st (R_pickT rfl rfl) rfl (J_st (R_move rfl) rfl (J_gdno rfl rfl rfl rfl (J_gdno rfl rfl rfl rfl (J_gdno rfl rfl rfl rfl ?_)))))
   refine J_ungno rfl rfl rfl rfl ?_
   refine J_gdno rfl rfl rfl rfl (J_st (R_pickT rfl rfl) rfl (J_st (R_move rfl) rfl (J_gdno rfl rfl rfl rfl (J_gdno rfl rfl rfl rfl ?_))))
   refine J_ungno rfl rfl rfl rfl ?_
   refine J_gdno rfl rfl rfl rfl (J_st (R_pickT rfl rfl) rfl (J_st (R_move rfl) rfl (J_gdno rfl rfl rfl rfl (J_gdno rfl rfl rfl rfl (J_gdno rfl rfl rfl rfl (J_gdno rfl rfl rfl rfl (J_gdno rfl rfl rfl rfl (J_st (R_pickT rfl rfl) rfl (J_st (R_move rfl) rfl (J_gdno rfl rfl rfl rfl (J_gdno rfl rfl rfl rfl (J_gdno rfl rfl rfl rfl (J_gdno rfl rfl rfl rfl (J_gdno rfl rfl rfl rfl (J_st (R_pickT rfl rfl) rfl (J_st (R_move rfl) rfl (J_gdno rfl rfl rfl rfl (J_gdno rfl rfl rfl rfl (J_gdno rfl rfl rfl rfl (J_gdno rfl rfl rfl rfl (J_gdno rfl rfl rfl rfl (J_st (R_pickT rfl rfl) rfl (J_cutEnd ⟨rfl, rfl, rfl, rfl, rfl, rfl, congrArg (fun b => some (Value.bool b)) (show true = (((((((!(x.queue.all (opOk g))) || (!(x.staged.all (opOk g)))) || (!(x.inputs.all (opOk g)))) || (!((adj x.cells).all cellLt))) || (((x.sums.length : Nat) : Int) != 4)) || (((x.black.length : Nat) : Int) != 4)) || (((x.caps.length : Nat) : Int) != 4)) by first | (rw [hg1] <;> rfl) | (simp [hg1]; done) | (simp only [nat_nlt] <;> simp)), trivial⟩ ⟨E, (by omega), h1, h2⟩)))))))))))))))))))))))
  ·refine J_gd rfl rfl (R_loadS st26 rfl h1.at rfl) rfl (J_gd rfl rfl (R_fieldAddr0 fl33_1 rfl) rfl (J_gd rfl rfl (R_load sc27 rfl (h2.one 1 rfl)) rfl ?_))
   refine J_ung rfl rfl ?_
   refine J_call Try.call63 rfl (s_l12Records [o1, .int .i64 g.workers, .int .i64 g.cap] g o3 x.staged _ (Graph.mkR g (RdD.any (hd1.ext E))) (hd3.rd.ext E)) rfl (fun _ w5 e4 hv => ?_)
   subst hv
   replace E := E.trans e4; replace h1 := h1.ext e4; replace h2 := h2.ext e4
   have z4 := e4.size
   refine J_gd rfl rfl (R_not rfl) rfl (J_st (R_pickF rfl rfl) rfl (J_st (R_move rfl) rfl ?_))
   refine J_if (gd := 22) rfl rfl (fun hg2 => ?_) (fun hg2 => ?_)
   ·refine J_gdno rfl rfl rfl rfl (J_gdno rfl rfl rfl rfl (J_gdno rfl rfl rfl rfl ?_))
    refine J_ungno rfl rfl rfl rfl ?_
    refine J_gdno rfl rfl rfl rfl (J_st (R_pickT rfl rfl) rfl (J_st (R_move rfl) rfl (J_gdno rfl rfl rfl rfl (J_gdno rfl rfl rfl rfl ?_))))
    refine J_ungno rfl rfl rfl rfl ?_
    refine J_gdno rfl rfl rfl rfl (J_st (R_pickT rfl rfl) rfl (J_st (R_move rfl) rfl (J_gdno rfl rfl rfl rfl (J_gdno rfl rfl rfl rfl (J_gdno rfl rfl rfl rfl (J_gdno rfl rfl rfl rfl (J_gdno rfl rfl rfl rfl (J_st (R_pickT rfl rfl) rfl (J_st (R_move rfl) rfl (J_gdno rfl rfl rfl rfl (J_gdno rfl rfl rfl rfl (J_gdno rfl rfl rfl rfl (J_gdno rfl rfl rfl rfl (J_gdno rfl rfl rfl rfl (J_st (R_pickT rfl rfl) rfl (J_st (R_move rfl) rfl (J_gdno rfl rfl rfl rfl (J_gdno rfl rfl rfl rfl (J_gdno rfl rfl rfl rfl (J_gdno rfl rfl rfl rfl (J_gdno rfl rfl rfl rfl (J_st (R_pickT rfl rfl) rfl (J_cutEnd ⟨rfl, rfl, rfl, rfl, rfl, rfl, congrArg (fun b => some (Value.bool b)) (show true = (((((((!(x.queue.all (opOk g))) || (!(x.staged.all (opOk g)))) || (!(x.inputs.all (opOk g)))) || (!((adj x.cells).all cellLt))) || (((x.sums.length : Nat) : Int) != 4)) || (((x.black.length : Nat) : Int) != 4)) || (((x.caps.length : Nat) : Int) != 4)) by first | (rw [hg1, hg2] <;> rfl) | (simp [hg1, hg2]; done) | (simp only [nat_nlt] <;> simp)), trivial⟩ ⟨E, (by omega), h1, h2⟩)))))))))))))))))))))))
   ·refine J_gd rfl rfl (R_loadS st26 rfl h1.at rfl) rfl (J_gd rfl rfl (R_fieldAddr0 fl33_2 rfl) rfl (J_gd rfl rfl (R_load sc27 rfl (h2.one 2 rfl)) rfl ?_))
    refine J_ung rfl rfl ?_
    refine J_call Try.call63 rfl (s_l12Records [o1, .int .i64 g.workers, .int .i64 g.cap] g o4 x.inputs _ (Graph.mkR g (RdD.any (hd1.ext E))) (hd4.rd.ext E)) rfl (fun _ w6 e5 hv => ?_)
    subst hv
    replace E := E.trans e5; replace h1 := h1.ext e5; replace h2 := h2.ext e5
    have z5 := e5.size
    refine J_gd rfl rfl (R_not rfl) rfl (J_st (R_pickF rfl rfl) rfl (J_st (R_move rfl) rfl ?_))
    refine J_if (gd := 29) rfl rfl (fun hg3 => ?_) (fun hg3 => ?_)
    ·refine J_gdno rfl rfl rfl rfl (J_gdno rfl rfl rfl rfl ?_)
     refine J_ungno rfl rfl rfl rfl ?_
     refine J_gdno rfl rfl rfl rfl (J_st (R_pickT rfl rfl) rfl (J_st (R_move rfl) rfl (J_gdno rfl rfl rfl rfl (J_gdno rfl rfl rfl rfl (J_gdno rfl rfl rfl rfl (J_gdno rfl rfl rfl rfl (J_gdno rfl rfl rfl rfl (J_st (R_pickT rfl rfl) rfl (J_st (R_move rfl) rfl (J_gdno rfl rfl rfl rfl (J_gdno rfl rfl rfl rfl (J_gdno rfl rfl rfl rfl (J_gdno rfl rfl rfl rfl (J_gdno rfl rfl rfl rfl (J_st (R_pickT rfl rfl) rfl (J_st (R_move rfl) rfl (J_gdno rfl rfl rfl rfl (J_gdno rfl rfl rfl rfl (J_gdno rfl rfl rfl rfl (J_gdno rfl rfl rfl rfl (J_gdno rfl rfl rfl rfl (J_st (R_pickT rfl rfl) rfl (J_cutEnd ⟨rfl, rfl, rfl, rfl, rfl, rfl, congrArg (fun b => some (Value.bool b)) (show true = (((((((!(x.queue.all (opOk g))) || (!(x.staged.all (opOk g)))) || (!(x.inputs.all (opOk g)))) || (!((adj x.cells).all cellLt))) || (((x.sums.length : Nat) : Int) != 4)) || (((x.black.length : Nat) : Int) != 4)) || (((x.caps.length : Nat) : Int) != 4)) by first | (rw [hg1, hg2, hg3] <;> rfl) | (simp [hg1, hg2, hg3]; done) | (simp only [nat_nlt] <;> simp)), trivial⟩ ⟨E, (by omega), h1, h2⟩)))))))))))))))))))))))
    ·refine J_gd rfl rfl (R_fieldAddr0 fl33_3 rfl) rfl (J_gd rfl rfl (R_load sc28 rfl (h2.one 3 rfl)) rfl ?_)
     refine J_ung rfl rfl ?_
     refine J_call Try.call64 rfl (s_CellsOk o5 x.cells _ (hd5.rd.ext E)) rfl (fun _ w7 e6 hv => ?_)
     subst hv
     replace E := E.trans e6; replace h1 := h1.ext e6; replace h2 := h2.ext e6
     have z6 := e6.size
     refine J_gd rfl rfl (R_not rfl) rfl (J_st (R_pickF rfl rfl) rfl (J_st (R_move rfl) rfl ?_))
     refine J_if (gd := 35) rfl rfl (fun hg4 => ?_) (fun hg4 => ?_)
     ·refine J_gdno rfl rfl rfl rfl (J_gdno rfl rfl rfl rfl (J_gdno rfl rfl rfl rfl (J_gdno rfl rfl rfl rfl (J_gdno rfl rfl rfl rfl (J_st (R_pickT rfl rfl) rfl (J_st (R_move rfl) rfl (J_gdno rfl rfl rfl rfl (J_gdno rfl rfl rfl rfl (J_gdno rfl rfl rfl rfl (J_gdno rfl rfl rfl rfl (J_gdno rfl rfl rfl rfl (J_st (R_pickT rfl rfl) rfl (J_st (R_move rfl) rfl (J_gdno rfl rfl rfl rfl (J_gdno rfl rfl rfl rfl (J_gdno rfl rfl rfl rfl (J_gdno rfl rfl rfl rfl (J_gdno rfl rfl rfl rfl (J_st (R_pickT rfl rfl) rfl (J_cutEnd ⟨rfl, rfl, rfl, rfl, rfl, rfl, congrArg (fun b => some (Value.bool b)) (show true = (((((((!(x.queue.all (opOk g))) || (!(x.staged.all (opOk g)))) || (!(x.inputs.all (opOk g)))) || (!((adj x.cells).all cellLt))) || (((x.sums.length : Nat) : Int) != 4)) || (((x.black.length : Nat) : Int) != 4)) || (((x.caps.length : Nat) : Int) != 4)) by first | (rw [hg1, hg2, hg3, hg4] <;> rfl) | (simp [hg1, hg2, hg3, hg4]; done) | (simp only [nat_nlt] <;> simp)), trivial⟩ ⟨E, (by omega), h1, h2⟩))))))))))))))))))))
     ·refine J_gd rfl rfl (R_fieldAddr0 fl33_4 rfl) rfl (J_gd rfl rfl (R_load sc29 rfl (h2.one 4 rfl)) rfl (J_gd rfl rfl (R_len Try.underlying29 rfl (hd6.ext E).len) rfl (J_gd rfl rfl (R_move rfl) rfl (J_gd rfl rfl (R_neq rfl rfl) rfl (J_st (R_pickF rfl rfl) rfl (J_st (R_move rfl) rfl ?_))))))
      refine J_if (gd := 42) rfl rfl (fun hg5 => ?_) (fun hg5 => ?_)
      ·have hg5n : ¬ x.sums.length = 4 := by first | (have h := of_decide_eq_true hg5; omega) | (have h := hg5; simp at h; omega)
       refine J_gdno rfl rfl rfl rfl (J_gdno rfl rfl rfl rfl (J_gdno rfl rfl rfl rfl (J_gdno rfl rfl rfl rfl (J_gdno rfl rfl rfl rfl (J_st (R_pickT rfl rfl) rfl (J_st (R_move rfl) rfl (J_gdno rfl rfl rfl rfl (J_gdno rfl rfl rfl rfl (J_gdno rfl rfl rfl rfl (J_gdno rfl rfl rfl rfl (J_gdno rfl rfl rfl rfl (J_st (R_pickT rfl rfl) rfl (J_cutEnd ⟨rfl, rfl, rfl, rfl, rfl, rfl, congrArg (fun b => some (Value.bool b)) (show true = (((((((!(x.queue.all (opOk g))) || (!(x.staged.all (opOk g)))) || (!(x.inputs.all (opOk g)))) || (!((adj x.cells).all cellLt))) || (((x.sums.length : Nat) : Int) != 4)) || (((x.black.length : Nat) : Int) != 4)) || (((x.caps.length : Nat) : Int) != 4)) by first | (rw [hg1, hg2, hg3, hg4, hg5] <;> rfl) | (simp [hg1, hg2, hg3, hg4, hg5]; done) | (simp only [nat_nlt] <;> simp)), trivial⟩ ⟨E, (by omega), h1, h2⟩)))))))))))))
      ·have hg5n : x.sums.length = 4 := by first | (have h := of_decide_eq_false hg5; omega) | (have h := hg5; simp at h; omega)
       refine J_gd rfl rfl (R_fieldAddr0 fl33_5 rfl) rfl (J_gd rfl rfl (R_load sc30 rfl (h2.one 5 rfl)) rfl (J_gd rfl rfl (R_len Try.underlying30 rfl (hd7.ext E).len) rfl (J_gd rfl rfl (R_move rfl) rfl (J_gd rfl rfl (R_neq rfl rfl) rfl (J_st (R_pickF rfl rfl) rfl (J_st (R_move rfl) rfl ?_))))))
       refine J_if (gd := 49) rfl rfl (fun hg6 => ?_) (fun hg6 => ?_)
       ·have hg6n : ¬ x.black.length = 4 := by first | (have h := of_decide_eq_true hg6; omega) | (have h := hg6; simp at h; omega)
        refine J_gdno rfl rfl rfl rfl (J_gdno rfl rfl rfl rfl (J_gdno rfl rfl rfl rfl (J_gdno rfl rfl rfl rfl (J_gdno rfl rfl rfl rfl (J_st (R_pickT rfl rfl) rfl (J_cutEnd ⟨rfl, rfl, rfl, rfl, rfl, rfl, congrArg (fun b => some (Value.bool b)) (show true = (((((((!(x.queue.all (opOk g))) || (!(x.staged.all (opOk g)))) || (!(x.inputs.all (opOk g)))) || (!((adj x.cells).all cellLt))) || (((x.sums.length : Nat) : Int) != 4)) || (((x.black.length : Nat) : Int) != 4)) || (((x.caps.length : Nat) : Int) != 4)) by first | (rw [hg1, hg2, hg3, hg4, hg5, hg6] <;> rfl) | (simp [hg1, hg2, hg3, hg4, hg5, hg6]; done) | (simp only [nat_nlt] <;> simp)), trivial⟩ ⟨E, (by omega), h1, h2⟩))))))
       ·have hg6n : x.black.length = 4 := by first | (have h := of_decide_eq_false hg6; omega) | (have h := hg6; simp at h; omega)
        refine J_gd rfl rfl (R_fieldAddr0 fl33_6 rfl) rfl (J_gd rfl rfl (R_load sc30 rfl (h2.one 6 rfl)) rfl (J_gd rfl rfl (R_len Try.underlying30 rfl (hd8.ext E).len) rfl (J_gd rfl rfl (R_move rfl) rfl (J_gd rfl rfl (R_neq rfl rfl) rfl (J_st (R_pickF rfl rfl) rfl (J_cutEnd ⟨rfl, rfl, rfl, rfl, rfl, rfl, congrArg (fun b => some (Value.bool b)) (show (((x.caps.length : Nat) : Int) != 4) = (((((((!(x.queue.all (opOk g))) || (!(x.staged.all (opOk g)))) || (!(x.inputs.all (opOk g)))) || (!((adj x.cells).all cellLt))) || (((x.sums.length : Nat) : Int) != 4)) || (((x.black.length : Nat) : Int) != 4)) || (((x.caps.length : Nat) : Int) != 4)) by first | (rw [hg1, hg2, hg3, hg4, hg5, hg6] <;> rfl) | (simp [hg1, hg2, hg3, hg4, hg5, hg6]; done) | (simp only [nat_nlt] <;> simp)), trivial⟩ ⟨E, (by omega), h1, h2⟩))))))
 clear E h1 h2
 rintro w4 ⟨E, z7, h1, h2⟩
 refine J_done ?_
 refine S_cond rfl (fun hc1 => ?_) (fun hc1 => ?_)
 ·refine S_seq ?_
  refine S_reg [true] rfl rfl ?_
  refine J_st (R_assign rfl) rfl (J_done ?_)
  refine S_ret (E_done1 rfl rfl E ?_)
  exact bf fun h => by simp only [workerOk, Bool.and_eq_true] at h; obtain ⟨⟨⟨⟨⟨⟨⟨⟨⟨q1, q2⟩, q3⟩, q4⟩, q5⟩, q6⟩, q7⟩, q8⟩, q9⟩, q10⟩ := h; simp only [beq_iff_eq] at q6 q7 q8; simp only [q1, q2, q3, q4, q6, q7, q8] at hc1; simp at hc1
 ·refine S_skip ?_
  refine S_seq ?_
  refine S_seq ?_
  refine S_reg [true] rfl rfl ?_
  refine J_st (R_assign rfl) rfl (J_done ?_)
  refine S_block ?_
  refine S_loop (fun (k : Nat) => [(3, .pointer (some ⟨b2, 0, none⟩)), (4, .bool false), (5, .int .i64 4), (6, .int .i64 ((k : Nat) : Int))]) (fun (k : Nat) w' => Ext w w' ∧ w4.heap.size ≤ w'.heap.size ∧ Blk w' b1 ([o1, .int .i64 g.workers, .int .i64 g.cap]) ∧ Blk w' b2 ([o2, o3, o4, o5, o6, o7, o8, o9]) ∧ k ≤ x.inputs.length ∧ allR k (fun j => inAt x.inputs j) = true) (fun (k : Nat) => x.inputs.length - k) 0 ⟨rfl, rfl, rfl, rfl, trivial⟩ ⟨E, Nat.le_refl _, h1, h2, Nat.zero_le _, rfl⟩ ?_
  clear E h1 h2
  rintro k w8 ⟨E, z8, h1, h2, hk, hI1⟩
  have hmi := hd4.1.1
  unfold maxLen at hmi
  refine S_seq ?_
  refine S_seq ?_
  refine S_reg [true, true, true, true, true] rfl rfl ?_
  refine J_st (R_move rfl) rfl (J_st (R_fieldAddr0 fl33_2 rfl) rfl (J_st (R_load sc27 rfl (h2.one 2 rfl)) rfl (J_st (R_len Try.underlying27 rfl (hd4.ext E).len) rfl (J_st (R_lss rfl rfl) rfl (J_done ?_)))))
  refine S_cond rfl (fun hc2 => ?_) (fun hc2 => ?_)
  ·have hc2n : k < x.inputs.length := by first | (have h := of_decide_eq_true hc2; omega) | (have h := hc2; simp at h; omega)
   refine S_skip ?_
   refine S_seq ?_
   refine S_block ?_
   refine S_seq ?_
   refine S_regD mixed [(0, true), (1, true), (2, true), (3, true), (4, true), (5, true), (6, true), (7, true), (8, true), (9, true), (10, true), (11, true), (12, true), (13, true), (14, true), (15, true), (16, true), (17, true), (18, true), (19, true), (20, true), (21, true), (22, true), (23, true), (24, true), (25, true), (26, true), (27, true), (28, true), (29, true), (30, true), (31, true), (32, true), (33, true), (34, true), (35, true), (36, true), (37, true), (38, true)] (by decide +kernel) rfl (fun w9 e7 => ?_)
   replace E := E.trans e7; replace h1 := h1.ext e7; replace h2 := h2.ext e7
   have z9 := e7.size
   refine J_st (R_fieldAddr0 fl33_2 rfl) rfl (J_st (R_load sc27 rfl (h2.one 2 rfl)) rfl (J_st (R_move rfl) rfl ?_))
   have hi1 : k < x.inputs.length := (by first | assumption | omega | (simp only [List.length_set]; first | assumption | omega) | (simp only [List.getElem_set_self, List.length_set]; first | assumption | omega) | (simp only [setW, setLk, List.length_set]; first | assumption | omega) | (simp; done))
   refine J_st (R_index (i := k) sl27 rfl rfl (hd4.rd.ext E) hi1) rfl (J_st (R_fieldAddr fl43_0 rfl) rfl (J_st (R_load sc3 rfl (((hd4.rd.ext E).get hi1).one 0 rfl)) rfl (J_st (R_neq rfl rfl) rfl (J_st (R_move rfl) rfl ?_))))
   refine J_cut 31 [(3, .pointer (some ⟨b2, 0, none⟩)), (4, .bool false), (5, .int .i64 4), (6, .int .i64 ((k : Nat) : Int)), (56, .int .i64 ((k : Nat) : Int)), (57, .pointer (some ⟨b2, 2, none⟩)), (58, o4), (59, .int .i64 ((x.inputs.length : Nat) : Int)), (60, .bool (decide (((k : Nat) : Int) < ((x.inputs.length : Nat) : Int)))), (101, .bool (((((x.inputs[k]'hi1).op) != 0) || ((((x.inputs[k]'hi1).stamp).turn) != 0)) || ((decide (0 < ((k : Nat) : Int))) && (decide ((((x.inputs[k]'hi1).stamp).epoch) < (((List.getD x.inputs (k - 1) default).stamp).epoch))))))] (fun w' => w9 = w') ?_ ?_
   ·refine J_if (gd := 70) rfl rfl (fun hg7 => ?_) (fun hg7 => ?_)
    ·refine J_gdno rfl rfl rfl rfl (J_gdno rfl rfl rfl rfl (J_gdno rfl rfl rfl rfl (J_gdno rfl rfl rfl rfl (J_gdno rfl rfl rfl rfl (J_gdno rfl rfl rfl rfl (J_gdno rfl rfl rfl rfl (J_gdno rfl rfl rfl rfl (J_st (R_pickT rfl rfl) rfl (J_st (R_move rfl) rfl (J_gdno rfl rfl rfl rfl (J_gdno rfl rfl rfl rfl (J_gdno rfl rfl rfl rfl (J_gdx rfl rfl rfl (J_gdx rfl rfl rfl (J_gdx rfl rfl rfl (J_gdx rfl rfl rfl (J_gdx rfl rfl rfl (J_gdx rfl rfl rfl (J_gdx rfl rfl rfl (J_gdx rfl rfl rfl (J_gdx rfl rfl rfl (J_gdx rfl rfl rfl (J_gdx rfl rfl rfl (J_gdx rfl rfl rfl (J_gdx rfl rfl rfl (J_gdx rfl rfl rfl (J_gdx rfl rfl rfl (J_gdx rfl rfl rfl (J_gdno rfl rfl rfl rfl (J_st (R_pickT rfl rfl) rfl (J_cutEnd ⟨rfl, rfl, rfl, rfl, rfl, rfl, rfl, rfl, rfl, congrArg (fun b => some (Value.bool b)) (show true = (((((x.inputs[k]'hi1).op) != 0) || ((((x.inputs[k]'hi1).stamp).turn) != 0)) || ((decide (0 < ((k : Nat) : Int))) && (decide ((((x.inputs[k]'hi1).stamp).epoch) < (((List.getD x.inputs (k - 1) default).stamp).epoch))))) by first | (rw [hg7] <;> rfl) | (simp [hg7]; done) | (simp only [nat_nlt] <;> simp)), trivial⟩ rfl)))))))))))))))))))))))))))))))
    ·refine J_gd rfl rfl (R_fieldAddr0 fl33_2 rfl) rfl (J_gd rfl rfl (R_load sc27 rfl (h2.one 2 rfl)) rfl (J_gd rfl rfl (R_move rfl) rfl (J_gd rfl rfl (R_index (i := k) sl27 rfl rfl (hd4.rd.ext E) hi1) rfl (J_gd rfl rfl (R_fieldAddr fl43_1 rfl) rfl (J_gd rfl rfl (R_fieldAddr fl41_1 rfl) rfl (J_gd rfl rfl (R_load sc3 rfl (((hd4.rd.ext E).get hi1).one 2 rfl)) rfl (J_gd rfl rfl (R_neq rfl rfl) rfl (J_st (R_pickF rfl rfl) rfl (J_st (R_move rfl) rfl ?_)))))))))
     refine J_if (gd := 80) rfl rfl (fun hg8 => ?_) (fun hg8 => ?_)
     ·refine J_gdno rfl rfl rfl rfl (J_gdno rfl rfl rfl rfl (J_gdno rfl rfl rfl rfl (J_gdx rfl rfl rfl (J_gdx rfl rfl rfl (J_gdx rfl rfl rfl (J_gdx rfl rfl rfl (J_gdx rfl rfl rfl (J_gdx rfl rfl rfl (J_gdx rfl rfl rfl (J_gdx rfl rfl rfl (J_gdx rfl rfl rfl (J_gdx rfl rfl rfl (J_gdx rfl rfl rfl (J_gdx rfl rfl rfl (J_gdx rfl rfl rfl (J_gdx rfl rfl rfl (J_gdx rfl rfl rfl (J_gdx rfl rfl rfl (J_gdno rfl rfl rfl rfl (J_st (R_pickT rfl rfl) rfl (J_cutEnd ⟨rfl, rfl, rfl, rfl, rfl, rfl, rfl, rfl, rfl, congrArg (fun b => some (Value.bool b)) (show true = (((((x.inputs[k]'hi1).op) != 0) || ((((x.inputs[k]'hi1).stamp).turn) != 0)) || ((decide (0 < ((k : Nat) : Int))) && (decide ((((x.inputs[k]'hi1).stamp).epoch) < (((List.getD x.inputs (k - 1) default).stamp).epoch))))) by first | (rw [hg7, hg8] <;> rfl) | (simp [hg7, hg8]; done) | (simp only [nat_nlt] <;> simp)), trivial⟩ rfl)))))))))))))))))))))
     ·refine J_gd rfl rfl (R_move rfl) rfl (J_gd rfl rfl (R_gtr rfl rfl) rfl (J_gd rfl rfl (R_move rfl) rfl ?_))
      refine J_if (gd := 83) rfl rfl (fun hg9 => ?_) (fun hg9 => ?_)
      ·have hg9n : k > 0 := by first | (have h := of_decide_eq_true hg9; omega) | (have h := hg9; simp at h; omega)
       refine J_gd rfl rfl (R_fieldAddr0 fl33_2 rfl) rfl (J_gd rfl rfl (R_load sc27 rfl (h2.one 2 rfl)) rfl (J_gd rfl rfl (R_move rfl) rfl (J_gd rfl rfl (R_sub rfl rfl (sub_nat (by omega) (by unfold maxLen; omega))) rfl (J_gd rfl rfl (R_index (i := (k - 1)) sl27 rfl rfl (hd4.rd.ext E) (by first | assumption | omega | (simp only [List.length_set]; first | assumption | omega) | (simp only [List.getElem_set_self, List.length_set]; first | assumption | omega) | (simp only [setW, setLk, List.length_set]; first | assumption | omega) | (simp; done))) rfl (J_gd rfl rfl (R_fieldAddr fl43_1 rfl) rfl (J_gd rfl rfl (R_fieldAddr fl41_0 rfl) rfl (J_gd rfl rfl (R_load sc3 rfl ((RdS.getD (hd4.rd.ext E) (i := (k - 1)) (by first | assumption | omega | (simp only [List.length_set]; first | assumption | omega) | (simp only [List.getElem_set_self, List.length_set]; first | assumption | omega) | (simp only [setW, setLk, List.length_set]; first | assumption | omega) | (simp; done))).one 1 rfl)) rfl (J_gd rfl rfl (R_fieldAddr0 fl33_2 rfl) rfl (J_gd rfl rfl (R_load sc27 rfl (h2.one 2 rfl)) rfl (J_gd rfl rfl (R_move rfl) rfl (J_gd rfl rfl (R_index (i := k) sl27 rfl rfl (hd4.rd.ext E) hi1) rfl (J_gd rfl rfl (R_fieldAddr fl43_1 rfl) rfl (J_gd rfl rfl (R_fieldAddr fl41_0 rfl) rfl (J_gd rfl rfl (R_load sc3 rfl (((hd4.rd.ext E).get hi1).one 1 rfl)) rfl (J_gd rfl rfl (R_gtr rfl rfl) rfl (J_gd rfl rfl (R_pickT rfl rfl) rfl (J_st (R_pickF rfl rfl) rfl (J_cutEnd ⟨rfl, rfl, rfl, rfl, rfl, rfl, rfl, rfl, rfl, congrArg (fun b => some (Value.bool b)) (show (decide ((((x.inputs[k]'hi1).stamp).epoch) < (((List.getD x.inputs (k - 1) default).stamp).epoch))) = (((((x.inputs[k]'hi1).op) != 0) || ((((x.inputs[k]'hi1).stamp).turn) != 0)) || ((decide (0 < ((k : Nat) : Int))) && (decide ((((x.inputs[k]'hi1).stamp).epoch) < (((List.getD x.inputs (k - 1) default).stamp).epoch))))) by first | (rw [hg7, hg8, hg9] <;> rfl) | (simp [hg7, hg8, hg9]; done) | (simp only [nat_nlt] <;> simp)), trivial⟩ rfl))))))))))))))))))
      ·have hg9n : ¬ k > 0 := by first | (have h := of_decide_eq_false hg9; omega) | (have h := hg9; simp at h; omega)
       refine J_gdno rfl rfl rfl rfl (J_gdno rfl rfl rfl rfl (J_gdno rfl rfl rfl rfl (J_gdno rfl rfl rfl rfl (J_gdno rfl rfl rfl rfl (J_gdno rfl rfl rfl rfl (J_gdno rfl rfl rfl rfl (J_gdno rfl rfl rfl rfl (J_gdno rfl rfl rfl rfl (J_gdno rfl rfl rfl rfl (J_gdno rfl rfl rfl rfl (J_gdno rfl rfl rfl rfl (J_gdno rfl rfl rfl rfl (J_gdno rfl rfl rfl rfl (J_gdno rfl rfl rfl rfl (J_gdno rfl rfl rfl rfl (J_gd rfl rfl (R_pickF rfl rfl) rfl (J_st (R_pickF rfl rfl) rfl (J_cutEnd ⟨rfl, rfl, rfl, rfl, rfl, rfl, rfl, rfl, rfl, congrArg (fun b => some (Value.bool b)) (show false = (((((x.inputs[k]'hi1).op) != 0) || ((((x.inputs[k]'hi1).stamp).turn) != 0)) || ((decide (0 < ((k : Nat) : Int))) && (decide ((((x.inputs[k]'hi1).stamp).epoch) < (((List.getD x.inputs (k - 1) default).stamp).epoch))))) by first | (rw [hg7, hg8, hg9] <;> rfl) | (simp [hg7, hg8, hg9]; done) | (simp only [nat_nlt] <;> simp)), trivial⟩ rfl))))))))))))))))))
   rintro _ rfl
   refine J_done ?_
   refine S_cond rfl (fun hc3 => ?_) (fun hc3 => ?_)
   ·refine S_seq ?_
    refine S_reg [true] rfl rfl ?_
    refine J_st (R_assign rfl) rfl (J_done ?_)
    refine S_ret (E_inB_ret (E_lp_ret (E_inB_ret (E_done1 rfl rfl E ?_))))
    exact bf fun h => by simp only [workerOk, Bool.and_eq_true] at h; obtain ⟨⟨⟨⟨⟨⟨⟨⟨⟨q1, q2⟩, q3⟩, q4⟩, q5⟩, q6⟩, q7⟩, q8⟩, q9⟩, q10⟩ := h; have := allR_get q5 (by assumption); rw [inAt_at (by assumption), hc3] at this; cases this
   ·refine S_skip ?_
    refine S_nil (E_inB ?_)
    refine S_reg [true, true, true] rfl rfl ?_
    refine J_st (R_move rfl) rfl (J_st (R_add rfl rfl (add_one hc2n (hd4.ext E).1.1)) rfl (J_st (R_assign rfl) rfl (J_done ?_)))
    refine S_nil (E_again (k + 1) (by omega) ⟨rfl, rfl, rfl, rfl, trivial⟩ ⟨E, (by omega), h1, h2, (by omega), allR_s hI1 ((inAt_at (by assumption)).trans (congrArg not hc3))⟩)
  ·have hc2n : ¬ k < x.inputs.length := by first | (have h := of_decide_eq_false hc2; omega) | (have h := hc2; simp at h; omega)
   refine S_exit (E_lp_exit (E_inB_exit ?_))
   refine S_seq ?_
   refine S_seq ?_
   refine S_reg [true] rfl rfl ?_
   refine J_st (R_assign rfl) rfl (J_done ?_)
   refine S_block ?_
   refine S_loop (fun (k : Nat) => [(3, .pointer (some ⟨b2, 0, none⟩)), (4, .bool false), (5, .int .i64 4), (7, .int .i64 ((k : Nat) : Int))]) (fun (k : Nat) w' => Ext w w' ∧ w8.heap.size ≤ w'.heap.size ∧ Blk w' b1 ([o1, .int .i64 g.workers, .int .i64 g.cap]) ∧ Blk w' b2 ([o2, o3, o4, o5, o6, o7, o8, o9]) ∧ k ≤ 4 ∧ (x.sums.take k).all (win · (-1000000) 1000000) = true) (fun (k : Nat) => 4 - k) 0 ⟨rfl, rfl, rfl, rfl, trivial⟩ ⟨E, Nat.le_refl _, h1, h2, Nat.zero_le _, rfl⟩ ?_
   clear E h1 h2
   rintro k w11 ⟨E, z10, h1, h2, hk, hI2⟩
   have hs4 := wk_len hc1
   refine S_seq ?_
   refine S_seq ?_
   refine S_reg [true, true, true] rfl rfl ?_
   refine J_st (R_move rfl) rfl (J_st (R_move rfl) rfl (J_st (R_lss rfl rfl) rfl (J_done ?_)))
   refine S_cond rfl (fun hc4 => ?_) (fun hc4 => ?_)
   ·have hc4n : k < 4 := by first | (have h := of_decide_eq_true hc4; omega) | (have h := hc4; simp at h; omega)
    refine S_skip ?_
    refine S_seq ?_
    refine S_block ?_
    refine S_seq ?_
    refine S_reg [true, true, true, true, true, false, true] rfl rfl ?_
    refine J_st (R_fieldAddr0 fl33_4 rfl) rfl (J_st (R_load sc29 rfl (h2.one 4 rfl)) rfl (J_st (R_move rfl) rfl ?_))
    have hi2 : k < x.sums.length := (by first | assumption | omega | (simp only [List.length_set]; first | assumption | omega) | (simp only [List.getElem_set_self, List.length_set]; first | assumption | omega) | (simp only [setW, setLk, List.length_set]; first | assumption | omega) | (simp; done))
    refine J_st (R_index (i := k) sl29 rfl rfl (hd6.rd.ext E) hi2) rfl (J_st (R_load sc3 rfl (((hd6.rd.ext E).get hi2).one 0 rfl)) rfl ?_)
    refine J_call Try.call58 rfl (s_l01In (x.sums[k]'hi2) (-1000000) 1000000 _ ) rfl (fun _ w12 e8 hv => ?_)
    subst hv
    replace E := E.trans e8; replace h1 := h1.ext e8; replace h2 := h2.ext e8
    have z11 := e8.size
    refine J_st (R_not rfl) rfl (J_done ?_)
    refine S_cond rfl (fun hc5 => ?_) (fun hc5 => ?_)
    ·refine S_seq ?_
     refine S_reg [true] rfl rfl ?_
     refine J_st (R_assign rfl) rfl (J_done ?_)
     refine S_ret (E_inB_ret (E_lp_ret (E_inB_ret (E_done1 rfl rfl E ?_))))
     exact bf fun h => by simp only [workerOk, Bool.and_eq_true] at h; obtain ⟨⟨⟨⟨⟨⟨⟨⟨⟨q1, q2⟩, q3⟩, q4⟩, q5⟩, q6⟩, q7⟩, q8⟩, q9⟩, q10⟩ := h; have := List.all_eq_true.1 q9 _ (List.getElem_mem (by omega)); simp only [this] at hc5; cases hc5
    ·refine S_skip ?_
     refine S_nil (E_inB ?_)
     refine S_reg [true, true, true] rfl rfl ?_
     refine J_st (R_move rfl) rfl (J_st (R_add rfl rfl (add_one hc4n (by first | assumption | (unfold maxLen; omega)))) rfl (J_st (R_assign rfl) rfl (J_done ?_)))
     refine S_nil (E_again (k + 1) (by omega) ⟨rfl, rfl, rfl, rfl, trivial⟩ ⟨E, (by omega), h1, h2, (by omega), all_step hI2 (by omega) (by simpa using hc5)⟩)
   ·have hc4n : ¬ k < 4 := by first | (have h := of_decide_eq_false hc4; omega) | (have h := hc4; simp at h; omega)
    refine S_exit (E_lp_exit (E_inB_exit ?_))
    refine S_seq ?_
    refine S_seq ?_
    refine S_reg [true] rfl rfl ?_
    refine J_st (R_assign rfl) rfl (J_done ?_)
    refine S_block ?_
    refine S_loop (fun (i : Nat) => [(3, .pointer (some ⟨b2, 0, none⟩)), (4, .bool false), (8, .int .i64 ((i : Nat) : Int))]) (fun (i : Nat) w' => Ext w w' ∧ w11.heap.size ≤ w'.heap.size ∧ Blk w' b1 ([o1, .int .i64 g.workers, .int .i64 g.cap]) ∧ Blk w' b2 ([o2, o3, o4, o5, o6, o7, o8, o9]) ∧ i ≤ x.dones.length ∧ allR i (fun j => doneAtOk x.dones j) = true) (fun (i : Nat) => x.dones.length - i) 0 ⟨rfl, rfl, rfl, trivial⟩ ⟨E, Nat.le_refl _, h1, h2, Nat.zero_le _, rfl⟩ ?_
    clear E h1 h2
    rintro i w13 ⟨E, z12, h1, h2, hle, hI3⟩
    have hmd := hd9.1.1
    unfold maxLen at hmd
    refine S_seq ?_
    refine S_seq ?_
    refine S_reg [true, true, true, true, true] rfl rfl ?_
    refine J_st (R_move rfl) rfl (J_st (R_fieldAddr0 fl33_7 rfl) rfl (J_st (R_load sc31 rfl (h2.one 7 rfl)) rfl (J_st (R_len Try.underlying31 rfl (hd9.ext E).len) rfl (J_st (R_lss rfl rfl) rfl (J_done ?_)))))
    refine S_cond rfl (fun hc6 => ?_) (fun hc6 => ?_)
    ·have hc6n : i < x.dones.length := by first | (have h := of_decide_eq_true hc6; omega) | (have h := hc6; simp at h; omega)
     refine S_skip ?_
     refine S_seq ?_
     refine S_block ?_
     refine S_seq ?_
     refine S_seq ?_
     refine S_reg [true, true, true, true, true, true, false, true] rfl rfl ?_
     refine J_st (R_fieldAddr0 fl33_7 rfl) rfl (J_st (R_load sc31 rfl (h2.one 7 rfl)) rfl (J_st (R_move rfl) rfl ?_))
     have hi3 : i < x.dones.length := (by first | assumption | omega | (simp only [List.length_set]; first | assumption | omega) | (simp only [List.getElem_set_self, List.length_set]; first | assumption | omega) | (simp only [setW, setLk, List.length_set]; first | assumption | omega) | (simp; done))
     refine J_st (R_index (i := i) sl31 rfl rfl (hd9.rd.ext E) hi3) rfl (J_st (R_fieldAddr fl68_0 rfl) rfl (J_st (R_load sc3 rfl (((hd9.rd.ext E).get hi3).one 0 rfl)) rfl ?_))
     refine J_call Try.call58 rfl (s_l01In ((x.dones[i]'hi3).epoch) 0 3 _ ) rfl (fun _ w14 e9 hv => ?_)
     subst hv
     replace E := E.trans e9; replace h1 := h1.ext e9; replace h2 := h2.ext e9
     have z13 := e9.size
     refine J_st (R_not rfl) rfl (J_done ?_)
     refine S_cond rfl (fun hc7 => ?_) (fun hc7 => ?_)
     ·refine S_seq ?_
      refine S_reg [true] rfl rfl ?_
      refine J_st (R_assign rfl) rfl (J_done ?_)
      refine S_ret (E_inB_ret (E_lp_ret (E_inB_ret (E_done1 rfl rfl E ?_))))
      exact bf fun h => by simp only [workerOk, Bool.and_eq_true] at h; obtain ⟨⟨⟨⟨⟨⟨⟨⟨⟨q1, q2⟩, q3⟩, q4⟩, q5⟩, q6⟩, q7⟩, q8⟩, q9⟩, q10⟩ := h; have := allR_get q10 (by assumption); rw [doneAtOk_at (by assumption)] at this; simp only [hc7, Bool.true_or] at this; cases this
     ·refine S_skip ?_
      refine S_seq ?_
      refine S_reg [true] rfl rfl ?_
      refine J_st (R_assign rfl) rfl (J_done ?_)
      refine S_block ?_
      refine S_loop (fun (j : Nat) => [(3, .pointer (some ⟨b2, 0, none⟩)), (4, .bool false), (8, .int .i64 ((i : Nat) : Int)), (9, .int .i64 ((j : Nat) : Int))]) (fun (j : Nat) w' => Ext w w' ∧ w14.heap.size ≤ w'.heap.size ∧ Blk w' b1 ([o1, .int .i64 g.workers, .int .i64 g.cap]) ∧ Blk w' b2 ([o2, o3, o4, o5, o6, o7, o8, o9]) ∧ j ≤ i ∧ (x.dones.take j).any (fun d => d.epoch == (x.dones[i]'hi3).epoch) = false) (fun (j : Nat) => i - j) 0 ⟨rfl, rfl, rfl, rfl, trivial⟩ ⟨E, Nat.le_refl _, h1, h2, Nat.zero_le _, rfl⟩ ?_
      clear E h1 h2
      rintro j w15 ⟨E, z14, h1, h2, hk, hJ⟩
      refine S_seq ?_
      refine S_seq ?_
      refine S_reg [true, true, true] rfl rfl ?_
      refine J_st (R_move rfl) rfl (J_st (R_move rfl) rfl (J_st (R_lss rfl rfl) rfl (J_done ?_)))
      refine S_cond rfl (fun hc8 => ?_) (fun hc8 => ?_)
      ·have hc8n : j < i := by first | (have h := of_decide_eq_true hc8; omega) | (have h := hc8; simp at h; omega)
       refine S_skip ?_
       refine S_seq ?_
       refine S_block ?_
       refine S_seq ?_
       refine S_regD mixed [(0, true), (1, true), (2, true), (3, true), (4, true), (5, true), (6, true), (7, true), (8, true), (9, true), (10, true), (11, true), (12, true)] (by decide +kernel) rfl (fun w16 e10 => ?_)
       replace E := E.trans e10; replace h1 := h1.ext e10; replace h2 := h2.ext e10
       have z15 := e10.size
       refine J_st (R_fieldAddr0 fl33_7 rfl) rfl (J_st (R_load sc31 rfl (h2.one 7 rfl)) rfl (J_st (R_move rfl) rfl ?_))
       have hi4 : j < x.dones.length := (by first | assumption | omega | (simp only [List.length_set]; first | assumption | omega) | (simp only [List.getElem_set_self, List.length_set]; first | assumption | omega) | (simp only [setW, setLk, List.length_set]; first | assumption | omega) | (simp; done))
       refine J_st (R_index (i := j) sl31 rfl rfl (hd9.rd.ext E) hi4) rfl (J_st (R_fieldAddr fl68_0 rfl) rfl (J_st (R_load sc3 rfl (((hd9.rd.ext E).get hi4).one 0 rfl)) rfl (J_st (R_fieldAddr0 fl33_7 rfl) rfl (J_st (R_load sc31 rfl (h2.one 7 rfl)) rfl (J_st (R_move rfl) rfl (J_st (R_index (i := i) sl31 rfl rfl (hd9.rd.ext E) hi3) rfl (J_st (R_fieldAddr fl68_0 rfl) rfl (J_st (R_load sc3 rfl (((hd9.rd.ext E).get hi3).one 0 rfl)) rfl (J_st (R_eql rfl rfl) rfl (J_done ?_))))))))))
       refine S_cond rfl (fun hc9 => ?_) (fun hc9 => ?_)
       ·refine S_seq ?_
        refine S_reg [true] rfl rfl ?_
        refine J_st (R_assign rfl) rfl (J_done ?_)
        refine S_ret (E_inB_ret (E_lp_ret (E_inB_ret (E_inB_ret (E_lp_ret (E_inB_ret (E_done1 rfl rfl E ?_)))))))
        exact bf fun h => by simp only [workerOk, Bool.and_eq_true] at h; obtain ⟨⟨⟨⟨⟨⟨⟨⟨⟨q1, q2⟩, q3⟩, q4⟩, q5⟩, q6⟩, q7⟩, q8⟩, q9⟩, q10⟩ := h; have := allR_get (j := i) q10 (by omega); exact done_n this (by omega) (by assumption)
       ·refine S_skip ?_
        refine S_nil (E_inB ?_)
        refine S_reg [true, true, true] rfl rfl ?_
        refine J_st (R_move rfl) rfl (J_st (R_add rfl rfl (add_one hc8n (by first | assumption | (unfold maxLen; omega)))) rfl (J_st (R_assign rfl) rfl (J_done ?_)))
        refine S_nil (E_again (j + 1) (by omega) ⟨rfl, rfl, rfl, rfl, trivial⟩ ⟨E, (by omega), h1, h2, (by omega), any_step hJ (by omega) (by assumption)⟩)
      ·have hc8n : ¬ j < i := by first | (have h := of_decide_eq_false hc8; omega) | (have h := hc8; simp at h; omega)
       refine S_exit (E_lp_exit (E_inB_exit ?_))
       refine S_nil (E_inB ?_)
       refine S_reg [true, true, true] rfl rfl ?_
       refine J_st (R_move rfl) rfl (J_st (R_add rfl rfl (add_one hc6n (hd9.ext E).1.1)) rfl (J_st (R_assign rfl) rfl (J_done ?_)))
       refine S_nil (E_again (i + 1) (by omega) ⟨rfl, rfl, rfl, trivial⟩ ⟨E, (by omega), h1, h2, (by omega), (allR_s hI3 (done_s (h1 := hi3) (by assumption) hJ (by omega)))⟩)
    ·have hc6n : ¬ i < x.dones.length := by first | (have h := of_decide_eq_false hc6; omega) | (have h := hc6; simp at h; omega)
     refine S_exit (E_lp_exit (E_inB_exit ?_))
     refine S_seq ?_
     refine S_reg [true] rfl rfl ?_
     refine J_st (R_assign rfl) rfl (J_done ?_)
     refine S_ret (E_done1 rfl rfl E ?_)
     exact wk_yes2 hc1 (allR_le hI1 (by omega)) (all_end hI2 (by have := wk_len hc1; omega)) (allR_le hI3 (by omega))

set_option maxRecDepth 20000 in
theorem s_NodeOf (cg : List Value) (g : Graph) (op : Int) (w : World) (hg : Dat.R w 0 w.heap.size cg g) (hb : cntGraph g ≤ 1048576) : Ct Try.prog 65 [.agg cg.toArray, .int .i64 op] w (fun v w' => ∃ c0, v = .tuple [.agg c0.toArray, .bool ((nodeOf g op).2)].toArray ∧ Own1.O w' w.heap.size w'.heap.size c0 ((nodeOf g op).1)) := by
 refine ct_of Try.func65 rfl Try.ntmps65 rfl ?_
 obtain ⟨o1, rfl, hd1⟩ := Graph.op hg
 refine S_sub [(0, .agg [o1, .int .i64 g.workers, .int .i64 g.cap].toArray), (1, .int .i64 op)] ⟨rfl, rfl, trivial⟩ ?_
 have E : Ext w w := Ext.refl w
 refine S_seq ?_
 refine S_reg [false, false, true] rfl rfl ?_
 refine J_box rfl rfl (fun b1 w1 e1 s1 h1 => ?_)
 have g_b1 : w.heap.size ≤ b1 := by have := E.size; omega
 have y_b1 := h1.lt
 replace E := E.trans e1
 have z1 := e1.size
 refine J_alloc st45 rfl (fun b2 w2 e2 s2 h2 => ?_)
 have g_b2 : w.heap.size ≤ b2 := by have := E.size; omega
 have y_b2 := h2.lt
 replace E := E.trans e2; replace h1 := h1.ext e2
 have z2 := e2.size
 refine J_st (R_assign rfl) rfl (J_done ?_)
 refine S_seq ?_
 refine S_seq ?_
 refine S_reg [true, true, true, true, true, false, true] rfl rfl ?_
 refine J_st (R_move rfl) rfl (J_st (R_fieldAddr0 fl26_0 rfl) rfl (J_st (R_load sc24 rfl (h1.one 0 rfl)) rfl (J_st (R_len Try.underlying24 rfl (hd1.ext E).len) rfl (J_st (R_sub rfl rfl rfl) rfl ?_))))
 refine J_call Try.call58 rfl (s_l01In op 0 (IntKind.i64.wrap (((g.nodes.length : Nat) : Int) - 1)) _ ) rfl (fun _ w3 e3 hv => ?_)
 subst hv
 replace E := E.trans e3; replace h1 := h1.ext e3; replace h2 := h2.ext e3
 have z3 := e3.size
 refine J_st (R_not rfl) rfl (J_done ?_)
 refine S_cond rfl (fun hc1 => ?_) (fun hc1 => ?_)
 ·rw [isN_w hd1.1.1] at hc1
  refine S_seq ?_
  refine S_reg [true, false, true] rfl rfl ?_
  have hbl1 : ∀ w, (Instr.build 45 ([]).toArray).run Try.prog w = .ok (.agg [.int .i64 0, .int .i64 0, .int .i64 0, .slice none 0 0].toArray) w := by clear E; intro w; kernel_rfl
  refine J_st (R_buildC [.int .i64 0, .int .i64 0, .int .i64 0, .slice none 0 0] rfl hbl1) rfl ?_
  refine J_storeS' (cs' := [.int .i64 0, .int .i64 0, .int .i64 0, .slice none 0 0]) st45 rfl rfl rfl rfl h2 (Nat.le_of_ble_eq_true rfl) rfl (fun w4 m1 h2' => ?_)
  replace h2 := h2'
  replace E := E.step m1 (fun g hg => by cases hg; omega); replace h1 := h1.mod m1 (fun g hg => by cases hg; omega)
  have z4 := m1.size
  refine J_st (R_assign rfl) rfl (J_done ?_)
  refine S_ret (E_doneN (l := [.cell 4 45, .tmp 5]) (vs := [.agg [.int .i64 0, .int .i64 0, .int .i64 0, .slice none 0 0].toArray, .bool false]) rfl ⟨.cell rfl (run_loadVar_st st45 h2.at rfl), .tmp rfl, trivial⟩ rfl E ?_)
  rw [nodeOf_no (by simpa [isNodeM] using hc1)]
  exact ⟨_, rfl, (Node.mkO (⟨0, 0, 0, []⟩ : Node) ⟨trivial, trivial⟩ (Own.nil _ _ _ _))⟩
 ·rw [isN_w hd1.1.1] at hc1
  have hop := isNode_of (by simpa [isNodeM] using hc1)
  refine S_skip ?_
  refine S_seq ?_
  refine S_reg [true, true, true, true, true, false, false] rfl rfl ?_
  refine J_st (R_fieldAddr0 fl26_0 rfl) rfl (J_st (R_load sc24 rfl (h1.one 0 rfl)) rfl (J_st (R_move rfl) rfl ?_))
  have hi1 : (Int.toNat op) < g.nodes.length := (by first | assumption | omega | (simp only [List.length_set]; first | assumption | omega) | (simp only [List.getElem_set_self, List.length_set]; first | assumption | omega) | (simp only [setW, setLk, List.length_set]; first | assumption | omega) | (simp; done))
  obtain ⟨_, hr1, ha1⟩ := RdD.get hd1 hi1
  obtain ⟨o2, rfl, hd2⟩ := Node.op hr1
  replace ha1 : At w (sblk o1) (soff o1 + (Int.toNat op) * 4) [.int .i64 ((g.nodes[(Int.toNat op)]'hi1).kind), .int .i64 ((g.nodes[(Int.toNat op)]'hi1).a), .int .i64 ((g.nodes[(Int.toNat op)]'hi1).b), o2] := ha1
  refine J_st (R_indexZ (i := (Int.toNat op)) sl24 rfl rfl (hd1.ext E).1 (by omega) hi1) rfl (J_st (R_loadS st45 rfl (ha1.ext E) rfl) rfl ?_)
  refine J_alloc st45 rfl (fun b3 w5 e4 s3 h3 => ?_)
  have g_b3 : w.heap.size ≤ b3 := by have := E.size; omega
  have y_b3 := h3.lt
  replace E := E.trans e4; replace h1 := h1.ext e4; replace h2 := h2.ext e4
  have z5 := e4.size
  refine J_storeS' (cs' := [.int .i64 ((g.nodes[(Int.toNat op)]'hi1).kind), .int .i64 ((g.nodes[(Int.toNat op)]'hi1).a), .int .i64 ((g.nodes[(Int.toNat op)]'hi1).b), o2]) st45 rfl rfl rfl (all_cons rfl (all_cons rfl (all_cons rfl (all_cons (RdD.one (hd2.ext E)) rfl)))) h3 (Nat.le_of_ble_eq_true rfl) rfl (fun w6 m2 h3' => ?_)
  replace h3 := h3'
  replace E := E.step m2 (fun g hg => by cases hg; omega); replace h1 := h1.mod m2 (fun g hg => by cases hg; omega); replace h2 := h2.mod m2 (fun g hg => by cases hg; omega)
  have z6 := m2.size
  refine J_done ?_
  refine S_seq ?_
  refine S_reg [false, true, true, false, true, false] rfl rfl ?_
  refine J_buildSlice (vs := []) (css := []) sl29 rfl rfl trivial rfl rfl (fun b4 w7 e5 s4 h4 => ?_)
  replace h4 : Blk w7 b4 [] := h4
  have g_b4 : w.heap.size ≤ b4 := by have := E.size; omega
  have y_b4 := h4.lt
  replace E := E.trans e5; replace h1 := h1.ext e5; replace h2 := h2.ext e5; replace h3 := h3.ext e5
  have z7 := e5.size
  refine J_st (R_fieldAddr0 fl45_3 rfl) rfl (J_st (R_load sc29 rfl (h3.one 3 rfl)) rfl ?_)
  refine J_append sl29 rfl rfl (Own.ofBlk (lo := b4) (hi := b4 + 1) (sz := 1) h4 (Nat.le_refl _) (Nat.lt_succ_self _) (by simp) (by simp [maxLen])) (RdS.src (hd2.rd.ext E)) (flat_one _) (by have h := outs_le hb (List.getElem_mem (l := g.nodes) (n := Int.toNat op) (by omega)); rw [sum_flat]; simp only [List.length_nil, show Enc.sz Int = 1 from rfl]; omega) (by decide) (by omega) (by omega) rfl rfl (fun v1 w8 m3 ho1 => ?_)
  replace E := E.step m3 (fun g hg => by have := Own.blk (Own.ofBlk (lo := b4) (hi := b4 + 1) (sz := 1) h4 (Nat.le_refl _) (Nat.lt_succ_self _) (by simp) (by simp [maxLen])) g hg; omega); replace h1 := h1.mod m3 (fun g hg => by have := Own.blk (Own.ofBlk (lo := b4) (hi := b4 + 1) (sz := 1) h4 (Nat.le_refl _) (Nat.lt_succ_self _) (by simp) (by simp [maxLen])) g hg; omega); replace h2 := h2.mod m3 (fun g hg => by have := Own.blk (Own.ofBlk (lo := b4) (hi := b4 + 1) (sz := 1) h4 (Nat.le_refl _) (Nat.lt_succ_self _) (by simp) (by simp [maxLen])) g hg; omega); replace h3 := h3.mod m3 (fun g hg => by have := Own.blk (Own.ofBlk (lo := b4) (hi := b4 + 1) (sz := 1) h4 (Nat.le_refl _) (Nat.lt_succ_self _) (by simp) (by simp [maxLen])) g hg; omega)
  have z8 := m3.size
  refine J_st (R_fieldAddr0 fl45_3 rfl) rfl ?_
  refine J_store' (cs' := [.int .i64 ((g.nodes[(Int.toNat op)]'hi1).kind), .int .i64 ((g.nodes[(Int.toNat op)]'hi1).a), .int .i64 ((g.nodes[(Int.toNat op)]'hi1).b), v1]) sc29 rfl rfl ho1.one h3 (Nat.le_of_ble_eq_true rfl) rfl (fun w9 m4 h3' => ?_)
  replace h3 := h3'
  replace E := E.step m4 (fun g hg => by cases hg; omega); replace h1 := h1.mod m4 (fun g hg => by cases hg; omega); replace h2 := h2.mod m4 (fun g hg => by cases hg; omega); replace ho1 := ho1.mod m4 (fun g hg => by cases hg; omega)
  have z9 := m4.size
  refine J_done ?_
  refine S_seq ?_
  refine S_reg [true, false, true] rfl rfl ?_
  refine J_st (R_loadS st45 rfl h3.at rfl) rfl ?_
  refine J_storeS' (cs' := [.int .i64 ((g.nodes[(Int.toNat op)]'hi1).kind), .int .i64 ((g.nodes[(Int.toNat op)]'hi1).a), .int .i64 ((g.nodes[(Int.toNat op)]'hi1).b), v1]) st45 rfl rfl rfl (all_cons rfl (all_cons rfl (all_cons rfl (all_cons ho1.one rfl)))) h2 (Nat.le_of_ble_eq_true rfl) rfl (fun w10 m5 h2' => ?_)
  replace h2 := h2'
  replace E := E.step m5 (fun g hg => by cases hg; omega); replace h1 := h1.mod m5 (fun g hg => by cases hg; omega); replace h3 := h3.mod m5 (fun g hg => by cases hg; omega); replace ho1 := ho1.mod m5 (fun g hg => by cases hg; omega)
  have z10 := m5.size
  refine J_st (R_assign rfl) rfl (J_done ?_)
  refine S_ret (E_doneN (l := [.cell 4 45, .tmp 5]) (vs := [.agg [.int .i64 ((g.nodes[(Int.toNat op)]'hi1).kind), .int .i64 ((g.nodes[(Int.toNat op)]'hi1).a), .int .i64 ((g.nodes[(Int.toNat op)]'hi1).b), v1].toArray, .bool true]) rfl ⟨.cell rfl (run_loadVar_st st45 h2.at rfl), .tmp rfl, trivial⟩ rfl E ?_)
  rw [nodeOf_yes (by assumption) ]
  exact ⟨_, rfl, (Node.mkO (⟨(g.nodes[(Int.toNat op)]'hi1).kind, (g.nodes[(Int.toNat op)]'hi1).a, (g.nodes[(Int.toNat op)]'hi1).b, [] ++ ((g.nodes[(Int.toNat op)]'hi1).outs)⟩ : Node) ⟨trivial, trivial⟩ (Own.widen ho1 (by omega) (by omega)))⟩

set_option maxRecDepth 20000 in
theorem s_Capped (cg : List Value) (g : Graph) (r : Record) (w : World) (hg : Dat.R w 0 w.heap.size cg g) (hb : cntGraph g ≤ 1048576) : Ct Try.prog 60 [.agg cg.toArray, .agg (Enc.enc r).toArray] w (fun v _ => v = .bool (cappedM g r)) := by
 refine ct_of Try.func60 rfl Try.ntmps60 rfl ?_
 obtain ⟨o1, rfl, hd1⟩ := Graph.op hg
 refine S_sub [(0, .agg [o1, .int .i64 g.workers, .int .i64 g.cap].toArray), (1, .agg (Enc.enc r).toArray)] ⟨rfl, rfl, trivial⟩ ?_
 have E : Ext w w := Ext.refl w
 refine S_seq ?_
 refine S_reg [false, false, true] rfl rfl ?_
 refine J_box rfl rfl (fun b1 w1 e1 s1 h1 => ?_)
 have g_b1 : w.heap.size ≤ b1 := by have := E.size; omega
 have y_b1 := h1.lt
 replace E := E.trans e1
 have z1 := e1.size
 refine J_box rfl rfl (fun b2 w2 e2 s2 h2 => ?_)
 have g_b2 : w.heap.size ≤ b2 := by have := E.size; omega
 have y_b2 := h2.lt
 replace E := E.trans e2; replace h1 := h1.ext e2
 have z2 := e2.size
 refine J_st (R_assign rfl) rfl (J_done ?_)
 refine S_seq ?_
 refine S_reg [true, true, true, false, true, true, true, false, false, true] rfl rfl ?_
 refine J_st (R_loadS st26 rfl h1.at rfl) rfl (J_st (R_fieldAddr0 fl43_0 rfl) rfl (J_st (R_load sc3 rfl (h2.one 0 rfl)) rfl ?_))
 refine J_call Try.call65 rfl (s_NodeOf [o1, .int .i64 g.workers, .int .i64 g.cap] g r.op _ (Graph.mkR g (RdD.any (hd1.ext E))) (by first | omega | (simp only [mkL_length]; omega) | (rw [mkL_length]; done) | (simp only [mkL_length]; done))) rfl (fun _ w3 e3 ho1 => ?_)
 obtain ⟨_, rfl, ho2⟩ := ho1
 have g_ho1 : w.heap.size ≤ w2.heap.size := E.size
 replace E := E.trans e3; replace h1 := h1.ext e3; replace h2 := h2.ext e3
 have z3 := e3.size
 obtain ⟨o2, rfl, sp1, hw1⟩ := Node.opO ho2
 refine J_st (R_move rfl) rfl (J_st (R_extract rfl rfl) rfl (J_st (R_extract rfl rfl) rfl ?_))
 refine J_alloc st45 rfl (fun b3 w4 e4 s3 h3 => ?_)
 have g_b3 : w.heap.size ≤ b3 := by have := E.size; omega
 have y_b3 := h3.lt
 replace E := E.trans e4; replace h1 := h1.ext e4; replace h2 := h2.ext e4; replace hw1 := hw1.ext e4
 have z4 := e4.size
 refine J_storeS' (cs' := [.int .i64 (((nodeOf g r.op).1).kind), .int .i64 (((nodeOf g r.op).1).a), .int .i64 (((nodeOf g r.op).1).b), o2]) st45 rfl rfl rfl (all_cons rfl (all_cons rfl (all_cons rfl (all_cons hw1.one rfl)))) h3 (Nat.le_of_ble_eq_true rfl) rfl (fun w5 m1 h3' => ?_)
 replace h3 := h3'
 replace E := E.step m1 (fun g hg => by cases hg; omega); replace h1 := h1.mod m1 (fun g hg => by cases hg; omega); replace h2 := h2.mod m1 (fun g hg => by cases hg; omega); replace hw1 := hw1.mod m1 (fun g hg => by cases hg; omega)
 have z5 := m1.size
 refine J_st (R_assign rfl) rfl (J_done ?_)
 refine S_seq ?_
 refine S_reg [true, true, false, true, true, true, false, false, true] rfl rfl ?_
 refine J_st (R_fieldAddr0 fl43_1 rfl) rfl (J_st (R_loadS st41 rfl (h2.part 1 [.int .i64 r.stamp.epoch, .int .i64 r.stamp.turn] rfl) rfl) rfl ?_)
 refine J_call Try.call70 rfl (s_NextTurn r.stamp _ ) rfl (fun _ w6 e5 hv => ?_)
 subst hv
 replace E := E.trans e5; replace h1 := h1.ext e5; replace h2 := h2.ext e5; replace hw1 := hw1.ext e5; replace h3 := h3.ext e5
 have z6 := e5.size
 refine J_st (R_move rfl) rfl (J_st (R_extract rfl rfl) rfl (J_st (R_extract rfl rfl) rfl ?_))
 refine J_alloc st41 rfl (fun b4 w7 e6 s4 h4 => ?_)
 have g_b4 : w.heap.size ≤ b4 := by have := E.size; omega
 have y_b4 := h4.lt
 replace E := E.trans e6; replace h1 := h1.ext e6; replace h2 := h2.ext e6; replace hw1 := hw1.ext e6; replace h3 := h3.ext e6
 have z7 := e6.size
 refine J_storeS' (cs' := [.int .i64 (((nextT r.stamp).1).epoch), .int .i64 (((nextT r.stamp).1).turn)]) st41 rfl rfl rfl rfl h4 (Nat.le_of_ble_eq_true rfl) rfl (fun w8 m2 h4' => ?_)
 replace h4 := h4'
 replace E := E.step m2 (fun g hg => by cases hg; omega); replace h1 := h1.mod m2 (fun g hg => by cases hg; omega); replace h2 := h2.mod m2 (fun g hg => by cases hg; omega); replace hw1 := hw1.mod m2 (fun g hg => by cases hg; omega); replace h3 := h3.mod m2 (fun g hg => by cases hg; omega)
 have z8 := m2.size
 refine J_st (R_assign rfl) rfl (J_done ?_)
 refine S_seq ?_
 refine S_reg [true, true, true, false, true, true, true, false, true, true, true, true, true, true, true, true, true, true, true, true, true, true, true, true, true] rfl rfl ?_
 refine J_st (R_move rfl) rfl (J_st (R_move rfl) rfl ?_)
 refine J_cut 22 [(0, .agg [o1, .int .i64 g.workers, .int .i64 g.cap].toArray), (1, .agg (Enc.enc r).toArray), (2, .pointer (some ⟨b1, 0, none⟩)), (3, .pointer (some ⟨b2, 0, none⟩)), (4, .bool false), (5, .pointer (some ⟨b3, 0, none⟩)), (6, .bool ((nodeOf g r.op).2)), (7, .pointer (some ⟨b4, 0, none⟩)), (8, .bool ((nextT r.stamp).2)), (9, .tuple [.agg [.int .i64 (((nodeOf g r.op).1).kind), .int .i64 (((nodeOf g r.op).1).a), .int .i64 (((nodeOf g r.op).1).b), o2].toArray, .bool ((nodeOf g r.op).2)].toArray), (10, .agg [o1, .int .i64 g.workers, .int .i64 g.cap].toArray), (11, .pointer (some ⟨b2, 0, none⟩)), (12, .int .i64 r.op), (13, .tuple [.agg [.int .i64 (((nodeOf g r.op).1).kind), .int .i64 (((nodeOf g r.op).1).a), .int .i64 (((nodeOf g r.op).1).b), o2].toArray, .bool ((nodeOf g r.op).2)].toArray), (14, .agg [.int .i64 (((nodeOf g r.op).1).kind), .int .i64 (((nodeOf g r.op).1).a), .int .i64 (((nodeOf g r.op).1).b), o2].toArray), (15, .bool ((nodeOf g r.op).2)), (16, .tuple [.agg (Enc.enc ((nextT r.stamp).1)).toArray, .bool ((nextT r.stamp).2)].toArray), (17, .pointer (some ⟨b2, 1, none⟩)), (18, .agg (Enc.enc r.stamp).toArray), (19, .tuple [.agg (Enc.enc ((nextT r.stamp).1)).toArray, .bool ((nextT r.stamp).2)].toArray), (20, .agg (Enc.enc ((nextT r.stamp).1)).toArray), (21, .bool ((nextT r.stamp).2)), (45, .bool (((((((nodeOf g r.op).2) && (graphOk g)) && (recordOk r)) && ((((nodeOf g r.op).1).kind) == 7)) && (decide (0 < (((((nodeOf g r.op).1).outs).length : Nat) : Int)))) && (!((nextT r.stamp).2))))] (fun w' => Ext w w' ∧ w8.heap.size ≤ w'.heap.size ∧ Blk w' b1 ([o1, .int .i64 g.workers, .int .i64 g.cap]) ∧ Blk w' b2 (Enc.enc r) ∧ Own w' w2.heap.size w3.heap.size 1 o2 (List.flatMap (Enc.enc (α := Int)) (((nodeOf g r.op).1).outs)) ∧ Blk w' b3 [.int .i64 (((nodeOf g r.op).1).kind), .int .i64 (((nodeOf g r.op).1).a), .int .i64 (((nodeOf g r.op).1).b), o2] ∧ Blk w' b4 [.int .i64 (((nextT r.stamp).1).epoch), .int .i64 (((nextT r.stamp).1).turn)]) ?_ ?_
 ·refine J_if (gd := 23) rfl rfl (fun hg1 => ?_) (fun hg1 => ?_)
  ·refine J_gd rfl rfl (R_loadS st26 rfl h1.at rfl) rfl ?_
   refine J_ung rfl rfl ?_
   refine J_call Try.call56 rfl (s_GraphOk [o1, .int .i64 g.workers, .int .i64 g.cap] g _ (Graph.mkR g (RdD.any (hd1.ext E)))) rfl (fun _ w10 e7 hv => ?_)
   subst hv
   replace E := E.trans e7; replace h1 := h1.ext e7; replace h2 := h2.ext e7; replace hw1 := hw1.ext e7; replace h3 := h3.ext e7; replace h4 := h4.ext e7
   have z9 := e7.size
   refine J_st (R_pickT rfl rfl) rfl (J_st (R_move rfl) rfl ?_)
   refine J_if (gd := 27) rfl rfl (fun hg2 => ?_) (fun hg2 => ?_)
   ·refine J_gd rfl rfl (R_loadS st43 rfl h2.at rfl) rfl ?_
    refine J_ung rfl rfl ?_
    refine J_call Try.call66 rfl (s_RecordOk r _ ) rfl (fun _ w11 e8 hv => ?_)
    subst hv
    replace E := E.trans e8; replace h1 := h1.ext e8; replace h2 := h2.ext e8; replace hw1 := hw1.ext e8; replace h3 := h3.ext e8; replace h4 := h4.ext e8
    have z10 := e8.size
    refine J_st (R_pickT rfl rfl) rfl (J_st (R_move rfl) rfl ?_)
    refine J_if (gd := 31) rfl rfl (fun hg3 => ?_) (fun hg3 => ?_)
    ·refine J_gd rfl rfl (R_fieldAddr0 fl45_0 rfl) rfl (J_gd rfl rfl (R_load sc3 rfl (h3.one 0 rfl)) rfl (J_gd rfl rfl (R_eql rfl rfl) rfl (J_st (R_pickT rfl rfl) rfl (J_st (R_move rfl) rfl ?_))))
     refine J_if (gd := 36) rfl rfl (fun hg4 => ?_) (fun hg4 => ?_)
     ·refine J_gd rfl rfl (R_fieldAddr0 fl45_3 rfl) rfl (J_gd rfl rfl (R_load sc29 rfl (h3.one 3 rfl)) rfl (J_gd rfl rfl (R_len Try.underlying29 rfl (Own.len (by decide) hw1)) rfl (J_gd rfl rfl (R_gtr rfl rfl) rfl (J_st (R_pickT rfl rfl) rfl (J_st (R_move rfl) rfl ?_)))))
      refine J_if (gd := 42) rfl rfl (fun hg5 => ?_) (fun hg5 => ?_)
      ·have hg5n : (((nodeOf g r.op).1).outs).length > 0 := by first | (have h := of_decide_eq_true hg5; omega) | (have h := hg5; simp at h; omega)
       refine J_gd rfl rfl (R_move rfl) rfl (J_gd rfl rfl (R_not rfl) rfl (J_st (R_pickT rfl rfl) rfl (J_cutEnd ⟨rfl, rfl, rfl, rfl, rfl, rfl, rfl, rfl, rfl, rfl, rfl, rfl, rfl, rfl, rfl, rfl, rfl, rfl, rfl, rfl, rfl, rfl, congrArg (fun b => some (Value.bool b)) (show (!((nextT r.stamp).2)) = (((((((nodeOf g r.op).2) && (graphOk g)) && (recordOk r)) && ((((nodeOf g r.op).1).kind) == 7)) && (decide (0 < (((((nodeOf g r.op).1).outs).length : Nat) : Int)))) && (!((nextT r.stamp).2))) by first | (rw [hg1, hg2, hg3, hg4, hg5] <;> rfl) | (simp [hg1, hg2, hg3, hg4, hg5]; done) | (simp only [nat_nlt] <;> simp)), trivial⟩ ⟨E, (by omega), h1, h2, hw1, h3, h4⟩)))
      ·have hg5n : ¬ (((nodeOf g r.op).1).outs).length > 0 := by first | (have h := of_decide_eq_false hg5; omega) | (have h := hg5; simp at h; omega)
       refine J_gdno rfl rfl rfl rfl (J_gdno rfl rfl rfl rfl (J_st (R_pickF rfl rfl) rfl (J_cutEnd ⟨rfl, rfl, rfl, rfl, rfl, rfl, rfl, rfl, rfl, rfl, rfl, rfl, rfl, rfl, rfl, rfl, rfl, rfl, rfl, rfl, rfl, rfl, congrArg (fun b => some (Value.bool b)) (show false = (((((((nodeOf g r.op).2) && (graphOk g)) && (recordOk r)) && ((((nodeOf g r.op).1).kind) == 7)) && (decide (0 < (((((nodeOf g r.op).1).outs).length : Nat) : Int)))) && (!((nextT r.stamp).2))) by first | (rw [hg1, hg2, hg3, hg4, hg5] <;> rfl) | (simp [hg1, hg2, hg3, hg4, hg5]; done) | (simp only [nat_nlt] <;> simp)), trivial⟩ ⟨E, (by omega), h1, h2, hw1, h3, h4⟩)))
     ·refine J_gdno rfl rfl rfl rfl (J_gdno rfl rfl rfl rfl (J_gdno rfl rfl rfl rfl (J_gdno rfl rfl rfl rfl (J_st (R_pickF rfl rfl) rfl (J_st (R_move rfl) rfl (J_gdno rfl rfl rfl rfl (J_gdno rfl rfl rfl rfl (J_st (R_pickF rfl rfl) rfl (J_cutEnd ⟨rfl, rfl, rfl, rfl, rfl, rfl, rfl, rfl, rfl, rfl, rfl, rfl, rfl, rfl, rfl, rfl, rfl, rfl, rfl, rfl, rfl, rfl, congrArg (fun b => some (Value.bool b)) (show false = (((((((nodeOf g r.op).2) && (graphOk g)) && (recordOk r)) && ((((nodeOf g r.op).1).kind) == 7)) && (decide (0 < (((((nodeOf g r.op).1).outs).length : Nat) : Int)))) && (!((nextT r.stamp).2))) by first | (rw [hg1, hg2, hg3, hg4] <;> rfl) | (simp [hg1, hg2, hg3, hg4]; done) | (simp only [nat_nlt] <;> simp)), trivial⟩ ⟨E, (by omega), h1, h2, hw1, h3, h4⟩)))))))))
    ·refine J_gdno rfl rfl rfl rfl (J_gdno rfl rfl rfl rfl (J_gdno rfl rfl rfl rfl (J_st (R_pickF rfl rfl) rfl (J_st (R_move rfl) rfl (J_gdno rfl rfl rfl rfl (J_gdno rfl rfl rfl rfl (J_gdno rfl rfl rfl rfl (J_gdno rfl rfl rfl rfl (J_st (R_pickF rfl rfl) rfl (J_st (R_move rfl) rfl (J_gdno rfl rfl rfl rfl (J_gdno rfl rfl rfl rfl (J_st (R_pickF rfl rfl) rfl (J_cutEnd ⟨rfl, rfl, rfl, rfl, rfl, rfl, rfl, rfl, rfl, rfl, rfl, rfl, rfl, rfl, rfl, rfl, rfl, rfl, rfl, rfl, rfl, rfl, congrArg (fun b => some (Value.bool b)) (show false = (((((((nodeOf g r.op).2) && (graphOk g)) && (recordOk r)) && ((((nodeOf g r.op).1).kind) == 7)) && (decide (0 < (((((nodeOf g r.op).1).outs).length : Nat) : Int)))) && (!((nextT r.stamp).2))) by first | (rw [hg1, hg2, hg3] <;> rfl) | (simp [hg1, hg2, hg3]; done) | (simp only [nat_nlt] <;> simp)), trivial⟩ ⟨E, (by omega), h1, h2, hw1, h3, h4⟩))))))))))))))
   ·refine J_gdno rfl rfl rfl rfl ?_
    refine J_ungno rfl rfl rfl rfl ?_
    refine J_st (R_pickF rfl rfl) rfl (J_st (R_move rfl) rfl (J_gdno rfl rfl rfl rfl (J_gdno rfl rfl rfl rfl (J_gdno rfl rfl rfl rfl (J_st (R_pickF rfl rfl) rfl (J_st (R_move rfl) rfl (J_gdno rfl rfl rfl rfl (J_gdno rfl rfl rfl rfl (J_gdno rfl rfl rfl rfl (J_gdno rfl rfl rfl rfl (J_st (R_pickF rfl rfl) rfl (J_st (R_move rfl) rfl (J_gdno rfl rfl rfl rfl (J_gdno rfl rfl rfl rfl (J_st (R_pickF rfl rfl) rfl (J_cutEnd ⟨rfl, rfl, rfl, rfl, rfl, rfl, rfl, rfl, rfl, rfl, rfl, rfl, rfl, rfl, rfl, rfl, rfl, rfl, rfl, rfl, rfl, rfl, congrArg (fun b => some (Value.bool b)) (show false = (((((((nodeOf g r.op).2) && (graphOk g)) && (recordOk r)) && ((((nodeOf g r.op).1).kind) == 7)) && (decide (0 < (((((nodeOf g r.op).1).outs).length : Nat) : Int)))) && (!((nextT r.stamp).2))) by first | (rw [hg1, hg2] <;> rfl) | (simp [hg1, hg2]; done) | (simp only [nat_nlt] <;> simp)), trivial⟩ ⟨E, (by omega), h1, h2, hw1, h3, h4⟩))))))))))))))))
  ·refine J_gdno rfl rfl rfl rfl ?_
   refine J_ungno rfl rfl rfl rfl ?_
   refine J_st (R_pickF rfl rfl) rfl (J_st (R_move rfl) rfl (J_gdno rfl rfl rfl rfl ?_))
   refine J_ungno rfl rfl rfl rfl ?_
   refine J_st (R_pickF rfl rfl) rfl (J_st (R_move rfl) rfl (J_gdno rfl rfl rfl rfl (J_gdno rfl rfl rfl rfl (J_gdno rfl rfl rfl rfl (J_st (R_pickF rfl rfl) rfl (J_st (R_move rfl) rfl (J_gdno rfl rfl rfl rfl (J_gdno rfl rfl rfl rfl (J_gdno rfl rfl rfl rfl (J_gdno rfl rfl rfl rfl (J_st (R_pickF rfl rfl) rfl (J_st (R_move rfl) rfl (J_gdno rfl rfl rfl rfl (J_gdno rfl rfl rfl rfl (J_st (R_pickF rfl rfl) rfl (J_cutEnd ⟨rfl, rfl, rfl, rfl, rfl, rfl, rfl, rfl, rfl, rfl, rfl, rfl, rfl, rfl, rfl, rfl, rfl, rfl, rfl, rfl, rfl, rfl, congrArg (fun b => some (Value.bool b)) (show false = (((((((nodeOf g r.op).2) && (graphOk g)) && (recordOk r)) && ((((nodeOf g r.op).1).kind) == 7)) && (decide (0 < (((((nodeOf g r.op).1).outs).length : Nat) : Int)))) && (!((nextT r.stamp).2))) by first | (rw [hg1] <;> rfl) | (simp [hg1]; done) | (simp only [nat_nlt] <;> simp)), trivial⟩ ⟨E, (by omega), h1, h2, hw1, h3, h4⟩))))))))))))))))
 clear E h1 h2 hw1 h3 h4
 rintro w9 ⟨E, z11, h1, h2, hw1, h3, h4⟩
 refine J_st (R_assign rfl) rfl (J_done ?_)
 refine S_ret (E_done1 rfl rfl E ?_)
 rfl

set_option maxRecDepth 20000 in
theorem c_copyRecords (vxs : Value) (xs : List Record) (w : World) (hxs : RdS w vxs xs) (hb : xs.length ≤ 4194304) : Ct Try.prog 25 [vxs] w (fun v w' => Own w' w.heap.size w'.heap.size 5 v (List.flatMap (Enc.enc (α := Record)) xs)) := by
 refine ct_of Try.func25 rfl Try.ntmps25 rfl ?_
 refine S_sub [(0, vxs)] ⟨rfl, trivial⟩ ?_
 have E : Ext w w := Ext.refl w
 refine S_seq ?_
 refine S_reg [true] rfl rfl ?_
 refine J_st (R_assign rfl) rfl (J_done ?_)
 refine S_seq ?_
 refine S_reg [true, false, true] rfl rfl ?_
 refine J_st (R_move rfl) rfl ?_
 refine J_append sl27 rfl rfl (Own.nil w w.heap.size w.heap.size 5) (RdS.src (hxs.ext E)) (flat_one _) (by simp only [sum_flat, List.length_nil]; simp only [Enc.sz]; omega) (by decide) (by omega) (by omega) rfl rfl (fun v1 w1 m1 ho1 => ?_)
 replace E := E.step m1 (fun g hg => by have := Own.blk (Own.nil w w.heap.size w.heap.size 5) g hg; omega)
 have z1 := m1.size
 refine J_st (R_assign rfl) rfl (J_done ?_)
 refine S_ret (E_done1 rfl rfl E ?_)
 exact Own.fin ho1 (by have := E.size; omega) (by omega) (by simp [*])

set_option maxRecDepth 20000 in
theorem c_copyCells (vxs : Value) (xs : List Cell) (w : World) (hxs : RdS w vxs xs) (hb : xs.length ≤ 4194304) : Ct Try.prog 26 [vxs] w (fun v w' => Own w' w.heap.size w'.heap.size 4 v (List.flatMap (Enc.enc (α := Cell)) xs)) := by
 refine ct_of Try.func26 rfl Try.ntmps26 rfl ?_
 refine S_sub [(0, vxs)] ⟨rfl, trivial⟩ ?_
 have E : Ext w w := Ext.refl w
 refine S_seq ?_
 refine S_reg [true] rfl rfl ?_
 refine J_st (R_assign rfl) rfl (J_done ?_)
 refine S_seq ?_
 refine S_reg [true, false, true] rfl rfl ?_
 refine J_st (R_move rfl) rfl ?_
 refine J_append sl28 rfl rfl (Own.nil w w.heap.size w.heap.size 4) (RdS.src (hxs.ext E)) (flat_one _) (by simp only [sum_flat, List.length_nil]; simp only [Enc.sz]; omega) (by decide) (by omega) (by omega) rfl rfl (fun v1 w1 m1 ho1 => ?_)
 replace E := E.step m1 (fun g hg => by have := Own.blk (Own.nil w w.heap.size w.heap.size 4) g hg; omega)
 have z1 := m1.size
 refine J_st (R_assign rfl) rfl (J_done ?_)
 refine S_ret (E_done1 rfl rfl E ?_)
 exact Own.fin ho1 (by have := E.size; omega) (by omega) (by simp [*])

set_option maxRecDepth 20000 in
theorem c_copyWorker (cx : List Value) (x : Worker) (w : World) (hx : Dat.R w 0 w.heap.size cx x) (hb : cntWorker x ≤ 1048576) : Ct Try.prog 12 [.agg cx.toArray] w (fun v w' => ∃ cs, v = .agg cs.toArray ∧ Own1.O w' w.heap.size w'.heap.size cs x) := by
 unfold cntWorker at hb
 refine ct_of Try.func12 rfl Try.ntmps12 rfl ?_
 obtain ⟨o1, o2, o3, o4, o5, o6, o7, o8, rfl, hd1, hd2, hd3, hd4, hd5, hd6, hd7, hd8⟩ := Worker.op hx
 refine S_sub [(0, .agg [o1, o2, o3, o4, o5, o6, o7, o8].toArray)] ⟨rfl, trivial⟩ ?_
 have E : Ext w w := Ext.refl w
 refine S_seq ?_
 refine S_reg [false, false] rfl rfl ?_
 refine J_box rfl rfl (fun b1 w1 e1 s1 h1 => ?_)
 have g_b1 : w.heap.size ≤ b1 := by have := E.size; omega
 have y_b1 := h1.lt
 replace E := E.trans e1
 have z1 := e1.size
 refine J_alloc st33 rfl (fun b2 w2 e2 s2 h2 => ?_)
 have g_b2 : w.heap.size ≤ b2 := by have := E.size; omega
 have y_b2 := h2.lt
 replace E := E.trans e2; replace h1 := h1.ext e2
 have z2 := e2.size
 refine J_done ?_
 refine S_seq ?_
 refine S_regD mixed [(0, true), (1, true), (3, true), (4, true), (6, true), (7, true), (9, true), (10, true), (12, true), (13, true), (15, true), (16, true), (18, true), (19, true), (21, true), (22, true), (2, false), (5, false), (8, false), (11, false), (14, false), (17, false), (20, false), (23, false), (24, true), (25, false)] (by decide +kernel) rfl (fun w3 e3 => ?_)
 replace E := E.trans e3; replace h1 := h1.ext e3; replace h2 := h2.ext e3
 have z3 := e3.size
 refine J_st (R_fieldAddr0 fl33_0 rfl) rfl (J_st (R_load sc27 rfl (h1.one 0 rfl)) rfl (J_st (R_fieldAddr0 fl33_1 rfl) rfl (J_st (R_load sc27 rfl (h1.one 1 rfl)) rfl (J_st (R_fieldAddr0 fl33_2 rfl) rfl (J_st (R_load sc27 rfl (h1.one 2 rfl)) rfl (J_st (R_fieldAddr0 fl33_3 rfl) rfl (J_st (R_load sc28 rfl (h1.one 3 rfl)) rfl (J_st (R_fieldAddr0 fl33_4 rfl) rfl (J_st (R_load sc29 rfl (h1.one 4 rfl)) rfl (J_st (R_fieldAddr0 fl33_5 rfl) rfl (J_st (R_load sc30 rfl (h1.one 5 rfl)) rfl (J_st (R_fieldAddr0 fl33_6 rfl) rfl (J_st (R_load sc30 rfl (h1.one 6 rfl)) rfl (J_st (R_fieldAddr0 fl33_7 rfl) rfl (J_st (R_load sc31 rfl (h1.one 7 rfl)) rfl ?_)))))))))))))))
 refine J_call Try.call25 rfl (c_copyRecords o1 x.queue _ (hd1.rd.ext E) (by first | omega | (simp only [mkL_length]; omega) | (rw [mkL_length]; done) | (simp only [mkL_length]; done))) rfl (fun v1 w4 e4 ho1 => ?_)
 have g_ho1 : w.heap.size ≤ w3.heap.size := E.size
 replace E := E.trans e4; replace h1 := h1.ext e4; replace h2 := h2.ext e4
 have z4 := e4.size
 refine J_call Try.call25 rfl (c_copyRecords o2 x.staged _ (hd2.rd.ext E) (by first | omega | (simp only [mkL_length]; omega) | (rw [mkL_length]; done) | (simp only [mkL_length]; done))) rfl (fun v2 w5 e5 ho2 => ?_)
 have g_ho2 : w.heap.size ≤ w4.heap.size := E.size
 replace E := E.trans e5; replace h1 := h1.ext e5; replace h2 := h2.ext e5; replace ho1 := ho1.ext e5
 have z5 := e5.size
 refine J_call Try.call25 rfl (c_copyRecords o3 x.inputs _ (hd3.rd.ext E) (by first | omega | (simp only [mkL_length]; omega) | (rw [mkL_length]; done) | (simp only [mkL_length]; done))) rfl (fun v3 w6 e6 ho3 => ?_)
 have g_ho3 : w.heap.size ≤ w5.heap.size := E.size
 replace E := E.trans e6; replace h1 := h1.ext e6; replace h2 := h2.ext e6; replace ho1 := ho1.ext e6; replace ho2 := ho2.ext e6
 have z6 := e6.size
 refine J_call Try.call26 rfl (c_copyCells o4 x.cells _ (hd4.rd.ext E) (by first | omega | (simp only [mkL_length]; omega) | (rw [mkL_length]; done) | (simp only [mkL_length]; done))) rfl (fun v4 w7 e7 ho4 => ?_)
 have g_ho4 : w.heap.size ≤ w6.heap.size := E.size
 replace E := E.trans e7; replace h1 := h1.ext e7; replace h2 := h2.ext e7; replace ho1 := ho1.ext e7; replace ho2 := ho2.ext e7; replace ho3 := ho3.ext e7
 have z7 := e7.size
 refine J_appendD sl29 rfl rfl (Own.nil w7 w7.heap.size w7.heap.size 1) ⟨_, _, rfl⟩ (RdS.src (hd5.rd.ext E)) (flat_one _) (by simp only [sum_flat, List.length_nil]; simp only [Enc.sz]; omega) (by decide) (by omega) (by omega) rfl (fun v5 w8 e8 ho5 hb_ho5 => ?_)
 replace E := E.trans e8; replace h1 := h1.ext e8; replace h2 := h2.ext e8; replace ho1 := ho1.ext e8; replace ho2 := ho2.ext e8; replace ho3 := ho3.ext e8; replace ho4 := ho4.ext e8
 have z8 := e8.size
 have g_ho5 : w.heap.size ≤ w7.heap.size := by have := E.size; omega
 replace ho5 : Own w8 w7.heap.size w8.heap.size 1 v5 (List.flatMap (Enc.enc (α := Int)) x.sums) := ho5
 refine J_appendD sl30 rfl rfl (Own.nil w8 w8.heap.size w8.heap.size 1) ⟨_, _, rfl⟩ (RdS.src (hd6.rd.ext E)) (flat_one _) (by simp only [sum_flat, List.length_nil]; simp only [Enc.sz]; omega) (by decide) (by omega) (by omega) rfl (fun v6 w9 e9 ho6 hb_ho6 => ?_)
 replace E := E.trans e9; replace h1 := h1.ext e9; replace h2 := h2.ext e9; replace ho1 := ho1.ext e9; replace ho2 := ho2.ext e9; replace ho3 := ho3.ext e9; replace ho4 := ho4.ext e9; replace ho5 := ho5.ext e9
 have z9 := e9.size
 have g_ho6 : w.heap.size ≤ w8.heap.size := by have := E.size; omega
 replace ho6 : Own w9 w8.heap.size w9.heap.size 1 v6 (List.flatMap (Enc.enc (α := Bool)) x.black) := ho6
 refine J_appendD sl30 rfl rfl (Own.nil w9 w9.heap.size w9.heap.size 1) ⟨_, _, rfl⟩ (RdS.src (hd7.rd.ext E)) (flat_one _) (by simp only [sum_flat, List.length_nil]; simp only [Enc.sz]; omega) (by decide) (by omega) (by omega) rfl (fun v7 w10 e10 ho7 hb_ho7 => ?_)
 replace E := E.trans e10; replace h1 := h1.ext e10; replace h2 := h2.ext e10; replace ho1 := ho1.ext e10; replace ho2 := ho2.ext e10; replace ho3 := ho3.ext e10; replace ho4 := ho4.ext e10; replace ho5 := ho5.ext e10; replace ho6 := ho6.ext e10
 have z10 := e10.size
 have g_ho7 : w.heap.size ≤ w9.heap.size := by have := E.size; omega
 replace ho7 : Own w10 w9.heap.size w10.heap.size 1 v7 (List.flatMap (Enc.enc (α := Bool)) x.caps) := ho7
 refine J_appendD sl31 rfl rfl (Own.nil w10 w10.heap.size w10.heap.size 2) ⟨_, _, rfl⟩ (RdS.src (hd8.rd.ext E)) (flat_one _) (by simp only [sum_flat, List.length_nil]; simp only [Enc.sz]; omega) (by decide) (by omega) (by omega) rfl (fun v8 w11 e11 ho8 hb_ho8 => ?_)
 replace E := E.trans e11; replace h1 := h1.ext e11; replace h2 := h2.ext e11; replace ho1 := ho1.ext e11; replace ho2 := ho2.ext e11; replace ho3 := ho3.ext e11; replace ho4 := ho4.ext e11; replace ho5 := ho5.ext e11; replace ho6 := ho6.ext e11; replace ho7 := ho7.ext e11
 have z11 := e11.size
 have g_ho8 : w.heap.size ≤ w10.heap.size := by have := E.size; omega
 replace ho8 : Own w11 w10.heap.size w11.heap.size 2 v8 (List.flatMap (Enc.enc (α := Done)) x.dones) := ho8
 have hbl1 : ∀ w, (Instr.build 33 ([(0, v1), (1, v2), (2, v3), (3, v4), (4, v5), (5, v6), (6, v7), (7, v8)]).toArray).run Try.prog w = .ok (.agg [v1, v2, v3, v4, v5, v6, v7, v8].toArray) w := by clear E; obtain ⟨_, _, _, rfl⟩ := Own.shape ho1; obtain ⟨_, _, _, rfl⟩ := Own.shape ho2; obtain ⟨_, _, _, rfl⟩ := Own.shape ho3; obtain ⟨_, _, _, rfl⟩ := Own.shape ho4; obtain ⟨_, _, _, rfl⟩ := Own.shape ho5; obtain ⟨_, _, _, rfl⟩ := Own.shape ho6; obtain ⟨_, _, _, rfl⟩ := Own.shape ho7; obtain ⟨_, _, _, rfl⟩ := Own.shape ho8; intro w; kernel_rfl
 refine J_st (R_buildC [v1, v2, v3, v4, v5, v6, v7, v8] rfl hbl1) rfl ?_
 refine J_storeS' (cs' := [v1, v2, v3, v4, v5, v6, v7, v8]) st33 rfl rfl rfl (all_cons ho1.one (all_cons ho2.one (all_cons ho3.one (all_cons ho4.one (all_cons ho5.one (all_cons ho6.one (all_cons ho7.one (all_cons ho8.one rfl)))))))) h2 (Nat.le_of_ble_eq_true rfl) rfl (fun w12 m1 h2' => ?_)
 replace h2 := h2'
 replace E := E.step m1 (fun g hg => by cases hg; omega); replace h1 := h1.mod m1 (fun g hg => by cases hg; omega); replace ho1 := ho1.mod m1 (fun g hg => by cases hg; omega); replace ho2 := ho2.mod m1 (fun g hg => by cases hg; omega); replace ho3 := ho3.mod m1 (fun g hg => by cases hg; omega); replace ho4 := ho4.mod m1 (fun g hg => by cases hg; omega); replace ho5 := ho5.mod m1 (fun g hg => by cases hg; omega); replace ho6 := ho6.mod m1 (fun g hg => by cases hg; omega); replace ho7 := ho7.mod m1 (fun g hg => by cases hg; omega); replace ho8 := ho8.mod m1 (fun g hg => by cases hg; omega)
 have z12 := m1.size
 refine J_done ?_
 refine S_ret (E_doneC rfl rfl (run_loadVar_st st33 h2.at rfl) E ?_)
 exact ⟨_, rfl, Worker.mkO x ⟨⟨(Own.sep ho1 ho2 (by omega)), ⟨(Own.sep ho1 ho3 (by omega)), ⟨(Own.sep ho1 ho4 (by omega)), ⟨(Own.sep ho1 ho5 (by omega)), ⟨(Own.sep ho1 ho6 (by omega)), ⟨(Own.sep ho1 ho7 (by omega)), ⟨(Own.sep ho1 ho8 (by omega)), trivial⟩⟩⟩⟩⟩⟩⟩, ⟨⟨(Own.sep ho2 ho3 (by omega)), ⟨(Own.sep ho2 ho4 (by omega)), ⟨(Own.sep ho2 ho5 (by omega)), ⟨(Own.sep ho2 ho6 (by omega)), ⟨(Own.sep ho2 ho7 (by omega)), ⟨(Own.sep ho2 ho8 (by omega)), trivial⟩⟩⟩⟩⟩⟩, ⟨⟨(Own.sep ho3 ho4 (by omega)), ⟨(Own.sep ho3 ho5 (by omega)), ⟨(Own.sep ho3 ho6 (by omega)), ⟨(Own.sep ho3 ho7 (by omega)), ⟨(Own.sep ho3 ho8 (by omega)), trivial⟩⟩⟩⟩⟩, ⟨⟨(Own.sep ho4 ho5 (by omega)), ⟨(Own.sep ho4 ho6 (by omega)), ⟨(Own.sep ho4 ho7 (by omega)), ⟨(Own.sep ho4 ho8 (by omega)), trivial⟩⟩⟩⟩, ⟨⟨(Own.sep ho5 ho6 (by omega)), ⟨(Own.sep ho5 ho7 (by omega)), ⟨(Own.sep ho5 ho8 (by omega)), trivial⟩⟩⟩, ⟨⟨(Own.sep ho6 ho7 (by omega)), ⟨(Own.sep ho6 ho8 (by omega)), trivial⟩⟩, ⟨⟨(Own.sep ho7 ho8 (by omega)), trivial⟩, ⟨trivial, trivial⟩⟩⟩⟩⟩⟩⟩⟩ (Own.widen ho1 (by omega) (by omega)) (Own.widen ho2 (by omega) (by omega)) (Own.widen ho3 (by omega) (by omega)) (Own.widen ho4 (by omega) (by omega)) (Own.widen ho5 (by omega) (by omega)) (Own.widen ho6 (by omega) (by omega)) (Own.widen ho7 (by omega) (by omega)) (Own.widen ho8 (by omega) (by omega))⟩

set_option maxHeartbeats 4000000 in
set_option maxRecDepth 20000 in
theorem s_l12Copy (cx : List Value) (x : Worker) (w : World) (hx : Dat.R w 0 w.heap.size cx x) (hb : cntWorker x ≤ 1048576) : Ct Try.prog 17 [.agg cx.toArray] w (fun v w' => ∃ cs, v = .agg cs.toArray ∧ Own1.O w' w.heap.size w'.heap.size cs x) := by
 unfold cntWorker at hb
 refine ct_of Try.func17 rfl Try.ntmps17 rfl ?_
 obtain ⟨o1, o2, o3, o4, o5, o6, o7, o8, rfl, hd1, hd2, hd3, hd4, hd5, hd6, hd7, hd8⟩ := Worker.op hx
 refine S_sub [(0, .agg [o1, o2, o3, o4, o5, o6, o7, o8].toArray)] ⟨rfl, trivial⟩ ?_
 have E : Ext w w := Ext.refl w
 refine S_seq ?_
 refine S_reg [false, false] rfl rfl ?_
 refine J_box rfl rfl (fun b1 w1 e1 s1 h1 => ?_)
 have g_b1 : w.heap.size ≤ b1 := by have := E.size; omega
 have y_b1 := h1.lt
 replace E := E.trans e1
 have z1 := e1.size
 refine J_alloc st33 rfl (fun b2 w2 e2 s2 h2 => ?_)
 have g_b2 : w.heap.size ≤ b2 := by have := E.size; omega
 have y_b2 := h2.lt
 replace E := E.trans e2; replace h1 := h1.ext e2
 have z2 := e2.size
 refine J_done ?_
 refine S_seq ?_
 refine S_regP mixed [(1, true), (2, true), (5, true), (6, true), (9, true), (10, true), (13, true), (14, true), (17, true), (18, true), (21, true), (22, true), (25, true), (26, true), (29, true), (30, true)] [⟨0, 3, 5, [], true, none, none⟩, ⟨3, 6, 5, List.flatMap (Enc.enc (α := Record)) x.queue, false, some (0, 3), none⟩, ⟨4, 7, 5, [], true, none, none⟩, ⟨7, 10, 5, List.flatMap (Enc.enc (α := Record)) x.staged, false, some (4, 7), none⟩, ⟨8, 11, 5, [], true, none, none⟩, ⟨11, 14, 5, List.flatMap (Enc.enc (α := Record)) x.inputs, false, some (8, 11), none⟩, ⟨12, 15, 4, [], true, none, none⟩, ⟨15, 18, 4, List.flatMap (Enc.enc (α := Cell)) x.cells, false, some (12, 15), none⟩, ⟨16, 19, 1, [], true, none, none⟩, ⟨19, 22, 1, List.flatMap (Enc.enc (α := Int)) x.sums, false, some (16, 19), none⟩, ⟨20, 23, 1, [], true, none, none⟩, ⟨23, 26, 1, List.flatMap (Enc.enc (α := Bool)) x.black, false, some (20, 23), none⟩, ⟨24, 27, 1, [], true, none, none⟩, ⟨27, 30, 1, List.flatMap (Enc.enc (α := Bool)) x.caps, false, some (24, 27), none⟩, ⟨28, 31, 2, [], true, none, none⟩, ⟨31, 34, 2, List.flatMap (Enc.enc (α := Done)) x.dones, false, some (28, 31), none⟩] [(32, true), (33, false)] (by kernel_rfl) rfl rfl [(0, .agg [o1, o2, o3, o4, o5, o6, o7, o8].toArray), (1, .pointer (some ⟨b1, 0, none⟩)), (2, .pointer (some ⟨b2, 0, none⟩)), (4, .pointer (some ⟨b1, 0, none⟩)), (5, o1), (8, .pointer (some ⟨b1, 1, none⟩)), (9, o2), (12, .pointer (some ⟨b1, 2, none⟩)), (13, o3), (16, .pointer (some ⟨b1, 3, none⟩)), (17, o4), (20, .pointer (some ⟨b1, 4, none⟩)), (21, o5), (24, .pointer (some ⟨b1, 5, none⟩)), (25, o6), (28, .pointer (some ⟨b1, 6, none⟩)), (29, o7), (32, .pointer (some ⟨b1, 7, none⟩)), (33, o8)] (fun w' => Ext w w' ∧ w2.heap.size ≤ w'.heap.size ∧ Blk w' b1 ([o1, o2, o3, o4, o5, o6, o7, o8]) ∧ Blk w' b2 [.slice none 0 0, .slice none 0 0, .slice none 0 0, .slice none 0 0, .slice none 0 0, .slice none 0 0, .slice none 0 0, .slice none 0 0]) (fun w3 e3 => ?_) (fun w3 hphi_w3 => ?_)
 ·replace E := E.trans e3; replace h1 := h1.ext e3; replace h2 := h2.ext e3
  have z3 := e3.size
  refine J_st (R_fieldAddr0 fl33_0 rfl) rfl (J_st (R_load sc27 rfl (h1.one 0 rfl)) rfl (J_st (R_fieldAddr0 fl33_1 rfl) rfl (J_st (R_load sc27 rfl (h1.one 1 rfl)) rfl (J_st (R_fieldAddr0 fl33_2 rfl) rfl (J_st (R_load sc27 rfl (h1.one 2 rfl)) rfl (J_st (R_fieldAddr0 fl33_3 rfl) rfl (J_st (R_load sc28 rfl (h1.one 3 rfl)) rfl (J_st (R_fieldAddr0 fl33_4 rfl) rfl (J_st (R_load sc29 rfl (h1.one 4 rfl)) rfl (J_st (R_fieldAddr0 fl33_5 rfl) rfl (J_st (R_load sc30 rfl (h1.one 5 rfl)) rfl (J_st (R_fieldAddr0 fl33_6 rfl) rfl (J_st (R_load sc30 rfl (h1.one 6 rfl)) rfl (J_st (R_fieldAddr0 fl33_7 rfl) rfl (J_st (R_load sc31 rfl (h1.one 7 rfl)) rfl (J_cutEnd ⟨rfl, rfl, rfl, rfl, rfl, rfl, rfl, rfl, rfl, rfl, rfl, rfl, rfl, rfl, rfl, rfl, rfl, rfl, rfl, trivial⟩ ⟨E, (by omega), h1, h2⟩))))))))))))))))
 clear E h1 h2
 obtain ⟨E, z4, h1, h2⟩ := hphi_w3
 refine ⟨⟨⟨_, rfl, rfl, rfl, rfl, ?_⟩, ⟨_, rfl, rfl, rfl, rfl, ?_⟩, ⟨_, rfl, rfl, rfl, rfl, ?_⟩, ⟨_, rfl, rfl, rfl, rfl, ?_⟩, ⟨_, rfl, rfl, rfl, rfl, ?_⟩, ⟨_, rfl, rfl, rfl, rfl, ?_⟩, ⟨_, rfl, rfl, rfl, rfl, ?_⟩, ⟨_, rfl, rfl, rfl, rfl, ?_⟩, ⟨_, rfl, rfl, rfl, rfl, ?_⟩, ⟨_, rfl, rfl, rfl, rfl, ?_⟩, ⟨_, rfl, rfl, rfl, rfl, ?_⟩, ⟨_, rfl, rfl, rfl, rfl, ?_⟩, ⟨_, rfl, rfl, rfl, rfl, ?_⟩, ⟨_, rfl, rfl, rfl, rfl, ?_⟩, ⟨_, rfl, rfl, rfl, rfl, ?_⟩, ⟨_, rfl, rfl, rfl, rfl, ?_⟩, trivial⟩, fun w4 e4 => ?_⟩
 ·exact step_lit sl27
 ·exact step_app sl27 rfl (fun _ eX => RdS.src (RdS.ext (hd1.rd.ext E) eX)) (flat_one _) (by simp only [sum_flat, List.length_nil]; simp only [Enc.sz]; omega) (by decide)
 ·exact step_lit sl27
 ·exact step_app sl27 rfl (fun _ eX => RdS.src (RdS.ext (hd2.rd.ext E) eX)) (flat_one _) (by simp only [sum_flat, List.length_nil]; simp only [Enc.sz]; omega) (by decide)
 ·exact step_lit sl27
 ·exact step_app sl27 rfl (fun _ eX => RdS.src (RdS.ext (hd3.rd.ext E) eX)) (flat_one _) (by simp only [sum_flat, List.length_nil]; simp only [Enc.sz]; omega) (by decide)
 ·exact step_lit sl28
 ·exact step_app sl28 rfl (fun _ eX => RdS.src (RdS.ext (hd4.rd.ext E) eX)) (flat_one _) (by simp only [sum_flat, List.length_nil]; simp only [Enc.sz]; omega) (by decide)
 ·exact step_lit sl29
 ·exact step_app sl29 rfl (fun _ eX => RdS.src (RdS.ext (hd5.rd.ext E) eX)) (flat_one _) (by simp only [sum_flat, List.length_nil]; simp only [Enc.sz]; omega) (by decide)
 ·exact step_lit sl30
 ·exact step_app sl30 rfl (fun _ eX => RdS.src (RdS.ext (hd6.rd.ext E) eX)) (flat_one _) (by simp only [sum_flat, List.length_nil]; simp only [Enc.sz]; omega) (by decide)
 ·exact step_lit sl30
 ·exact step_app sl30 rfl (fun _ eX => RdS.src (RdS.ext (hd7.rd.ext E) eX)) (flat_one _) (by simp only [sum_flat, List.length_nil]; simp only [Enc.sz]; omega) (by decide)
 ·exact step_lit sl31
 ·exact step_app sl31 rfl (fun _ eX => RdS.src (RdS.ext (hd8.rd.ext E) eX)) (flat_one _) (by simp only [sum_flat, List.length_nil]; simp only [Enc.sz]; omega) (by decide)
 intro v1 f1 ho1 v2 f2 ho2 v3 f3 ho3 v4 f4 ho4 v5 f5 ho5 v6 f6 ho6 v7 f7 ho7 v8 f8 ho8 v9 f9 ho9 v10 f10 ho10 v11 f11 ho11 v12 f12 ho12 v13 f13 ho13 v14 f14 ho14 v15 f15 ho15 v16 f16 ho16 sp1
 obtain ⟨ho1, rfl⟩ := ho1
 obtain ⟨ho2, rfl⟩ := ho2
 obtain ⟨ho3, rfl⟩ := ho3
 obtain ⟨ho4, rfl⟩ := ho4
 obtain ⟨ho5, rfl⟩ := ho5
 obtain ⟨ho6, rfl⟩ := ho6
 obtain ⟨ho7, rfl⟩ := ho7
 obtain ⟨ho8, rfl⟩ := ho8
 obtain ⟨ho9, rfl⟩ := ho9
 obtain ⟨ho10, rfl⟩ := ho10
 obtain ⟨ho11, rfl⟩ := ho11
 obtain ⟨ho12, rfl⟩ := ho12
 obtain ⟨ho13, rfl⟩ := ho13
 obtain ⟨ho14, rfl⟩ := ho14
 obtain ⟨ho15, rfl⟩ := ho15
 obtain ⟨ho16, rfl⟩ := ho16
 replace sp1 : SepL [v2, v4, v6, v8, v10, v12, v14, v16] := DjL.toSep (vs := [v2, v4, v6, v8, v10, v12, v14, v16]) sp1
 have g_sp1 : w.heap.size ≤ w3.heap.size := E.size
 replace E := E.trans e4; replace h1 := h1.ext e4; replace h2 := h2.ext e4
 have z5 := e4.size
 clear ho1
 replace ho2 : Own w4 w3.heap.size w4.heap.size 5 v2 (List.flatMap (Enc.enc (α := Record)) x.queue) := ho2
 clear ho3
 replace ho4 : Own w4 w3.heap.size w4.heap.size 5 v4 (List.flatMap (Enc.enc (α := Record)) x.staged) := ho4
 clear ho5
 replace ho6 : Own w4 w3.heap.size w4.heap.size 5 v6 (List.flatMap (Enc.enc (α := Record)) x.inputs) := ho6
 clear ho7
 replace ho8 : Own w4 w3.heap.size w4.heap.size 4 v8 (List.flatMap (Enc.enc (α := Cell)) x.cells) := ho8
 clear ho9
 replace ho10 : Own w4 w3.heap.size w4.heap.size 1 v10 (List.flatMap (Enc.enc (α := Int)) x.sums) := ho10
 clear ho11
 replace ho12 : Own w4 w3.heap.size w4.heap.size 1 v12 (List.flatMap (Enc.enc (α := Bool)) x.black) := ho12
 clear ho13
 replace ho14 : Own w4 w3.heap.size w4.heap.size 1 v14 (List.flatMap (Enc.enc (α := Bool)) x.caps) := ho14
 clear ho15
 replace ho16 : Own w4 w3.heap.size w4.heap.size 2 v16 (List.flatMap (Enc.enc (α := Done)) x.dones) := ho16
 refine J_sub [(0, .agg [o1, o2, o3, o4, o5, o6, o7, o8].toArray), (1, .pointer (some ⟨b1, 0, none⟩)), (2, .pointer (some ⟨b2, 0, none⟩)), (4, .pointer (some ⟨b1, 0, none⟩)), (5, o1), (6, v2), (8, .pointer (some ⟨b1, 1, none⟩)), (9, o2), (10, v4), (12, .pointer (some ⟨b1, 2, none⟩)), (13, o3), (14, v6), (16, .pointer (some ⟨b1, 3, none⟩)), (17, o4), (18, v8), (20, .pointer (some ⟨b1, 4, none⟩)), (21, o5), (22, v10), (24, .pointer (some ⟨b1, 5, none⟩)), (25, o6), (26, v12), (28, .pointer (some ⟨b1, 6, none⟩)), (29, o7), (30, v14), (32, .pointer (some ⟨b1, 7, none⟩)), (33, o8), (34, v16)] ⟨rfl, rfl, rfl, rfl, rfl, rfl, rfl, rfl, rfl, rfl, rfl, rfl, rfl, rfl, rfl, rfl, rfl, rfl, rfl, rfl, rfl, rfl, rfl, rfl, rfl, rfl, rfl, trivial⟩ ?_
 have hbl1 : ∀ w, (Instr.build 33 ([(0, v2), (1, v4), (2, v6), (3, v8), (4, v10), (5, v12), (6, v14), (7, v16)]).toArray).run Try.prog w = .ok (.agg [v2, v4, v6, v8, v10, v12, v14, v16].toArray) w := by clear E; obtain ⟨_, _, _, rfl⟩ := Own.shape ho2; obtain ⟨_, _, _, rfl⟩ := Own.shape ho4; obtain ⟨_, _, _, rfl⟩ := Own.shape ho6; obtain ⟨_, _, _, rfl⟩ := Own.shape ho8; obtain ⟨_, _, _, rfl⟩ := Own.shape ho10; obtain ⟨_, _, _, rfl⟩ := Own.shape ho12; obtain ⟨_, _, _, rfl⟩ := Own.shape ho14; obtain ⟨_, _, _, rfl⟩ := Own.shape ho16; intro w; kernel_rfl
 refine J_st (R_buildC [v2, v4, v6, v8, v10, v12, v14, v16] rfl hbl1) rfl ?_
 refine J_storeS' (cs' := [v2, v4, v6, v8, v10, v12, v14, v16]) st33 rfl rfl rfl (all_cons ho2.one (all_cons ho4.one (all_cons ho6.one (all_cons ho8.one (all_cons ho10.one (all_cons ho12.one (all_cons ho14.one (all_cons ho16.one rfl)))))))) h2 (Nat.le_of_ble_eq_true rfl) rfl (fun w5 m1 h2' => ?_)
 replace h2 := h2'
 replace E := E.step m1 (fun g hg => by cases hg; omega); replace h1 := h1.mod m1 (fun g hg => by cases hg; omega); replace ho2 := ho2.mod m1 (fun g hg => by cases hg; omega); replace ho4 := ho4.mod m1 (fun g hg => by cases hg; omega); replace ho6 := ho6.mod m1 (fun g hg => by cases hg; omega); replace ho8 := ho8.mod m1 (fun g hg => by cases hg; omega); replace ho10 := ho10.mod m1 (fun g hg => by cases hg; omega); replace ho12 := ho12.mod m1 (fun g hg => by cases hg; omega); replace ho14 := ho14.mod m1 (fun g hg => by cases hg; omega); replace ho16 := ho16.mod m1 (fun g hg => by cases hg; omega)
 have z6 := m1.size
 refine J_done ?_
 refine S_ret (E_doneC rfl rfl (run_loadVar_st st33 h2.at rfl) E ?_)
 exact ⟨_, rfl, Worker.mkO x sp1 (Own.widen ho2 (by omega) (by omega)) (Own.widen ho4 (by omega) (by omega)) (Own.widen ho6 (by omega) (by omega)) (Own.widen ho8 (by omega) (by omega)) (Own.widen ho10 (by omega) (by omega)) (Own.widen ho12 (by omega) (by omega)) (Own.widen ho14 (by omega) (by omega)) (Own.widen ho16 (by omega) (by omega))⟩

set_option maxHeartbeats 4000000 in
set_option maxRecDepth 20000 in
theorem s_WorkerNew (vxs : Value) (xs : List Record) (w : World) (hxs : RdS w vxs xs) (hb : xs.length ≤ 1048576) : Ct Try.prog 8 [vxs] w (fun v w' => ∃ cs, v = .agg cs.toArray ∧ Own1.O w' w.heap.size w'.heap.size cs (workerNew xs)) := by
 refine ct_of Try.func8 rfl Try.ntmps8 rfl ?_
 refine S_sub [(0, vxs)] ⟨rfl, trivial⟩ ?_
 have E : Ext w w := Ext.refl w
 refine S_seq ?_
 refine S_reg [false] rfl rfl ?_
 refine J_alloc st33 rfl (fun b1 w1 e1 s1 h1 => ?_)
 have g_b1 : w.heap.size ≤ b1 := by have := E.size; omega
 have y_b1 := h1.lt
 replace E := E.trans e1
 have z1 := e1.size
 refine J_done ?_
 refine S_seq ?_
 refine S_reg [true] rfl rfl ?_
 refine J_st (R_assign rfl) rfl (J_done ?_)
 refine S_seq ?_
 refine S_regP mixed [(1, true), (3, true), (5, true), (7, true)] [⟨0, 4, 5, [], true, none, none⟩, ⟨2, 6, 5, List.flatMap (Enc.enc (α := Record)) xs, false, some (0, 4), none⟩, ⟨4, 8, 1, [.int .i64 0, .int .i64 0, .int .i64 0, .int .i64 0], false, none, none⟩, ⟨6, 10, 1, [.bool false, .bool false, .bool false, .bool false], false, none, none⟩, ⟨8, 12, 1, [.bool false, .bool false, .bool false, .bool false], false, none, none⟩] [(9, true), (10, false)] (by kernel_rfl) rfl rfl [(0, vxs), (2, .pointer (some ⟨b1, 0, none⟩)), (3, .int .i64 4), (5, vxs), (7, .int .i64 4), (9, .int .i64 4), (11, .int .i64 4)] (fun w' => Ext w w' ∧ w1.heap.size ≤ w'.heap.size ∧ Blk w' b1 [.slice none 0 0, .slice none 0 0, .slice none 0 0, .slice none 0 0, .slice none 0 0, .slice none 0 0, .slice none 0 0, .slice none 0 0]) (fun w2 e2 => ?_) (fun w2 hphi_w2 => ?_)
 ·replace E := E.trans e2; replace h1 := h1.ext e2
  have z2 := e2.size
  refine J_st (R_move rfl) rfl (J_st (R_move rfl) rfl (J_st (R_move rfl) rfl (J_st (R_move rfl) rfl (J_cutEnd ⟨rfl, rfl, rfl, rfl, rfl, rfl, rfl, trivial⟩ ⟨E, (by omega), h1⟩))))
 clear E h1
 obtain ⟨E, z3, h1⟩ := hphi_w2
 refine ⟨⟨⟨_, rfl, rfl, rfl, rfl, ?_⟩, ⟨_, rfl, rfl, rfl, rfl, ?_⟩, ⟨_, rfl, rfl, rfl, rfl, ?_⟩, ⟨_, rfl, rfl, rfl, rfl, ?_⟩, ⟨_, rfl, rfl, rfl, rfl, ?_⟩, trivial⟩, fun w3 e3 => ?_⟩
 ·exact step_lit sl27
 ·exact step_app sl27 rfl (fun _ eX => RdS.src (RdS.ext (hxs.ext E) eX)) (flat_one _) (by simp only [sum_flat, List.length_nil]; simp only [Enc.sz]; omega) (by decide)
 ·exact step_make (m := 4) sl29 rfl rfl (by decide) (by decide) rfl rfl
 ·exact step_make (m := 4) sl30 rfl rfl (by decide) (by decide) rfl rfl
 ·exact step_make (m := 4) sl30 rfl rfl (by decide) (by decide) rfl rfl
 intro v1 f1 ho1 v2 f2 ho2 v3 f3 ho3 v4 f4 ho4 v5 f5 ho5 sp1
 obtain ⟨ho1, rfl⟩ := ho1
 obtain ⟨ho2, rfl⟩ := ho2
 obtain ⟨ho3, rfl⟩ := ho3
 obtain ⟨ho4, rfl⟩ := ho4
 obtain ⟨ho5, rfl⟩ := ho5
 replace sp1 : SepL [v2, v3, v4, v5] := DjL.toSep (vs := [v2, v3, v4, v5]) sp1
 have g_sp1 : w.heap.size ≤ w2.heap.size := E.size
 replace E := E.trans e3; replace h1 := h1.ext e3
 have z4 := e3.size
 clear ho1
 replace ho2 : Own w3 w2.heap.size w3.heap.size 5 v2 (List.flatMap (Enc.enc (α := Record)) xs) := ho2
 replace ho3 : Own w3 w2.heap.size w3.heap.size 1 v3 (List.flatMap (Enc.enc (α := Int)) [0, 0, 0, 0]) := ho3
 replace ho4 : Own w3 w2.heap.size w3.heap.size 1 v4 (List.flatMap (Enc.enc (α := Bool)) [false, false, false, false]) := ho4
 replace ho5 : Own w3 w2.heap.size w3.heap.size 1 v5 (List.flatMap (Enc.enc (α := Bool)) [false, false, false, false]) := ho5
 refine J_sub [(0, vxs), (2, .pointer (some ⟨b1, 0, none⟩)), (3, .int .i64 4), (5, vxs), (6, v2), (7, .int .i64 4), (8, v3), (9, .int .i64 4), (10, v4), (11, .int .i64 4), (12, v5)] ⟨rfl, rfl, rfl, rfl, rfl, rfl, rfl, rfl, rfl, rfl, rfl, trivial⟩ ?_
 have hbl1 : ∀ w, (Instr.build 33 ([(2, v2), (4, v3), (5, v4), (6, v5)]).toArray).run Try.prog w = .ok (.agg [.slice none 0 0, .slice none 0 0, v2, .slice none 0 0, v3, v4, v5, .slice none 0 0].toArray) w := by clear E; obtain ⟨_, _, _, rfl⟩ := Own.shape ho2; obtain ⟨_, _, _, rfl⟩ := Own.shape ho3; obtain ⟨_, _, _, rfl⟩ := Own.shape ho4; obtain ⟨_, _, _, rfl⟩ := Own.shape ho5; intro w; kernel_rfl
 refine J_st (R_buildC [.slice none 0 0, .slice none 0 0, v2, .slice none 0 0, v3, v4, v5, .slice none 0 0] rfl hbl1) rfl ?_
 refine J_storeS' (cs' := [.slice none 0 0, .slice none 0 0, v2, .slice none 0 0, v3, v4, v5, .slice none 0 0]) st33 rfl rfl rfl (all_cons rfl (all_cons rfl (all_cons ho2.one (all_cons rfl (all_cons ho3.one (all_cons ho4.one (all_cons ho5.one (all_cons rfl rfl)))))))) h1 (Nat.le_of_ble_eq_true rfl) rfl (fun w4 m1 h1' => ?_)
 replace h1 := h1'
 replace E := E.step m1 (fun g hg => by cases hg; omega); replace ho2 := ho2.mod m1 (fun g hg => by cases hg; omega); replace ho3 := ho3.mod m1 (fun g hg => by cases hg; omega); replace ho4 := ho4.mod m1 (fun g hg => by cases hg; omega); replace ho5 := ho5.mod m1 (fun g hg => by cases hg; omega)
 have z5 := m1.size
 refine J_done ?_
 refine S_ret (E_doneC rfl rfl (run_loadVar_st st33 h1.at rfl) E ?_)
 exact ⟨_, rfl, Worker.mkO (⟨[], [], xs, [], [0, 0, 0, 0], [false, false, false, false], [false, false, false, false], []⟩ : Worker) ⟨⟨(Sep.nilL _), ⟨(Sep.nilL _), ⟨(Sep.nilL _), ⟨(Sep.nilL _), ⟨(Sep.nilL _), ⟨(Sep.nilL _), ⟨(Sep.nilL _), trivial⟩⟩⟩⟩⟩⟩⟩, ⟨⟨(Sep.nilL _), ⟨(Sep.nilL _), ⟨(Sep.nilL _), ⟨(Sep.nilL _), ⟨(Sep.nilL _), ⟨(Sep.nilL _), trivial⟩⟩⟩⟩⟩⟩, ⟨⟨(Sep.nilR _), ⟨sp1.1.1, ⟨sp1.1.2.1, ⟨sp1.1.2.2.1, ⟨(Sep.nilR _), trivial⟩⟩⟩⟩⟩, ⟨⟨(Sep.nilL _), ⟨(Sep.nilL _), ⟨(Sep.nilL _), ⟨(Sep.nilL _), trivial⟩⟩⟩⟩, ⟨⟨sp1.2.1.1, ⟨sp1.2.1.2.1, ⟨(Sep.nilR _), trivial⟩⟩⟩, ⟨⟨sp1.2.2.1.1, ⟨(Sep.nilR _), trivial⟩⟩, ⟨⟨(Sep.nilR _), trivial⟩, ⟨trivial, trivial⟩⟩⟩⟩⟩⟩⟩⟩ (Own.nil _ _ _ _) (Own.nil _ _ _ _) (Own.widen ho2 (by omega) (by omega)) (Own.nil _ _ _ _) (Own.widen ho3 (by omega) (by omega)) (Own.widen ho4 (by omega) (by omega)) (Own.widen ho5 (by omega) (by omega)) (Own.nil _ _ _ _)⟩

set_option maxRecDepth 20000 in
theorem s_Kept (cx : List Value) (x : Worker) (r : Record) (w : World) (hx : Dat.R w 0 w.heap.size cx x) (hb : cntWorker x ≤ 1048576) : Ct Try.prog 9 [.agg cx.toArray, .agg (Enc.enc r).toArray] w (fun v w' => ∃ cs, v = .agg cs.toArray ∧ Own1.O w' w.heap.size w'.heap.size cs (keptW x r)) := by
 have hb2 := hb
 unfold cntWorker at hb2
 refine ct_of Try.func9 rfl Try.ntmps9 rfl ?_
 obtain ⟨o1, o2, o3, o4, o5, o6, o7, o8, rfl, hd1, hd2, hd3, hd4, hd5, hd6, hd7, hd8⟩ := Worker.op hx
 refine S_sub [(0, .agg [o1, o2, o3, o4, o5, o6, o7, o8].toArray), (1, .agg (Enc.enc r).toArray)] ⟨rfl, rfl, trivial⟩ ?_
 have E : Ext w w := Ext.refl w
 refine S_seq ?_
 refine S_reg [false, false, false] rfl rfl ?_
 refine J_box rfl rfl (fun b1 w1 e1 s1 h1 => ?_)
 have g_b1 : w.heap.size ≤ b1 := by have := E.size; omega
 have y_b1 := h1.lt
 replace E := E.trans e1
 have z1 := e1.size
 refine J_box rfl rfl (fun b2 w2 e2 s2 h2 => ?_)
 have g_b2 : w.heap.size ≤ b2 := by have := E.size; omega
 have y_b2 := h2.lt
 replace E := E.trans e2; replace h1 := h1.ext e2
 have z2 := e2.size
 refine J_alloc st33 rfl (fun b3 w3 e3 s3 h3 => ?_)
 have g_b3 : w.heap.size ≤ b3 := by have := E.size; omega
 have y_b3 := h3.lt
 replace E := E.trans e3; replace h1 := h1.ext e3; replace h2 := h2.ext e3
 have z3 := e3.size
 refine J_done ?_
 refine S_seq ?_
 refine S_reg [true, false, false] rfl rfl ?_
 refine J_st (R_loadS st33 rfl h1.at rfl) rfl ?_
 refine J_call Try.call17 rfl (s_l12Copy [o1, o2, o3, o4, o5, o6, o7, o8] x _ (Worker.mkR x (RdD.any (hd1.ext E)) (RdD.any (hd2.ext E)) (RdD.any (hd3.ext E)) (RdD.any (hd4.ext E)) (RdD.any (hd5.ext E)) (RdD.any (hd6.ext E)) (RdD.any (hd7.ext E)) (RdD.any (hd8.ext E))) (by first | omega | (simp only [mkL_length]; omega) | (rw [mkL_length]; done) | (simp only [mkL_length]; done))) rfl (fun _ w4 e4 ho1 => ?_)
 obtain ⟨_, rfl, ho1⟩ := ho1
 have g_ho1 : w.heap.size ≤ w3.heap.size := E.size
 replace E := E.trans e4; replace h1 := h1.ext e4; replace h2 := h2.ext e4; replace h3 := h3.ext e4
 have z4 := e4.size
 obtain ⟨o9, o10, o11, o12, o13, o14, o15, o16, rfl, sp1, hw1, hw2, hw3, hw4, hw5, hw6, hw7, hw8⟩ := Worker.opO ho1
 refine J_storeS' (cs' := [o9, o10, o11, o12, o13, o14, o15, o16]) st33 rfl rfl rfl (all_cons hw1.one (all_cons hw2.one (all_cons hw3.one (all_cons hw4.one (all_cons hw5.one (all_cons hw6.one (all_cons hw7.one (all_cons hw8.one rfl)))))))) h1 (Nat.le_of_ble_eq_true rfl) rfl (fun w5 m1 h1' => ?_)
 replace h1 := h1'
 replace E := E.step m1 (fun g hg => by cases hg; omega); replace h2 := h2.mod m1 (fun g hg => by cases hg; omega); replace h3 := h3.mod m1 (fun g hg => by cases hg; omega); replace hw1 := hw1.mod m1 (fun g hg => by cases hg; omega); replace hw2 := hw2.mod m1 (fun g hg => by cases hg; omega); replace hw3 := hw3.mod m1 (fun g hg => by cases hg; omega); replace hw4 := hw4.mod m1 (fun g hg => by cases hg; omega); replace hw5 := hw5.mod m1 (fun g hg => by cases hg; omega); replace hw6 := hw6.mod m1 (fun g hg => by cases hg; omega); replace hw7 := hw7.mod m1 (fun g hg => by cases hg; omega); replace hw8 := hw8.mod m1 (fun g hg => by cases hg; omega)
 have z5 := m1.size
 refine J_done ?_
 refine S_seq ?_
 refine S_reg [true, true, true, false, false, true, false] rfl rfl ?_
 refine J_st (R_fieldAddr0 fl33_0 rfl) rfl (J_st (R_load sc27 rfl (h1.one 0 rfl)) rfl (J_st (R_loadS st43 rfl h2.at rfl) rfl ?_))
 refine J_buildSlice (vs := [.agg (Enc.enc r).toArray]) (css := [[.int .i64 r.op, .int .i64 r.stamp.epoch, .int .i64 r.stamp.turn, .int .i64 r.key, .int .i64 r.val]]) sl27 rfl rfl ⟨⟨rfl, rfl⟩, trivial⟩ rfl rfl (fun b4 w6 e5 s4 h4 => ?_)
 replace h4 : Blk w6 b4 [.int .i64 r.op, .int .i64 r.stamp.epoch, .int .i64 r.stamp.turn, .int .i64 r.key, .int .i64 r.val] := h4
 have g_b4 : w.heap.size ≤ b4 := by have := E.size; omega
 have y_b4 := h4.lt
 replace E := E.trans e5; replace h1 := h1.ext e5; replace h2 := h2.ext e5; replace h3 := h3.ext e5; replace hw1 := hw1.ext e5; replace hw2 := hw2.ext e5; replace hw3 := hw3.ext e5; replace hw4 := hw4.ext e5; replace hw5 := hw5.ext e5; replace hw6 := hw6.ext e5; replace hw7 := hw7.ext e5; replace hw8 := hw8.ext e5
 have z6 := e5.size
 refine J_appendB sl27 rfl rfl hw1 (Src.ofBlk h4 rfl) rfl (by simp only [sum_flat]; simp [Enc.sz]; omega) (by decide) (by omega) (by omega) rfl rfl (fun v1 w7 m2 ho2 hb1 => ?_)
 have hn1 : ∀ g, Value.ownBlock v1 = some g → g < w4.heap.size ∨ w6.heap.size ≤ g := fun g hg => (hb1 g hg).elim (fun h => .inl (by have := Own.blk hw1 g h; omega)) (fun h => .inr h)
 have sq1 := sp1
 replace sp1 := SepL.set hb1 0 rfl sp1 ⟨(Own.lt hw1), (Own.lt hw2), (Own.lt hw3), (Own.lt hw4), (Own.lt hw5), (Own.lt hw6), (Own.lt hw7), (Own.lt hw8), trivial⟩
 replace sp1 : SepL [v1, o10, o11, o12, o13, o14, o15, o16] := sp1
 replace E := E.step m2 (fun g hg => by have := Own.blk hw1 g hg; omega); replace h1 := h1.mod m2 (fun g hg => by have := Own.blk hw1 g hg; omega); replace h2 := h2.mod m2 (fun g hg => by have := Own.blk hw1 g hg; omega); replace h3 := h3.mod m2 (fun g hg => by have := Own.blk hw1 g hg; omega); replace hw2 := Own.modS hw2 m2 sq1.1.1; replace hw3 := Own.modS hw3 m2 sq1.1.2.1; replace hw4 := Own.modS hw4 m2 sq1.1.2.2.1; replace hw5 := Own.modS hw5 m2 sq1.1.2.2.2.1; replace hw6 := Own.modS hw6 m2 sq1.1.2.2.2.2.1; replace hw7 := Own.modS hw7 m2 sq1.1.2.2.2.2.2.1; replace hw8 := Own.modS hw8 m2 sq1.1.2.2.2.2.2.2.1
 have z7 := m2.size
 replace ho2 : Own w7 w3.heap.size w7.heap.size 5 v1 (List.flatMap (Enc.enc (α := Record)) (x.queue ++ [r])) := by rw [List.flatMap_append]; exact ho2
 refine J_st (R_fieldAddr0 fl33_0 rfl) rfl ?_
 refine J_store' (cs' := [v1, o10, o11, o12, o13, o14, o15, o16]) sc27 rfl rfl ho2.one h1 (Nat.le_of_ble_eq_true rfl) rfl (fun w8 m3 h1' => ?_)
 replace h1 := h1'
 replace E := E.step m3 (fun g hg => by cases hg; omega); replace h2 := h2.mod m3 (fun g hg => by cases hg; omega); replace h3 := h3.mod m3 (fun g hg => by cases hg; omega); replace hw2 := hw2.mod m3 (fun g hg => by cases hg; omega); replace hw3 := hw3.mod m3 (fun g hg => by cases hg; omega); replace hw4 := hw4.mod m3 (fun g hg => by cases hg; omega); replace hw5 := hw5.mod m3 (fun g hg => by cases hg; omega); replace hw6 := hw6.mod m3 (fun g hg => by cases hg; omega); replace hw7 := hw7.mod m3 (fun g hg => by cases hg; omega); replace hw8 := hw8.mod m3 (fun g hg => by cases hg; omega); replace ho2 := Own.modN ho2 m3 (fun g hg hv => by have hN := hn1 g hv; have hB := Own.blk ho2 g hv; cases hg; omega)
 have z8 := m3.size
 refine J_done ?_
 refine S_seq ?_
 refine S_reg [true, false] rfl rfl ?_
 refine J_st (R_loadS st33 rfl h1.at rfl) rfl ?_
 refine J_storeS' (cs' := [v1, o10, o11, o12, o13, o14, o15, o16]) st33 rfl rfl rfl (all_cons ho2.one (all_cons hw2.one (all_cons hw3.one (all_cons hw4.one (all_cons hw5.one (all_cons hw6.one (all_cons hw7.one (all_cons hw8.one rfl)))))))) h3 (Nat.le_of_ble_eq_true rfl) rfl (fun w9 m4 h3' => ?_)
 replace h3 := h3'
 replace E := E.step m4 (fun g hg => by cases hg; omega); replace h1 := h1.mod m4 (fun g hg => by cases hg; omega); replace h2 := h2.mod m4 (fun g hg => by cases hg; omega); replace hw2 := hw2.mod m4 (fun g hg => by cases hg; omega); replace hw3 := hw3.mod m4 (fun g hg => by cases hg; omega); replace hw4 := hw4.mod m4 (fun g hg => by cases hg; omega); replace hw5 := hw5.mod m4 (fun g hg => by cases hg; omega); replace hw6 := hw6.mod m4 (fun g hg => by cases hg; omega); replace hw7 := hw7.mod m4 (fun g hg => by cases hg; omega); replace hw8 := hw8.mod m4 (fun g hg => by cases hg; omega); replace ho2 := Own.modN ho2 m4 (fun g hg hv => by have hN := hn1 g hv; have hB := Own.blk ho2 g hv; cases hg; omega)
 have z9 := m4.size
 refine J_done ?_
 refine S_ret (E_doneC rfl rfl (run_loadVar_st st33 h3.at rfl) E ?_)
 exact ⟨_, rfl, Worker.mkO (⟨x.queue ++ [r], x.staged, x.inputs, x.cells, x.sums, x.black, x.caps, x.dones⟩ : Worker) sp1 (Own.widen ho2 (by omega) (by omega)) (Own.widen hw2 (by omega) (by omega)) (Own.widen hw3 (by omega) (by omega)) (Own.widen hw4 (by omega) (by omega)) (Own.widen hw5 (by omega) (by omega)) (Own.widen hw6 (by omega) (by omega)) (Own.widen hw7 (by omega) (by omega)) (Own.widen hw8 (by omega) (by omega))⟩

set_option maxRecDepth 20000 in
theorem s_Received (cx : List Value) (x : Worker) (r : Record) (w : World) (hx : Dat.R w 0 w.heap.size cx x) (hb : cntWorker x ≤ 1048576) : Ct Try.prog 45 [.agg cx.toArray, .agg (Enc.enc r).toArray] w (fun v w' => ∃ cs, v = .agg cs.toArray ∧ Own1.O w' w.heap.size w'.heap.size cs (recvW x r)) := by
 refine ct_of Try.func45 rfl Try.ntmps45 rfl ?_
 obtain ⟨o1, o2, o3, o4, o5, o6, o7, o8, rfl, hd1, hd2, hd3, hd4, hd5, hd6, hd7, hd8⟩ := Worker.op hx
 refine S_sub [(0, .agg [o1, o2, o3, o4, o5, o6, o7, o8].toArray), (1, .agg (Enc.enc r).toArray)] ⟨rfl, rfl, trivial⟩ ?_
 have E : Ext w w := Ext.refl w
 refine S_seq ?_
 refine S_reg [false, false, false] rfl rfl ?_
 refine J_box rfl rfl (fun b1 w1 e1 s1 h1 => ?_)
 have g_b1 : w.heap.size ≤ b1 := by have := E.size; omega
 have y_b1 := h1.lt
 replace E := E.trans e1
 have z1 := e1.size
 refine J_box rfl rfl (fun b2 w2 e2 s2 h2 => ?_)
 have g_b2 : w.heap.size ≤ b2 := by have := E.size; omega
 have y_b2 := h2.lt
 replace E := E.trans e2; replace h1 := h1.ext e2
 have z2 := e2.size
 refine J_alloc st33 rfl (fun b3 w3 e3 s3 h3 => ?_)
 have g_b3 : w.heap.size ≤ b3 := by have := E.size; omega
 have y_b3 := h3.lt
 replace E := E.trans e3; replace h1 := h1.ext e3; replace h2 := h2.ext e3
 have z3 := e3.size
 refine J_done ?_
 refine S_seq ?_
 refine S_reg [true, true, false, false] rfl rfl ?_
 refine J_st (R_loadS st33 rfl h1.at rfl) rfl (J_st (R_loadS st43 rfl h2.at rfl) rfl ?_)
 refine J_call Try.call9 rfl (s_Kept [o1, o2, o3, o4, o5, o6, o7, o8] x r _ (Worker.mkR x (RdD.any (hd1.ext E)) (RdD.any (hd2.ext E)) (RdD.any (hd3.ext E)) (RdD.any (hd4.ext E)) (RdD.any (hd5.ext E)) (RdD.any (hd6.ext E)) (RdD.any (hd7.ext E)) (RdD.any (hd8.ext E))) (by first | omega | (simp only [mkL_length]; omega) | (rw [mkL_length]; done) | (simp only [mkL_length]; done))) rfl (fun _ w4 e4 ho1 => ?_)
 obtain ⟨_, rfl, ho1⟩ := ho1
 have g_ho1 : w.heap.size ≤ w3.heap.size := E.size
 replace E := E.trans e4; replace h1 := h1.ext e4; replace h2 := h2.ext e4; replace h3 := h3.ext e4
 have z4 := e4.size
 obtain ⟨o9, o10, o11, o12, o13, o14, o15, o16, rfl, sp1, hw1, hw2, hw3, hw4, hw5, hw6, hw7, hw8⟩ := Worker.opO ho1
 refine J_storeS' (cs' := [o9, o10, o11, o12, o13, o14, o15, o16]) st33 rfl rfl rfl (all_cons hw1.one (all_cons hw2.one (all_cons hw3.one (all_cons hw4.one (all_cons hw5.one (all_cons hw6.one (all_cons hw7.one (all_cons hw8.one rfl)))))))) h1 (Nat.le_of_ble_eq_true rfl) rfl (fun w5 m1 h1' => ?_)
 replace h1 := h1'
 replace E := E.step m1 (fun g hg => by cases hg; omega); replace h2 := h2.mod m1 (fun g hg => by cases hg; omega); replace h3 := h3.mod m1 (fun g hg => by cases hg; omega); replace hw1 := hw1.mod m1 (fun g hg => by cases hg; omega); replace hw2 := hw2.mod m1 (fun g hg => by cases hg; omega); replace hw3 := hw3.mod m1 (fun g hg => by cases hg; omega); replace hw4 := hw4.mod m1 (fun g hg => by cases hg; omega); replace hw5 := hw5.mod m1 (fun g hg => by cases hg; omega); replace hw6 := hw6.mod m1 (fun g hg => by cases hg; omega); replace hw7 := hw7.mod m1 (fun g hg => by cases hg; omega); replace hw8 := hw8.mod m1 (fun g hg => by cases hg; omega)
 have z5 := m1.size
 refine J_done ?_
 refine S_seq ?_
 refine S_reg [true, true, true, true] rfl rfl ?_
 refine J_st (R_fieldAddr0 fl43_1 rfl) rfl (J_st (R_fieldAddr fl41_0 rfl) rfl (J_st (R_load sc3 rfl (h2.one 1 rfl)) rfl (J_st (R_assign rfl) rfl (J_done ?_))))
 refine S_seq ?_
 refine S_seq ?_
 refine S_reg [true, true, true, true, true, false, true, true, true, true, true, true, true] rfl rfl ?_
 refine J_st (R_move rfl) rfl (J_st (R_fieldAddr0 fl33_4 rfl) rfl (J_st (R_load sc29 rfl (h1.one 4 rfl)) rfl (J_st (R_len Try.underlying29 rfl (Own.len (by decide) hw5)) rfl (J_st (R_sub rfl rfl rfl) rfl ?_))))
 refine J_call Try.call58 rfl (s_l01In r.stamp.epoch 0 (IntKind.i64.wrap (((((keptW x r).sums).length : Nat) : Int) - 1)) _ ) rfl (fun _ w6 e5 hv => ?_)
 subst hv
 replace E := E.trans e5; replace h1 := h1.ext e5; replace h2 := h2.ext e5; replace h3 := h3.ext e5; replace hw1 := hw1.ext e5; replace hw2 := hw2.ext e5; replace hw3 := hw3.ext e5; replace hw4 := hw4.ext e5; replace hw5 := hw5.ext e5; replace hw6 := hw6.ext e5; replace hw7 := hw7.ext e5; replace hw8 := hw8.ext e5
 have z6 := e5.size
 refine J_st (R_move rfl) rfl ?_
 refine J_cut 6 [(0, .agg [o1, o2, o3, o4, o5, o6, o7, o8].toArray), (1, .agg (Enc.enc r).toArray), (2, .pointer (some ⟨b1, 0, none⟩)), (3, .pointer (some ⟨b2, 0, none⟩)), (4, .pointer (some ⟨b3, 0, none⟩)), (5, .int .i64 r.stamp.epoch), (6, .agg [o1, o2, o3, o4, o5, o6, o7, o8].toArray), (7, .agg (Enc.enc r).toArray), (8, .agg [o9, o10, o11, o12, o13, o14, o15, o16].toArray), (9, .pointer (some ⟨b2, 1, none⟩)), (10, .pointer (some ⟨b2, 1 + 0, none⟩)), (11, .int .i64 r.stamp.epoch), (24, .bool ((win r.stamp.epoch 0 (IntKind.i64.wrap (((((keptW x r).sums).length : Nat) : Int) - 1))) && (decide (r.stamp.epoch < ((((keptW x r).black).length : Nat) : Int)))))] (fun w' => w6 = w') ?_ ?_
 ·refine J_if (gd := 18) rfl rfl (fun hg1 => ?_) (fun hg1 => ?_)
  ·refine J_gd rfl rfl (R_move rfl) rfl (J_gd rfl rfl (R_fieldAddr0 fl33_5 rfl) rfl (J_gd rfl rfl (R_load sc30 rfl (h1.one 5 rfl)) rfl (J_gd rfl rfl (R_len Try.underlying30 rfl (Own.len (by decide) hw6)) rfl (J_gd rfl rfl (R_lss rfl rfl) rfl (J_st (R_pickT rfl rfl) rfl (J_cutEnd ⟨rfl, rfl, rfl, rfl, rfl, rfl, rfl, rfl, rfl, rfl, rfl, rfl, congrArg (fun b => some (Value.bool b)) (show (decide (r.stamp.epoch < ((((keptW x r).black).length : Nat) : Int))) = ((win r.stamp.epoch 0 (IntKind.i64.wrap (((((keptW x r).sums).length : Nat) : Int) - 1))) && (decide (r.stamp.epoch < ((((keptW x r).black).length : Nat) : Int)))) by first | (rw [hg1] <;> rfl) | (simp [hg1]; done) | (simp only [nat_nlt] <;> simp)), trivial⟩ rfl))))))
  ·refine J_gdno rfl rfl rfl rfl (J_gdno rfl rfl rfl rfl (J_gdno rfl rfl rfl rfl (J_gdno rfl rfl rfl rfl (J_gdno rfl rfl rfl rfl (J_st (R_pickF rfl rfl) rfl (J_cutEnd ⟨rfl, rfl, rfl, rfl, rfl, rfl, rfl, rfl, rfl, rfl, rfl, rfl, congrArg (fun b => some (Value.bool b)) (show false = ((win r.stamp.epoch 0 (IntKind.i64.wrap (((((keptW x r).sums).length : Nat) : Int) - 1))) && (decide (r.stamp.epoch < ((((keptW x r).black).length : Nat) : Int)))) by first | (rw [hg1] <;> rfl) | (simp [hg1]; done) | (simp only [nat_nlt] <;> simp)), trivial⟩ rfl))))))
 rintro _ rfl
 refine J_done ?_
 refine S_cond rfl (fun hc1 => ?_) (fun hc1 => ?_)
 ·have hse := recv_s hd5.1.1 hc1
  have hsq := hse
  unfold recvOk at hsq
  have hk1 : (keptW x r).sums.length = x.sums.length := rfl
  have hk2 : (keptW x r).black.length = x.black.length := rfl
  refine S_seq ?_
  refine S_regD mixed [(0, true), (1, true), (2, true), (3, true), (4, true), (5, true), (6, true), (7, true), (8, true), (9, true), (10, false)] (by decide +kernel) rfl (fun w8 e6 => ?_)
  replace E := E.trans e6; replace h1 := h1.ext e6; replace h2 := h2.ext e6; replace h3 := h3.ext e6; replace hw1 := hw1.ext e6; replace hw2 := hw2.ext e6; replace hw3 := hw3.ext e6; replace hw4 := hw4.ext e6; replace hw5 := hw5.ext e6; replace hw6 := hw6.ext e6; replace hw7 := hw7.ext e6; replace hw8 := hw8.ext e6
  have z7 := e6.size
  refine J_st (R_fieldAddr0 fl33_4 rfl) rfl (J_st (R_load sc29 rfl (h1.one 4 rfl)) rfl (J_st (R_move rfl) rfl (J_st (R_fieldAddr0 fl33_4 rfl) rfl (J_st (R_load sc29 rfl (h1.one 4 rfl)) rfl (J_st (R_move rfl) rfl ?_)))))
  have hi1 : (Int.toNat r.stamp.epoch) < ((keptW x r).sums).length := (by first | assumption | omega | (simp only [List.length_set]; first | assumption | omega) | (simp only [List.getElem_set_self, List.length_set]; first | assumption | omega) | (simp only [setW, setLk, List.length_set]; first | assumption | omega) | (simp; done))
  refine J_st (R_indexZ (i := (Int.toNat r.stamp.epoch)) sl29 rfl rfl (Own.rd (by decide) hw5) (by omega) hi1) rfl (J_st (R_load sc3 rfl (((Own.rd (by decide) hw5).get hi1).one 0 rfl)) rfl (J_st (R_sub rfl rfl rfl) rfl ?_))
  have hi2 : (Int.toNat r.stamp.epoch) < ((keptW x r).sums).length := (by first | assumption | omega | (simp only [List.length_set]; first | assumption | omega) | (simp only [List.getElem_set_self, List.length_set]; first | assumption | omega) | (simp only [setW, setLk, List.length_set]; first | assumption | omega) | (simp; done))
  refine J_st (R_indexZ (i := (Int.toNat r.stamp.epoch)) sl29 rfl rfl (Own.rd (by decide) hw5) (by omega) hi2) rfl ?_
  refine J_storeSet (α := Int) (i := (Int.toNat r.stamp.epoch)) (f := 0) (IntKind.i64.wrap ((((keptW x r).sums)[(Int.toNat r.stamp.epoch)]'hi1) - 1)) sc3 rfl rfl rfl rfl hw5 hi2 (by decide) rfl (fun w9 m2 hw5' => ?_)
  have hq := Own.blk hw5
  replace hw5 := hw5'
  replace E := E.step m2 (fun g hg => by have := hq g hg; omega); replace h1 := h1.mod m2 (fun g hg => by have := hq g hg; omega); replace h2 := h2.mod m2 (fun g hg => by have := hq g hg; omega); replace h3 := h3.mod m2 (fun g hg => by have := hq g hg; omega); replace hw1 := Own.modS hw1 m2 (sp1.1.2.2.2.1).symm; replace hw2 := Own.modS hw2 m2 (sp1.2.1.2.2.1).symm; replace hw3 := Own.modS hw3 m2 (sp1.2.2.1.2.1).symm; replace hw4 := Own.modS hw4 m2 (sp1.2.2.2.1.1).symm; replace hw6 := Own.modS hw6 m2 sp1.2.2.2.2.1.1; replace hw7 := Own.modS hw7 m2 sp1.2.2.2.2.1.2.1; replace hw8 := Own.modS hw8 m2 sp1.2.2.2.2.1.2.2.1
  have z8 := m2.size
  clear hq
  refine J_done ?_
  refine S_reg [true, true, true, true, false] rfl rfl ?_
  refine J_st (R_fieldAddr0 fl33_5 rfl) rfl (J_st (R_load sc30 rfl (h1.one 5 rfl)) rfl (J_st (R_move rfl) rfl ?_))
  have hi3 : (Int.toNat r.stamp.epoch) < ((keptW x r).black).length := (by first | assumption | omega | (simp only [List.length_set]; first | assumption | omega) | (simp only [List.getElem_set_self, List.length_set]; first | assumption | omega) | (simp only [setW, setLk, List.length_set]; first | assumption | omega) | (simp; done))
  refine J_st (R_indexZ (i := (Int.toNat r.stamp.epoch)) sl30 rfl rfl (Own.rd (by decide) hw6) (by omega) hi3) rfl ?_
  refine J_storeSet (α := Bool) (i := (Int.toNat r.stamp.epoch)) (f := 0) true sc4 rfl rfl rfl rfl hw6 hi3 (by decide) rfl (fun w10 m3 hw6' => ?_)
  have hq := Own.blk hw6
  replace hw6 := hw6'
  replace E := E.step m3 (fun g hg => by have := hq g hg; omega); replace h1 := h1.mod m3 (fun g hg => by have := hq g hg; omega); replace h2 := h2.mod m3 (fun g hg => by have := hq g hg; omega); replace h3 := h3.mod m3 (fun g hg => by have := hq g hg; omega); replace hw1 := Own.modS hw1 m3 (sp1.1.2.2.2.2.1).symm; replace hw2 := Own.modS hw2 m3 (sp1.2.1.2.2.2.1).symm; replace hw3 := Own.modS hw3 m3 (sp1.2.2.1.2.2.1).symm; replace hw4 := Own.modS hw4 m3 (sp1.2.2.2.1.2.1).symm; replace hw7 := Own.modS hw7 m3 sp1.2.2.2.2.2.1.1; replace hw8 := Own.modS hw8 m3 sp1.2.2.2.2.2.1.2.1; replace hw5 := Own.modS hw5 m3 (sp1.2.2.2.2.1.1).symm
  have z9 := m3.size
  clear hq
  refine J_done ?_
  refine S_seq ?_
  refine S_reg [true, false] rfl rfl ?_
  refine J_st (R_loadS st33 rfl h1.at rfl) rfl ?_
  refine J_storeS' (cs' := [o9, o10, o11, o12, o13, o14, o15, o16]) st33 rfl rfl rfl (all_cons hw1.one (all_cons hw2.one (all_cons hw3.one (all_cons hw4.one (all_cons hw5.one (all_cons hw6.one (all_cons hw7.one (all_cons hw8.one rfl)))))))) h3 (Nat.le_of_ble_eq_true rfl) rfl (fun w11 m4 h3' => ?_)
  replace h3 := h3'
  replace E := E.step m4 (fun g hg => by cases hg; omega); replace h1 := h1.mod m4 (fun g hg => by cases hg; omega); replace h2 := h2.mod m4 (fun g hg => by cases hg; omega); replace hw1 := hw1.mod m4 (fun g hg => by cases hg; omega); replace hw2 := hw2.mod m4 (fun g hg => by cases hg; omega); replace hw3 := hw3.mod m4 (fun g hg => by cases hg; omega); replace hw4 := hw4.mod m4 (fun g hg => by cases hg; omega); replace hw7 := hw7.mod m4 (fun g hg => by cases hg; omega); replace hw8 := hw8.mod m4 (fun g hg => by cases hg; omega); replace hw5 := hw5.mod m4 (fun g hg => by cases hg; omega); replace hw6 := hw6.mod m4 (fun g hg => by cases hg; omega)
  have z10 := m4.size
  refine J_done ?_
  refine S_ret (E_doneC rfl rfl (run_loadVar_st st33 h3.at rfl) E ?_)
  rw [recvW_yes hse]
  exact ⟨_, rfl, Worker.mkO (⟨(keptW x r).queue, (keptW x r).staged, (keptW x r).inputs, (keptW x r).cells, List.set ((keptW x r).sums) (Int.toNat r.stamp.epoch) (IntKind.i64.wrap ((((keptW x r).sums)[(Int.toNat r.stamp.epoch)]'hi1) - 1)), List.set ((keptW x r).black) (Int.toNat r.stamp.epoch) true, (keptW x r).caps, (keptW x r).dones⟩ : Worker) sp1 (Own.widen hw1 (by omega) (by omega)) (Own.widen hw2 (by omega) (by omega)) (Own.widen hw3 (by omega) (by omega)) (Own.widen hw4 (by omega) (by omega)) (Own.widen hw5 (by omega) (by omega)) (Own.widen hw6 (by omega) (by omega)) (Own.widen hw7 (by omega) (by omega)) (Own.widen hw8 (by omega) (by omega))⟩
 ·refine S_skip ?_
  refine S_seq ?_
  refine S_reg [true, false] rfl rfl ?_
  refine J_st (R_loadS st33 rfl h1.at rfl) rfl ?_
  refine J_storeS' (cs' := [o9, o10, o11, o12, o13, o14, o15, o16]) st33 rfl rfl rfl (all_cons hw1.one (all_cons hw2.one (all_cons hw3.one (all_cons hw4.one (all_cons hw5.one (all_cons hw6.one (all_cons hw7.one (all_cons hw8.one rfl)))))))) h3 (Nat.le_of_ble_eq_true rfl) rfl (fun w12 m5 h3' => ?_)
  replace h3 := h3'
  replace E := E.step m5 (fun g hg => by cases hg; omega); replace h1 := h1.mod m5 (fun g hg => by cases hg; omega); replace h2 := h2.mod m5 (fun g hg => by cases hg; omega); replace hw1 := hw1.mod m5 (fun g hg => by cases hg; omega); replace hw2 := hw2.mod m5 (fun g hg => by cases hg; omega); replace hw3 := hw3.mod m5 (fun g hg => by cases hg; omega); replace hw4 := hw4.mod m5 (fun g hg => by cases hg; omega); replace hw5 := hw5.mod m5 (fun g hg => by cases hg; omega); replace hw6 := hw6.mod m5 (fun g hg => by cases hg; omega); replace hw7 := hw7.mod m5 (fun g hg => by cases hg; omega); replace hw8 := hw8.mod m5 (fun g hg => by cases hg; omega)
  have z11 := m5.size
  refine J_done ?_
  refine S_ret (E_doneC rfl rfl (run_loadVar_st st33 h3.at rfl) E ?_)
  rw [recvW_no (recv_sn hd5.1.1 hc1)]
  exact ⟨_, rfl, Worker.mkO (keptW x r) sp1 (Own.widen hw1 (by omega) (by omega)) (Own.widen hw2 (by omega) (by omega)) (Own.widen hw3 (by omega) (by omega)) (Own.widen hw4 (by omega) (by omega)) (Own.widen hw5 (by omega) (by omega)) (Own.widen hw6 (by omega) (by omega)) (Own.widen hw7 (by omega) (by omega)) (Own.widen hw8 (by omega) (by omega))⟩

set_option maxHeartbeats 4000000 in
set_option maxRecDepth 20000 in
theorem s_PutCell (vxs : Value) (xs : List Cell) (x : Cell) (w : World) (hxs : RdS w vxs xs) (hb : xs.length ≤ 4194304) : Ct Try.prog 76 [vxs, .agg (Enc.enc x).toArray] w (fun v w' => Own w' w.heap.size w'.heap.size 4 v (List.flatMap (Enc.enc (α := Cell)) (putM xs x))) := by
 refine ct_of Try.func76 rfl Try.ntmps76 rfl ?_
 refine S_sub [(0, vxs), (1, .agg (Enc.enc x).toArray)] ⟨rfl, rfl, trivial⟩ ?_
 have E : Ext w w := Ext.refl w
 refine S_seq ?_
 refine S_reg [false, true] rfl rfl ?_
 refine J_box rfl rfl (fun b1 w1 e1 s1 h1 => ?_)
 have g_b1 : w.heap.size ≤ b1 := by have := E.size; omega
 have y_b1 := h1.lt
 replace E := E.trans e1
 have z1 := e1.size
 refine J_st (R_assign rfl) rfl (J_done ?_)
 refine S_seq ?_
 refine S_seq ?_
 refine S_reg [true, true, false] rfl rfl ?_
 refine J_st (R_move rfl) rfl (J_st (R_loadS st74 rfl h1.at rfl) rfl ?_)
 refine J_call Try.call75 rfl (s_HasCell vxs xs x _ (hxs.ext E)) rfl (fun _ w2 e2 hv => ?_)
 subst hv
 replace E := E.trans e2; replace h1 := h1.ext e2
 have z2 := e2.size
 refine J_done ?_
 refine S_cond rfl (fun hc1 => ?_) (fun hc1 => ?_)
 ·refine S_seq ?_
  refine S_reg [false, true, false, true] rfl rfl ?_
  refine J_buildSlice (vs := []) (css := []) sl28 rfl rfl trivial rfl rfl (fun b2 w3 e3 s2 h2 => ?_)
  replace h2 : Blk w3 b2 [] := h2
  have g_b2 : w.heap.size ≤ b2 := by have := E.size; omega
  have y_b2 := h2.lt
  replace E := E.trans e3; replace h1 := h1.ext e3
  have z3 := e3.size
  refine J_st (R_move rfl) rfl ?_
  refine J_append sl28 rfl rfl (Own.ofBlk (lo := b2) (hi := b2 + 1) (sz := 4) h2 (Nat.le_refl _) (Nat.lt_succ_self _) (by simp) (by simp [maxLen])) (RdS.src (hxs.ext E)) (flat_one _) (by simp only [sum_flat, List.length_nil, List.length_append, List.length_take, List.length_drop, List.length_cons]; simp only [Enc.sz]; omega) (by decide) (by omega) (by omega) rfl rfl (fun v1 w4 m1 ho1 => ?_)
  replace E := E.step m1 (fun g hg => by have := Own.blk (Own.ofBlk (lo := b2) (hi := b2 + 1) (sz := 4) h2 (Nat.le_refl _) (Nat.lt_succ_self _) (by simp) (by simp [maxLen])) g hg; omega); replace h1 := h1.mod m1 (fun g hg => by have := Own.blk (Own.ofBlk (lo := b2) (hi := b2 + 1) (sz := 4) h2 (Nat.le_refl _) (Nat.lt_succ_self _) (by simp) (by simp [maxLen])) g hg; omega)
  have z4 := m1.size
  refine J_st (R_assign rfl) rfl (J_done ?_)
  refine S_ret (E_done1 rfl rfl E ?_)
  exact Own.fin ho1 (by omega) (by omega) (by simp only [putM_yes hc1, List.nil_append])
 ·refine S_skip ?_
  refine S_seq ?_
  refine S_reg [true] rfl rfl ?_
  refine J_st (R_assign rfl) rfl (J_done ?_)
  refine S_seq ?_
  refine S_block ?_
  refine S_loop (fun (k : Nat) => [(0, vxs), (3, .pointer (some ⟨b1, 0, none⟩)), (4, .slice none 0 0), (5, .int .i64 ((k : Nat) : Int))]) (fun (k : Nat) w' => Ext w w' ∧ w2.heap.size ≤ w'.heap.size ∧ Blk w' b1 (Enc.enc x) ∧ k ≤ xs.length ∧ (xs.take k).all (putLt x) = true) (fun (k : Nat) => xs.length - k) 0 ⟨rfl, rfl, rfl, rfl, trivial⟩ ⟨E, Nat.le_refl _, h1, Nat.zero_le _, rfl⟩ ?_
  clear E h1
  rintro k w5 ⟨E, z5, h1, hk, hI⟩
  refine S_seq ?_
  refine S_seq ?_
  refine S_regD mixed [(0, true), (1, true), (2, true), (3, true), (4, true), (5, true), (6, true), (7, true), (8, true), (9, true), (10, false), (11, true), (12, true)] (by decide +kernel) rfl (fun w6 e4 => ?_)
  replace E := E.trans e4; replace h1 := h1.ext e4
  have z6 := e4.size
  refine J_st (R_move rfl) rfl (J_st (R_move rfl) rfl (J_st (R_len Try.underlying28 rfl (hxs.ext E).len) rfl (J_st (R_lss rfl rfl) rfl (J_st (R_move rfl) rfl ?_))))
  refine J_cut 8 [(0, vxs), (3, .pointer (some ⟨b1, 0, none⟩)), (4, .slice none 0 0), (5, .int .i64 ((k : Nat) : Int)), (25, .bool ((decide (((k : Nat) : Int) < ((xs.length : Nat) : Int))) && (decide ((cellOrd (List.getD xs k default) x) < 0))))] (fun w' => Ext w w' ∧ w6.heap.size ≤ w'.heap.size ∧ Blk w' b1 (Enc.enc x)) ?_ ?_
  ·refine J_if (gd := 17) rfl rfl (fun hg1 => ?_) (fun hg1 => ?_)
   ·have hg1n : k < xs.length := by first | (have h := of_decide_eq_true hg1; omega) | (have h := hg1; simp at h; omega)
    refine J_gd rfl rfl (R_move rfl) rfl (J_gd rfl rfl (R_move rfl) rfl (J_gd rfl rfl (R_index (i := k) sl28 rfl rfl (hxs.ext E) (by first | assumption | omega | (simp only [List.length_set]; first | assumption | omega) | (simp only [List.getElem_set_self, List.length_set]; first | assumption | omega) | (simp only [setW, setLk, List.length_set]; first | assumption | omega) | (simp; done))) rfl (J_gd rfl rfl (R_loadS st74 rfl (RdS.getD (hxs.ext E) (i := k) (by first | assumption | omega | (simp only [List.length_set]; first | assumption | omega) | (simp only [List.getElem_set_self, List.length_set]; first | assumption | omega) | (simp only [setW, setLk, List.length_set]; first | assumption | omega) | (simp; done))) rfl) rfl (J_gd rfl rfl (R_loadS st74 rfl h1.at rfl) rfl ?_))))
    refine J_ung rfl rfl ?_
    refine J_call Try.call72 rfl (s_CellOrder (List.getD xs k default) x _ ) rfl (fun _ w8 e5 hv => ?_)
    subst hv
    replace E := E.trans e5; replace h1 := h1.ext e5
    have z7 := e5.size
    refine J_gd rfl rfl (R_lss rfl rfl) rfl (J_st (R_pickT rfl rfl) rfl (J_cutEnd ⟨rfl, rfl, rfl, rfl, congrArg (fun b => some (Value.bool b)) (show (decide ((cellOrd (List.getD xs k default) x) < 0)) = ((decide (((k : Nat) : Int) < ((xs.length : Nat) : Int))) && (decide ((cellOrd (List.getD xs k default) x) < 0))) by first | (rw [hg1] <;> rfl) | (simp [hg1]; done) | (simp only [nat_nlt] <;> simp)), trivial⟩ ⟨E, (by omega), h1⟩))
   ·have hg1n : ¬ k < xs.length := by first | (have h := of_decide_eq_false hg1; omega) | (have h := hg1; simp at h; omega)
    refine J_gdno rfl rfl rfl rfl (J_gdno rfl rfl rfl rfl (J_gdno rfl rfl rfl rfl (J_gdno rfl rfl rfl rfl (J_gdno rfl rfl rfl rfl ?_))))
    refine J_ungno rfl rfl rfl rfl ?_
    refine J_gdno rfl rfl rfl rfl (J_st (R_pickF rfl rfl) rfl (J_cutEnd ⟨rfl, rfl, rfl, rfl, congrArg (fun b => some (Value.bool b)) (show false = ((decide (((k : Nat) : Int) < ((xs.length : Nat) : Int))) && (decide ((cellOrd (List.getD xs k default) x) < 0))) by first | (rw [hg1] <;> rfl) | (simp [hg1]; done) | (simp only [nat_nlt] <;> simp)), trivial⟩ ⟨E, (by omega), h1⟩))
  clear E h1
  rintro w7 ⟨E, z8, h1⟩
  refine J_done ?_
  refine S_cond rfl (fun hc2 => ?_) (fun hc2 => ?_)
  ·have hlt := put_lt hc2
   refine S_skip ?_
   refine S_block ?_
   refine S_reg [true, true, true] rfl rfl ?_
   refine J_st (R_move rfl) rfl (J_st (R_add rfl rfl (add_nat (by unfold maxLen; omega))) rfl (J_st (R_assign rfl) rfl (J_done ?_)))
   refine S_nil (E_inB ?_)
   refine S_nil (E_again (k + 1) (by omega) ⟨rfl, rfl, rfl, rfl, trivial⟩ ⟨E, (by omega), h1, (by omega), (put_step hI hc2)⟩)
  ·refine S_exit (E_lp_exit (E_inB_exit ?_))
   refine S_seq ?_
   have hk1 : k ≤ xs.length := by first | assumption | omega
   have hs1 : RdS (α := Cell) w (slTo vxs k) (List.take k xs) := RdL.slTo hxs hk1
   refine S_regF mixed [7] 6 34 [33] [(1, true), (2, true), (3, true), (5, true)] [(0, false), (4, false)] [(7, false), (8, true)] (fun b => .slice (some ⟨b, 0, none⟩) 1 1) (z := [.int .i64 x.op, .int .i64 x.epoch, .int .i64 x.key, .int .i64 x.val]) (by decide +kernel) rfl rfl rfl rfl rfl rfl rfl [(0, vxs), (3, .pointer (some ⟨b1, 0, none⟩)), (4, .slice none 0 0), (5, .int .i64 ((k : Nat) : Int)), (25, .bool ((decide (((k : Nat) : Int) < ((xs.length : Nat) : Int))) && (decide ((cellOrd (List.getD xs k default) x) < 0)))), (29, vxs), (30, .int .i64 ((k : Nat) : Int)), (31, slTo vxs k), (33, .agg (Enc.enc x).toArray)] [(33, .agg (Enc.enc x).toArray)] rfl ⟨rfl, trivial⟩ (fun w' => Ext w w' ∧ w7.heap.size ≤ w'.heap.size ∧ Blk w' b1 (Enc.enc x)) (float_lit1 sl28 rfl rfl rfl rfl) (fun w9 e6 => ?_) (fun w9 hphi_w9 => ?_)
   ·replace E := E.trans e6; replace h1 := h1.ext e6
    have z9 := e6.size
    refine J_st (R_move rfl) rfl (J_st (R_move rfl) rfl ?_)
    refine J_st (R_sliceTo sl28 rfl rfl (RdL.room (hxs.ext E)) hk1) rfl (J_st (R_loadS st74 rfl h1.at rfl) rfl (J_cutEnd ⟨rfl, rfl, rfl, rfl, rfl, rfl, rfl, rfl, rfl, trivial⟩ ⟨E, (by omega), h1⟩))
   clear E h1
   obtain ⟨E, z10, h1⟩ := hphi_w9
   refine JI_un rfl (fun w10 e7 => ?_) rfl
   replace E := E.trans e7; replace h1 := h1.ext e7
   have z11 := e7.size
   refine J_buildSlice (vs := []) (css := []) sl28 rfl rfl trivial rfl rfl (fun b3 w11 e8 s3 h3 => ?_)
   replace h3 : Blk w11 b3 [] := h3
   have g_b3 : w.heap.size ≤ b3 := by have := E.size; omega
   have y_b3 := h3.lt
   replace E := E.trans e8; replace h1 := h1.ext e8
   have z12 := e8.size
   refine JI_go2 ?_
   refine JI_un rfl (fun w12 e9 => ?_) rfl
   replace E := E.trans e9; replace h1 := h1.ext e9; replace h3 := h3.ext e9
   have z13 := e9.size
   refine J_appendD sl28 rfl rfl (Own.ofBlk (lo := b3) (hi := b3 + 1) (sz := 4) h3 (Nat.le_refl _) (Nat.lt_succ_self _) (by simp) (by simp [maxLen])) ⟨_, _, rfl⟩ (RdS.src (hs1.ext E)) (flat_one _) (by simp only [sum_flat, List.length_nil, List.length_append, List.length_take, List.length_drop, List.length_cons]; simp only [Enc.sz]; omega) (by decide) (by omega) (by omega) rfl (fun v2 w13 e10 ho2 hb_ho2 => ?_)
   replace E := E.trans e10; replace h1 := h1.ext e10
   have z14 := e10.size
   have g_ho2 : w.heap.size ≤ b3 := by have := E.size; omega
   have hn1 : ∀ g, Value.ownBlock v2 = some g → g = b3 ∨ w12.heap.size ≤ g := fun g hg => (hb_ho2 g hg).elim (fun h => .inl (by cases h; rfl)) (fun h => .inr h)
   replace ho2 : Own w13 b3 w13.heap.size 4 v2 (List.flatMap (Enc.enc (α := Cell)) (List.take k xs)) := ho2
   refine JI_go2 ?_
   refine JI_end rfl (fun b4 w14 e11 g1 y1 h4 hI1 => ?_)
   have hI1_0 : b4 < w10.heap.size ∨ w11.heap.size ≤ b4 := hI1 (_, _) (by simp)
   have hI1_1 : b4 < w12.heap.size ∨ w13.heap.size ≤ b4 := hI1 (_, _) (by simp)
   replace E := E.trans e11; replace h1 := h1.ext e11; replace ho2 := ho2.ext e11
   have z15 := e11.size
   have g_b4 : w.heap.size ≤ b4 := by have := E.size; omega
   have y_b4 := h4.lt
   refine J2_sub [(0, vxs), (3, .pointer (some ⟨b1, 0, none⟩)), (4, .slice none 0 0), (5, .int .i64 ((k : Nat) : Int)), (25, .bool ((decide (((k : Nat) : Int) < ((xs.length : Nat) : Int))) && (decide ((cellOrd (List.getD xs k default) x) < 0)))), (28, .slice (some ⟨b3, 0, none⟩) 0 0), (29, vxs), (30, .int .i64 ((k : Nat) : Int)), (31, slTo vxs k), (32, v2), (33, .agg (Enc.enc x).toArray), (34, .slice (some ⟨b4, 0, none⟩) 1 1)] ⟨rfl, rfl, rfl, rfl, rfl, rfl, rfl, rfl, rfl, rfl, rfl, rfl, trivial⟩ ?_
   refine J2_X rfl ?_
   refine J_appendB sl28 rfl rfl ho2 (Src.ofBlk h4 rfl) rfl (by simp only [sum_flat, List.length_nil, List.length_append, List.length_take, List.length_drop, List.length_cons]; simp only [Enc.sz]; omega) (by decide) (by omega) (by omega) rfl rfl (fun v3 w15 m2 ho3 hb1 => ?_)
   have hn2 : ∀ g, Value.ownBlock v3 = some g → g = b3 ∨ w12.heap.size ≤ g := fun g hg => (hb1 g hg).elim (fun h => hn1 g h) (fun h => by omega)
   replace E := E.step m2 (fun g hg => by have := Own.blk ho2 g hg; have := hn1 g hg; omega); replace h1 := h1.mod m2 (fun g hg => by have := Own.blk ho2 g hg; have := hn1 g hg; omega)
   have z16 := m2.size
   refine JX_go ?_
   refine J_st (R_assign rfl) rfl (J_done ?_)
   refine S_seq ?_
   refine S_reg [true, true, true, true, false, true] rfl rfl ?_
   refine J_st (R_move rfl) rfl (J_st (R_move rfl) rfl (J_st (R_move rfl) rfl ?_))
   have hk2 : k ≤ xs.length := by first | assumption | omega
   have hs2 : RdS (α := Cell) w (slFrom vxs k 4) (List.drop k xs) := RdL.slFrom hxs hk2
   refine J_st (R_sliceFrom sl28 rfl rfl (RdL.room (hxs.ext E)) hk2) rfl ?_
   refine J_appendB sl28 rfl rfl ho3 (RdS.src (hs2.ext E)) (flat_one _) (by simp only [sum_flat, List.length_nil, List.length_append, List.length_take, List.length_drop, List.length_cons]; simp only [Enc.sz]; omega) (by decide) (by omega) (by omega) rfl rfl (fun v4 w16 m3 ho4 hb2 => ?_)
   have hn3 : ∀ g, Value.ownBlock v4 = some g → g = b3 ∨ w12.heap.size ≤ g := fun g hg => (hb2 g hg).elim (fun h => hn2 g h) (fun h => by omega)
   replace E := E.step m3 (fun g hg => by have := Own.blk ho3 g hg; have := hn2 g hg; omega); replace h1 := h1.mod m3 (fun g hg => by have := Own.blk ho3 g hg; have := hn2 g hg; omega)
   have z17 := m3.size
   refine J_st (R_assign rfl) rfl (J_done ?_)
   refine S_ret (E_done1 rfl rfl E ?_)
   exact Own.fin ho4 (by omega) (by omega) (by rw [putM_no hc1 hI hk hc2, insM_flat]; rfl)

set_option maxHeartbeats 4000000 in
set_option maxRecDepth 20000 in
theorem s_Recall (kind : Int) (vxs : Value) (xs : List Cell) (x : Cell) (w : World) (hxs : RdS w vxs xs) (hb : xs.length ≤ 4194304) : Ct Try.prog 69 [.int .i64 kind, vxs, .agg (Enc.enc x).toArray] w (fun v w' => ∃ u0, v = .tuple [u0, .bool ((recallM kind xs x).2)].toArray ∧ Own w' w.heap.size w'.heap.size 4 u0 (List.flatMap (Enc.enc (α := Cell)) ((recallM kind xs x).1))) := by
 refine ct_of Try.func69 rfl Try.ntmps69 rfl ?_
 refine S_sub [(0, .int .i64 kind), (1, vxs), (2, .agg (Enc.enc x).toArray)] ⟨rfl, rfl, rfl, trivial⟩ ?_
 have E : Ext w w := Ext.refl w
 refine S_seq ?_
 refine S_reg [false, true, true] rfl rfl ?_
 refine J_box rfl rfl (fun b1 w1 e1 s1 h1 => ?_)
 have g_b1 : w.heap.size ≤ b1 := by have := E.size; omega
 have y_b1 := h1.lt
 replace E := E.trans e1
 have z1 := e1.size
 refine J_st (R_assign rfl) rfl (J_st (R_assign rfl) rfl (J_done ?_))
 refine S_seq ?_
 refine S_reg [false, true, false, true] rfl rfl ?_
 refine J_buildSlice (vs := []) (css := []) sl28 rfl rfl trivial rfl rfl (fun b2 w2 e2 s2 h2 => ?_)
 replace h2 : Blk w2 b2 [] := h2
 have g_b2 : w.heap.size ≤ b2 := by have := E.size; omega
 have y_b2 := h2.lt
 replace E := E.trans e2; replace h1 := h1.ext e2
 have z2 := e2.size
 refine J_st (R_move rfl) rfl ?_
 refine J_append sl28 rfl rfl (Own.ofBlk (lo := b2) (hi := b2 + 1) (sz := 4) h2 (Nat.le_refl _) (Nat.lt_succ_self _) (by simp) (by simp [maxLen])) (RdS.src (hxs.ext E)) (flat_one _) (by first | (simp only [sum_flat, List.length_nil, List.length_cons]; simp only [Enc.sz]; omega) | (have h := filt_len xs (fun y => !(slot x y)) k; simp only [show Enc.sz Cell = 4 from rfl] at h; simp only [List.length_cons, List.length_nil]; omega)) (by decide) (by omega) (by omega) rfl rfl (fun v1 w3 m1 ho1 => ?_)
 replace E := E.step m1 (fun g hg => by have := Own.blk (Own.ofBlk (lo := b2) (hi := b2 + 1) (sz := 4) h2 (Nat.le_refl _) (Nat.lt_succ_self _) (by simp) (by simp [maxLen])) g hg; omega); replace h1 := h1.mod m1 (fun g hg => by have := Own.blk (Own.ofBlk (lo := b2) (hi := b2 + 1) (sz := 4) h2 (Nat.le_refl _) (Nat.lt_succ_self _) (by simp) (by simp [maxLen])) g hg; omega)
 have z3 := m1.size
 refine J_st (R_assign rfl) rfl (J_done ?_)
 refine S_seq ?_
 refine S_seq ?_
 refine S_reg [true] rfl rfl ?_
 refine J_st (R_move rfl) rfl (J_done ?_)
 refine S_block ?_
 refine S_seq ?_
 refine S_reg [true, true] rfl rfl ?_
 refine J_st (R_eql rfl rfl) rfl (J_st (R_assign rfl) rfl (J_done ?_))
 refine S_cond rfl (fun hc1 => ?_) (fun hc1 => ?_)
 ·refine S_seq ?_
  refine S_seq ?_
  refine S_reg [true, true, false] rfl rfl ?_
  refine J_st (R_move rfl) rfl (J_st (R_loadS st74 rfl h1.at rfl) rfl ?_)
  refine J_call Try.call75 rfl (s_HasCell vxs xs x _ (hxs.ext E)) rfl (fun _ w4 e3 hv => ?_)
  subst hv
  replace E := E.trans e3; replace h1 := h1.ext e3; replace ho1 := ho1.ext e3
  have z4 := e3.size
  refine J_done ?_
  refine S_cond rfl (fun hc2 => ?_) (fun hc2 => ?_)
  ·refine S_seq ?_
   refine S_reg [true, true, true] rfl rfl ?_
   refine J_st (R_move rfl) rfl (J_st (R_assign rfl) rfl (J_st (R_assign rfl) rfl (J_done ?_)))
   refine S_ret (E_inB_ret (E_doneN (l := [.tmp 6, .tmp 7]) (vs := [v1, .bool false]) rfl ⟨.tmp rfl, .tmp rfl, trivial⟩ rfl E ?_))
   rw [recallM_h (by assumption) (by assumption)]
   exact ⟨_, rfl, Own.fin ho1 (by omega) (by omega) (by first | rfl | simp only [List.nil_append])⟩
  ·refine S_skip ?_
   refine S_seq ?_
   refine S_reg [true, true, false, true, true] rfl rfl ?_
   refine J_st (R_move rfl) rfl (J_st (R_loadS st74 rfl h1.at rfl) rfl ?_)
   refine J_call Try.call76 rfl (s_PutCell vxs xs x _ (hxs.ext E) (by omega)) rfl (fun v2 w5 e4 ho2 => ?_)
   have g_ho2 : w.heap.size ≤ w4.heap.size := E.size
   replace E := E.trans e4; replace h1 := h1.ext e4; replace ho1 := ho1.ext e4
   have z5 := e4.size
   refine J_st (R_assign rfl) rfl (J_st (R_assign rfl) rfl (J_done ?_))
   refine S_ret (E_inB_ret (E_doneN (l := [.tmp 6, .tmp 7]) (vs := [v2, .bool true]) rfl ⟨.tmp rfl, .tmp rfl, trivial⟩ rfl E ?_))
   rw [recallM_i (by assumption) (by assumption)]
   exact ⟨_, rfl, Own.fin ho2 (by omega) (by omega) (by first | rfl | simp only [List.nil_append])⟩
 ·refine S_seq ?_
  refine S_seq ?_
  refine S_reg [true, true] rfl rfl ?_
  refine J_st (R_eql rfl rfl) rfl (J_st (R_assign rfl) rfl (J_done ?_))
  refine S_cond rfl (fun hc3 => ?_) (fun hc3 => ?_)
  ·refine S_skip ?_
   refine S_condTe rfl hc3 ?_
   refine S_seq ?_
   refine S_reg [true, true, true, true, true, true, true, false, true, true, true, true, true] rfl rfl ?_
   refine J_st (R_move rfl) rfl (J_st (R_fieldAddr0 fl74_0 rfl) rfl (J_st (R_load sc3 rfl (h1.one 0 rfl)) rfl (J_st (R_fieldAddr0 fl74_1 rfl) rfl (J_st (R_load sc3 rfl (h1.one 1 rfl)) rfl (J_st (R_fieldAddr0 fl74_2 rfl) rfl (J_st (R_load sc3 rfl (h1.one 2 rfl)) rfl ?_))))))
   refine J_call Try.call77 rfl (s_LeastOf vxs xs x.op x.epoch x.key _ (hxs.ext E)) rfl (fun _ w6 e5 hv => ?_)
   subst hv
   replace E := E.trans e5; replace h1 := h1.ext e5; replace ho1 := ho1.ext e5
   have z6 := e5.size
   refine J_st (R_move rfl) rfl (J_st (R_extract rfl rfl) rfl (J_st (R_extract rfl rfl) rfl (J_st (R_assign rfl) rfl (J_st (R_assign rfl) rfl (J_done ?_)))))
   refine S_seq ?_
   refine S_seq ?_
   refine S_reg [true, true, true, true, true, true, true] rfl rfl ?_
   refine J_st (R_move rfl) rfl (J_st (R_move rfl) rfl ?_)
   refine J_cut 5 [(0, .int .i64 kind), (1, vxs), (2, .agg (Enc.enc x).toArray), (5, .pointer (some ⟨b1, 0, none⟩)), (6, .slice none 0 0), (7, .bool false), (8, v1), (9, .int .i64 ((leastM xs x.op x.epoch x.key).1)), (10, .bool ((leastM xs x.op x.epoch x.key).2)), (13, .slice (some ⟨b2, 0, none⟩) 0 0), (14, vxs), (15, v1), (16, .int .i64 kind), (17, .bool (kind == 6)), (18, .bool (kind == 6)), (26, .bool (kind == 5)), (27, .bool (kind == 5)), (29, .tuple [.int .i64 ((leastM xs x.op x.epoch x.key).1), .bool ((leastM xs x.op x.epoch x.key).2)].toArray), (30, vxs), (31, .pointer (some ⟨b1, 0, none⟩)), (32, .int .i64 x.op), (33, .pointer (some ⟨b1, 1, none⟩)), (34, .int .i64 x.epoch), (35, .pointer (some ⟨b1, 2, none⟩)), (36, .int .i64 x.key), (37, .tuple [.int .i64 ((leastM xs x.op x.epoch x.key).1), .bool ((leastM xs x.op x.epoch x.key).2)].toArray), (38, .int .i64 ((leastM xs x.op x.epoch x.key).1)), (39, .bool ((leastM xs x.op x.epoch x.key).2)), (46, .bool (((leastM xs x.op x.epoch x.key).2) && (decide (((leastM xs x.op x.epoch x.key).1) ≤ x.val))))] (fun w' => w6 = w') ?_ ?_
   ·refine J_if (gd := 41) rfl rfl (fun hg1 => ?_) (fun hg1 => ?_)
    ·refine J_gd rfl rfl (R_move rfl) rfl (J_gd rfl rfl (R_fieldAddr0 fl74_3 rfl) rfl (J_gd rfl rfl (R_load sc3 rfl (h1.one 3 rfl)) rfl (J_gd rfl rfl (R_leq rfl rfl) rfl (J_st (R_pickT rfl rfl) rfl (J_cutEnd ⟨rfl, rfl, rfl, rfl, rfl, rfl, rfl, rfl, rfl, rfl, rfl, rfl, rfl, rfl, rfl, rfl, rfl, rfl, rfl, rfl, rfl, rfl, rfl, rfl, rfl, rfl, rfl, rfl, congrArg (fun b => some (Value.bool b)) (show (decide (((leastM xs x.op x.epoch x.key).1) ≤ x.val)) = (((leastM xs x.op x.epoch x.key).2) && (decide (((leastM xs x.op x.epoch x.key).1) ≤ x.val))) by first | (rw [hg1] <;> rfl) | (simp [hg1]; done) | (simp only [nat_nlt] <;> simp)), trivial⟩ rfl)))))
    ·refine J_gdno rfl rfl rfl rfl (J_gdno rfl rfl rfl rfl (J_gdno rfl rfl rfl rfl (J_gdno rfl rfl rfl rfl (J_st (R_pickF rfl rfl) rfl (J_cutEnd ⟨rfl, rfl, rfl, rfl, rfl, rfl, rfl, rfl, rfl, rfl, rfl, rfl, rfl, rfl, rfl, rfl, rfl, rfl, rfl, rfl, rfl, rfl, rfl, rfl, rfl, rfl, rfl, rfl, congrArg (fun b => some (Value.bool b)) (show false = (((leastM xs x.op x.epoch x.key).2) && (decide (((leastM xs x.op x.epoch x.key).1) ≤ x.val))) by first | (rw [hg1] <;> rfl) | (simp [hg1]; done) | (simp only [nat_nlt] <;> simp)), trivial⟩ rfl)))))
   rintro _ rfl
   refine J_done ?_
   refine S_cond rfl (fun hc4 => ?_) (fun hc4 => ?_)
   ·refine S_seq ?_
    refine S_reg [true, true, true] rfl rfl ?_
    refine J_st (R_move rfl) rfl (J_st (R_assign rfl) rfl (J_st (R_assign rfl) rfl (J_done ?_)))
    refine S_ret (E_inB_ret (E_doneN (l := [.tmp 6, .tmp 7]) (vs := [v1, .bool false]) rfl ⟨.tmp rfl, .tmp rfl, trivial⟩ rfl E ?_))
    rw [recallM_b (.inl (by assumption)), betterM_yes (by assumption)]
    exact ⟨_, rfl, Own.fin ho1 (by omega) (by omega) (by first | rfl | simp only [List.nil_append])⟩
   ·refine S_skip ?_
    refine S_seq ?_
    refine S_reg [false, true] rfl rfl ?_
    refine J_buildSlice (vs := []) (css := []) sl28 rfl rfl trivial rfl rfl (fun b3 w8 e6 s3 h3 => ?_)
    replace h3 : Blk w8 b3 [] := h3
    have g_b3 : w.heap.size ≤ b3 := by have := E.size; omega
    have y_b3 := h3.lt
    replace E := E.trans e6; replace h1 := h1.ext e6; replace ho1 := ho1.ext e6
    have z7 := e6.size
    refine J_st (R_assign rfl) rfl (J_done ?_)
    refine S_seq ?_
    refine S_seq ?_
    refine S_reg [true] rfl rfl ?_
    refine J_st (R_assign rfl) rfl (J_done ?_)
    refine S_block ?_
    refine S_loop (fun (xq : Nat × Value) => let ⟨k, vo⟩ := xq; [(1, vxs), (5, .pointer (some ⟨b1, 0, none⟩)), (6, .slice none 0 0), (7, .bool false), (8, v1), (11, vo), (12, .int .i64 ((k : Nat) : Int))]) (fun (xq : Nat × Value) w' => let ⟨k, vo⟩ := xq; Ext w w' ∧ w8.heap.size ≤ w'.heap.size ∧ Blk w' b1 (Enc.enc x) ∧ Own w' b2 w3.heap.size 4 v1 ([] ++ List.flatMap (Enc.enc (α := Cell)) xs) ∧ k ≤ xs.length ∧ Own w' b3 w'.heap.size 4 vo (List.flatMap (Enc.enc (α := Cell)) ((xs.take k).filter (fun y => !(slot x y))))) (fun (xq : Nat × Value) => let ⟨k, vo⟩ := xq; xs.length - k) (0, .slice (some ⟨b3, 0, none⟩) 0 0) ⟨rfl, rfl, rfl, rfl, rfl, rfl, rfl, trivial⟩ ⟨E, Nat.le_refl _, h1, ho1, Nat.zero_le _, Own.fin (Own.ofBlk (lo := b3) (hi := b3 + 1) (sz := 4) h3 (Nat.le_refl _) (Nat.lt_succ_self _) (by simp) (by simp [maxLen])) (by have := E.size; omega) (by omega) rfl⟩ ?_
    clear E h1 ho1 h3
    rintro ⟨k, vo⟩ w9 ⟨E, z8, h1, ho1, hk, ho⟩
    refine S_sub [(1, vxs), (5, .pointer (some ⟨b1, 0, none⟩)), (6, .slice none 0 0), (7, .bool false), (8, v1), (11, vo), (12, .int .i64 ((k : Nat) : Int))] ⟨rfl, rfl, rfl, rfl, rfl, rfl, rfl, trivial⟩ ?_
    refine S_seq ?_
    refine S_seq ?_
    refine S_reg [true, true, true, true] rfl rfl ?_
    refine J_st (R_move rfl) rfl (J_st (R_move rfl) rfl (J_st (R_len Try.underlying28 rfl (hxs.ext E).len) rfl (J_st (R_lss rfl rfl) rfl (J_done ?_))))
    refine S_cond rfl (fun hc5 => ?_) (fun hc5 => ?_)
    ·have hc5n : k < xs.length := by first | (have h := of_decide_eq_true hc5; omega) | (have h := hc5; simp at h; omega)
     refine S_skip ?_
     refine S_seq ?_
     refine S_block ?_
     refine S_seq ?_
     refine S_regD mixed [(0, true), (1, true), (2, true), (3, true), (4, true), (5, true), (6, true), (7, true), (8, true), (9, true), (10, true), (11, true), (12, true), (13, true), (14, true), (15, true), (16, true), (17, true), (18, true), (19, true), (20, true), (21, true), (22, true), (23, true), (24, true), (25, true), (26, true), (27, true)] (by decide +kernel) rfl (fun w10 e7 => ?_)
     replace E := E.trans e7; replace h1 := h1.ext e7; replace ho1 := ho1.ext e7; replace ho := ho.ext e7
     have z9 := e7.size
     refine J_st (R_move rfl) rfl (J_st (R_move rfl) rfl ?_)
     have hi1 : k < xs.length := (by first | assumption | omega | (simp only [List.length_set]; first | assumption | omega) | (simp only [List.getElem_set_self, List.length_set]; first | assumption | omega) | (simp only [setW, setLk, List.length_set]; first | assumption | omega) | (simp; done))
     refine J_st (R_index (i := k) sl28 rfl rfl (hxs.ext E) hi1) rfl (J_st (R_fieldAddr fl74_0 rfl) rfl (J_st (R_load sc3 rfl (((hxs.ext E).get hi1).one 0 rfl)) rfl (J_st (R_fieldAddr0 fl74_0 rfl) rfl (J_st (R_load sc3 rfl (h1.one 0 rfl)) rfl (J_st (R_neq rfl rfl) rfl (J_st (R_move rfl) rfl ?_))))))
     refine J_cut 19 [(1, vxs), (5, .pointer (some ⟨b1, 0, none⟩)), (6, .slice none 0 0), (7, .bool false), (8, v1), (11, vo), (12, .int .i64 ((k : Nat) : Int)), (49, .int .i64 ((k : Nat) : Int)), (50, vxs), (51, .int .i64 ((xs.length : Nat) : Int)), (52, .bool (decide (((k : Nat) : Int) < ((xs.length : Nat) : Int)))), (82, .bool (((((xs[k]'hi1).op) != x.op) || (((xs[k]'hi1).epoch) != x.epoch)) || (((xs[k]'hi1).key) != x.key)))] (fun w' => w10 = w') ?_ ?_
     ·refine J_if (gd := 63) rfl rfl (fun hg2 => ?_) (fun hg2 => ?_)
      ·refine J_gdno rfl rfl rfl rfl (J_gdno rfl rfl rfl rfl (J_gdno rfl rfl rfl rfl (J_gdno rfl rfl rfl rfl (J_gdno rfl rfl rfl rfl (J_gdno rfl rfl rfl rfl (J_gdno rfl rfl rfl rfl (J_gdno rfl rfl rfl rfl (J_st (R_pickT rfl rfl) rfl (J_st (R_move rfl) rfl (J_gdno rfl rfl rfl rfl (J_gdno rfl rfl rfl rfl (J_gdno rfl rfl rfl rfl (J_gdno rfl rfl rfl rfl (J_gdno rfl rfl rfl rfl (J_gdno rfl rfl rfl rfl (J_gdno rfl rfl rfl rfl (J_gdno rfl rfl rfl rfl (J_st (R_pickT rfl rfl) rfl (J_cutEnd ⟨rfl, rfl, rfl, rfl, rfl, rfl, rfl, rfl, rfl, rfl, rfl, congrArg (fun b => some (Value.bool b)) (show true = (((((xs[k]'hi1).op) != x.op) || (((xs[k]'hi1).epoch) != x.epoch)) || (((xs[k]'hi1).key) != x.key)) by first | (rw [hg2] <;> rfl) | (simp [hg2]; done) | (simp only [nat_nlt] <;> simp)), trivial⟩ rfl)))))))))))))))))))
      ·refine J_gd rfl rfl (R_move rfl) rfl (J_gd rfl rfl (R_move rfl) rfl (J_gd rfl rfl (R_index (i := k) sl28 rfl rfl (hxs.ext E) hi1) rfl (J_gd rfl rfl (R_fieldAddr fl74_1 rfl) rfl (J_gd rfl rfl (R_load sc3 rfl (((hxs.ext E).get hi1).one 1 rfl)) rfl (J_gd rfl rfl (R_fieldAddr0 fl74_1 rfl) rfl (J_gd rfl rfl (R_load sc3 rfl (h1.one 1 rfl)) rfl (J_gd rfl rfl (R_neq rfl rfl) rfl (J_st (R_pickF rfl rfl) rfl (J_st (R_move rfl) rfl ?_)))))))))
       refine J_if (gd := 73) rfl rfl (fun hg3 => ?_) (fun hg3 => ?_)
       ·refine J_gdno rfl rfl rfl rfl (J_gdno rfl rfl rfl rfl (J_gdno rfl rfl rfl rfl (J_gdno rfl rfl rfl rfl (J_gdno rfl rfl rfl rfl (J_gdno rfl rfl rfl rfl (J_gdno rfl rfl rfl rfl (J_gdno rfl rfl rfl rfl (J_st (R_pickT rfl rfl) rfl (J_cutEnd ⟨rfl, rfl, rfl, rfl, rfl, rfl, rfl, rfl, rfl, rfl, rfl, congrArg (fun b => some (Value.bool b)) (show true = (((((xs[k]'hi1).op) != x.op) || (((xs[k]'hi1).epoch) != x.epoch)) || (((xs[k]'hi1).key) != x.key)) by first | (rw [hg2, hg3] <;> rfl) | (simp [hg2, hg3]; done) | (simp only [nat_nlt] <;> simp)), trivial⟩ rfl)))))))))
       ·refine J_gd rfl rfl (R_move rfl) rfl (J_gd rfl rfl (R_move rfl) rfl (J_gd rfl rfl (R_index (i := k) sl28 rfl rfl (hxs.ext E) hi1) rfl (J_gd rfl rfl (R_fieldAddr fl74_2 rfl) rfl (J_gd rfl rfl (R_load sc3 rfl (((hxs.ext E).get hi1).one 2 rfl)) rfl (J_gd rfl rfl (R_fieldAddr0 fl74_2 rfl) rfl (J_gd rfl rfl (R_load sc3 rfl (h1.one 2 rfl)) rfl (J_gd rfl rfl (R_neq rfl rfl) rfl (J_st (R_pickF rfl rfl) rfl (J_cutEnd ⟨rfl, rfl, rfl, rfl, rfl, rfl, rfl, rfl, rfl, rfl, rfl, congrArg (fun b => some (Value.bool b)) (show (((xs[k]'hi1).key) != x.key) = (((((xs[k]'hi1).op) != x.op) || (((xs[k]'hi1).epoch) != x.epoch)) || (((xs[k]'hi1).key) != x.key)) by first | (rw [hg2, hg3] <;> rfl) | (simp [hg2, hg3]; done) | (simp only [nat_nlt] <;> simp)), trivial⟩ rfl)))))))))
     rintro _ rfl
     refine J_done ?_
     refine S_cond rfl (fun hc6 => ?_) (fun hc6 => ?_)
     ·refine S_reg [true, true, true, true, true, false, false, true] rfl rfl ?_
      refine J_st (R_move rfl) rfl (J_st (R_move rfl) rfl (J_st (R_move rfl) rfl (J_st (R_index (i := k) sl28 rfl rfl (hxs.ext E) hi1) rfl (J_st (R_loadS st74 rfl ((hxs.ext E).get hi1) rfl) rfl ?_))))
      refine J_buildSlice (vs := [.agg (Enc.enc (xs[k]'hi1)).toArray]) (css := [[.int .i64 ((xs[k]'hi1).op), .int .i64 ((xs[k]'hi1).epoch), .int .i64 ((xs[k]'hi1).key), .int .i64 ((xs[k]'hi1).val)]]) sl28 rfl rfl ⟨⟨rfl, rfl⟩, trivial⟩ rfl rfl (fun b4 w12 e8 s4 h4 => ?_)
      replace h4 : Blk w12 b4 [.int .i64 ((xs[k]'hi1).op), .int .i64 ((xs[k]'hi1).epoch), .int .i64 ((xs[k]'hi1).key), .int .i64 ((xs[k]'hi1).val)] := h4
      have g_b4 : w.heap.size ≤ b4 := by have := E.size; omega
      have y_b4 := h4.lt
      replace E := E.trans e8; replace h1 := h1.ext e8; replace ho1 := ho1.ext e8; replace ho := ho.ext e8
      have z10 := e8.size
      refine J_append sl28 rfl rfl ho (Src.ofBlk h4 rfl) rfl (by first | (simp only [sum_flat, List.length_nil, List.length_cons]; simp only [Enc.sz]; omega) | (have h := filt_len xs (fun y => !(slot x y)) k; simp only [show Enc.sz Cell = 4 from rfl] at h; simp only [List.length_cons, List.length_nil]; omega)) (by decide) (by omega) (by omega) rfl rfl (fun v3 w13 m2 ho3 => ?_)
      replace E := E.step m2 (fun g hg => by have := Own.blk ho g hg; omega); replace h1 := h1.mod m2 (fun g hg => by have := Own.blk ho g hg; omega); replace ho1 := ho1.mod m2 (fun g hg => by have := Own.blk ho g hg; omega)
      have z11 := m2.size
      refine J_st (R_assign rfl) rfl (J_done ?_)
      refine S_nil (E_inB ?_)
      refine S_reg [true, true, true] rfl rfl ?_
      refine J_st (R_move rfl) rfl (J_st (R_add rfl rfl (add_one hc5n hxs.1)) rfl (J_st (R_assign rfl) rfl (J_done ?_)))
      refine S_nil (E_again (k + 1, v3) (by simp; omega) ⟨rfl, rfl, rfl, rfl, rfl, rfl, rfl, trivial⟩ ⟨E, (by omega), h1, ho1, (by omega), Own.fin ho3 (Nat.le_refl _) (by omega) (filt_yes (by assumption) (ns_yes (by assumption)))⟩)
     ·refine S_skip ?_
      refine S_nil (E_inB ?_)
      refine S_reg [true, true, true] rfl rfl ?_
      refine J_st (R_move rfl) rfl (J_st (R_add rfl rfl (add_one hc5n hxs.1)) rfl (J_st (R_assign rfl) rfl (J_done ?_)))
      refine S_nil (E_again (k + 1, vo) (by simp; omega) ⟨rfl, rfl, rfl, rfl, rfl, rfl, rfl, trivial⟩ ⟨E, (by omega), h1, ho1, (by omega), Own.fin ho (Nat.le_refl _) (by omega) (filt_no (by assumption) (ns_no (by assumption)))⟩)
    ·have hc5n : ¬ k < xs.length := by first | (have h := of_decide_eq_false hc5; omega) | (have h := hc5; simp at h; omega)
     refine S_exit (E_lp_exit (E_inB_exit ?_))
     refine S_seq ?_
     refine S_reg [true, true, false, true, true] rfl rfl ?_
     refine J_st (R_move rfl) rfl (J_st (R_loadS st74 rfl h1.at rfl) rfl ?_)
     refine J_call Try.call76 rfl (s_PutCell vo ((xs.take k).filter (fun y => !(slot x y))) x _ (Own.rd (by decide) ho) (by have h1 := List.length_filter_le (fun y => !(slot x y)) (xs.take k); simp only [List.length_take] at h1; omega)) rfl (fun v4 w14 e9 ho4 => ?_)
     have g_ho4 : w.heap.size ≤ w9.heap.size := E.size
     replace E := E.trans e9; replace h1 := h1.ext e9; replace ho1 := ho1.ext e9; replace ho := ho.ext e9
     have z12 := e9.size
     refine J_st (R_assign rfl) rfl (J_st (R_assign rfl) rfl (J_done ?_))
     refine S_ret (E_inB_ret (E_doneN (l := [.tmp 6, .tmp 7]) (vs := [v4, .bool true]) rfl ⟨.tmp rfl, .tmp rfl, trivial⟩ rfl E ?_))
     rw [recallM_b (.inl (by assumption)), betterM_no (by assumption)]
     exact ⟨_, rfl, Own.fin ho4 (by omega) (by omega) (by simp only [List.nil_append, List.take_of_length_le (show xs.length ≤ k by omega)] <;> rfl)⟩
  ·refine S_reg [true, true] rfl rfl ?_
   refine J_st (R_eql rfl rfl) rfl (J_st (R_assign rfl) rfl (J_done ?_))
   refine S_cond rfl (fun hc7 => ?_) (fun hc7 => ?_)
   ·refine S_seq ?_
    refine S_reg [true, true, true, true, true, true, true, false, true, true, true, true, true] rfl rfl ?_
    refine J_st (R_move rfl) rfl (J_st (R_fieldAddr0 fl74_0 rfl) rfl (J_st (R_load sc3 rfl (h1.one 0 rfl)) rfl (J_st (R_fieldAddr0 fl74_1 rfl) rfl (J_st (R_load sc3 rfl (h1.one 1 rfl)) rfl (J_st (R_fieldAddr0 fl74_2 rfl) rfl (J_st (R_load sc3 rfl (h1.one 2 rfl)) rfl ?_))))))
    refine J_call Try.call77 rfl (s_LeastOf vxs xs x.op x.epoch x.key _ (hxs.ext E)) rfl (fun _ w15 e10 hv => ?_)
    subst hv
    replace E := E.trans e10; replace h1 := h1.ext e10; replace ho1 := ho1.ext e10
    have z13 := e10.size
    refine J_st (R_move rfl) rfl (J_st (R_extract rfl rfl) rfl (J_st (R_extract rfl rfl) rfl (J_st (R_assign rfl) rfl (J_st (R_assign rfl) rfl (J_done ?_)))))
    refine S_seq ?_
    refine S_seq ?_
    refine S_reg [true, true, true, true, true, true, true] rfl rfl ?_
    refine J_st (R_move rfl) rfl (J_st (R_move rfl) rfl ?_)
    refine J_cut 5 [(0, .int .i64 kind), (1, vxs), (2, .agg (Enc.enc x).toArray), (5, .pointer (some ⟨b1, 0, none⟩)), (6, .slice none 0 0), (7, .bool false), (8, v1), (9, .int .i64 ((leastM xs x.op x.epoch x.key).1)), (10, .bool ((leastM xs x.op x.epoch x.key).2)), (13, .slice (some ⟨b2, 0, none⟩) 0 0), (14, vxs), (15, v1), (16, .int .i64 kind), (17, .bool (kind == 6)), (18, .bool (kind == 6)), (26, .bool (kind == 8)), (27, .bool (kind == 5)), (28, .bool (kind == 8)), (29, .tuple [.int .i64 ((leastM xs x.op x.epoch x.key).1), .bool ((leastM xs x.op x.epoch x.key).2)].toArray), (30, vxs), (31, .pointer (some ⟨b1, 0, none⟩)), (32, .int .i64 x.op), (33, .pointer (some ⟨b1, 1, none⟩)), (34, .int .i64 x.epoch), (35, .pointer (some ⟨b1, 2, none⟩)), (36, .int .i64 x.key), (37, .tuple [.int .i64 ((leastM xs x.op x.epoch x.key).1), .bool ((leastM xs x.op x.epoch x.key).2)].toArray), (38, .int .i64 ((leastM xs x.op x.epoch x.key).1)), (39, .bool ((leastM xs x.op x.epoch x.key).2)), (46, .bool (((leastM xs x.op x.epoch x.key).2) && (decide (((leastM xs x.op x.epoch x.key).1) ≤ x.val))))] (fun w' => w15 = w') ?_ ?_
    ·refine J_if (gd := 41) rfl rfl (fun hg4 => ?_) (fun hg4 => ?_)
     ·refine J_gd rfl rfl (R_move rfl) rfl (J_gd rfl rfl (R_fieldAddr0 fl74_3 rfl) rfl (J_gd rfl rfl (R_load sc3 rfl (h1.one 3 rfl)) rfl (J_gd rfl rfl (R_leq rfl rfl) rfl (J_st (R_pickT rfl rfl) rfl (J_cutEnd ⟨rfl, rfl, rfl, rfl, rfl, rfl, rfl, rfl, rfl, rfl, rfl, rfl, rfl, rfl, rfl, rfl, rfl, rfl, rfl, rfl, rfl, rfl, rfl, rfl, rfl, rfl, rfl, rfl, rfl, congrArg (fun b => some (Value.bool b)) (show (decide (((leastM xs x.op x.epoch x.key).1) ≤ x.val)) = (((leastM xs x.op x.epoch x.key).2) && (decide (((leastM xs x.op x.epoch x.key).1) ≤ x.val))) by first | (rw [hg4] <;> rfl) | (simp [hg4]; done) | (simp only [nat_nlt] <;> simp)), trivial⟩ rfl)))))
     ·refine J_gdno rfl rfl rfl rfl (J_gdno rfl rfl rfl rfl (J_gdno rfl rfl rfl rfl (J_gdno rfl rfl rfl rfl (J_st (R_pickF rfl rfl) rfl (J_cutEnd ⟨rfl, rfl, rfl, rfl, rfl, rfl, rfl, rfl, rfl, rfl, rfl, rfl, rfl, rfl, rfl, rfl, rfl, rfl, rfl, rfl, rfl, rfl, rfl, rfl, rfl, rfl, rfl, rfl, rfl, congrArg (fun b => some (Value.bool b)) (show false = (((leastM xs x.op x.epoch x.key).2) && (decide (((leastM xs x.op x.epoch x.key).1) ≤ x.val))) by first | (rw [hg4] <;> rfl) | (simp [hg4]; done) | (simp only [nat_nlt] <;> simp)), trivial⟩ rfl)))))
    rintro _ rfl
    refine J_done ?_
    refine S_cond rfl (fun hc8 => ?_) (fun hc8 => ?_)
    ·refine S_seq ?_
     refine S_reg [true, true, true] rfl rfl ?_
     refine J_st (R_move rfl) rfl (J_st (R_assign rfl) rfl (J_st (R_assign rfl) rfl (J_done ?_)))
     refine S_ret (E_inB_ret (E_doneN (l := [.tmp 6, .tmp 7]) (vs := [v1, .bool false]) rfl ⟨.tmp rfl, .tmp rfl, trivial⟩ rfl E ?_))
     rw [recallM_b (.inr (by assumption)), betterM_yes (by assumption)]
     exact ⟨_, rfl, Own.fin ho1 (by omega) (by omega) (by first | rfl | simp only [List.nil_append])⟩
    ·refine S_skip ?_
     refine S_seq ?_
     refine S_reg [false, true] rfl rfl ?_
     refine J_buildSlice (vs := []) (css := []) sl28 rfl rfl trivial rfl rfl (fun b5 w17 e11 s5 h5 => ?_)
     replace h5 : Blk w17 b5 [] := h5
     have g_b5 : w.heap.size ≤ b5 := by have := E.size; omega
     have y_b5 := h5.lt
     replace E := E.trans e11; replace h1 := h1.ext e11; replace ho1 := ho1.ext e11
     have z14 := e11.size
     refine J_st (R_assign rfl) rfl (J_done ?_)
     refine S_seq ?_
     refine S_seq ?_
     refine S_reg [true] rfl rfl ?_
     refine J_st (R_assign rfl) rfl (J_done ?_)
     refine S_block ?_
     refine S_loop (fun (xq : Nat × Value) => let ⟨k, vo⟩ := xq; [(1, vxs), (5, .pointer (some ⟨b1, 0, none⟩)), (6, .slice none 0 0), (7, .bool false), (8, v1), (11, vo), (12, .int .i64 ((k : Nat) : Int))]) (fun (xq : Nat × Value) w' => let ⟨k, vo⟩ := xq; Ext w w' ∧ w17.heap.size ≤ w'.heap.size ∧ Blk w' b1 (Enc.enc x) ∧ Own w' b2 w3.heap.size 4 v1 ([] ++ List.flatMap (Enc.enc (α := Cell)) xs) ∧ k ≤ xs.length ∧ Own w' b5 w'.heap.size 4 vo (List.flatMap (Enc.enc (α := Cell)) ((xs.take k).filter (fun y => !(slot x y))))) (fun (xq : Nat × Value) => let ⟨k, vo⟩ := xq; xs.length - k) (0, .slice (some ⟨b5, 0, none⟩) 0 0) ⟨rfl, rfl, rfl, rfl, rfl, rfl, rfl, trivial⟩ ⟨E, Nat.le_refl _, h1, ho1, Nat.zero_le _, Own.fin (Own.ofBlk (lo := b5) (hi := b5 + 1) (sz := 4) h5 (Nat.le_refl _) (Nat.lt_succ_self _) (by simp) (by simp [maxLen])) (by have := E.size; omega) (by omega) rfl⟩ ?_
     clear E h1 ho1 h5
     rintro ⟨k, vo⟩ w18 ⟨E, z15, h1, ho1, hk, ho⟩
     refine S_sub [(1, vxs), (5, .pointer (some ⟨b1, 0, none⟩)), (6, .slice none 0 0), (7, .bool false), (8, v1), (11, vo), (12, .int .i64 ((k : Nat) : Int))] ⟨rfl, rfl, rfl, rfl, rfl, rfl, rfl, trivial⟩ ?_
     refine S_seq ?_
     refine S_seq ?_
     refine S_reg [true, true, true, true] rfl rfl ?_
     refine J_st (R_move rfl) rfl (J_st (R_move rfl) rfl (J_st (R_len Try.underlying28 rfl (hxs.ext E).len) rfl (J_st (R_lss rfl rfl) rfl (J_done ?_))))
     refine S_cond rfl (fun hc9 => ?_) (fun hc9 => ?_)
     ·have hc9n : k < xs.length := by first | (have h := of_decide_eq_true hc9; omega) | (have h := hc9; simp at h; omega)
      refine S_skip ?_
      refine S_seq ?_
      refine S_block ?_
      refine S_seq ?_
      refine S_regD mixed [(0, true), (1, true), (2, true), (3, true), (4, true), (5, true), (6, true), (7, true), (8, true), (9, true), (10, true), (11, true), (12, true), (13, true), (14, true), (15, true), (16, true), (17, true), (18, true), (19, true), (20, true), (21, true), (22, true), (23, true), (24, true), (25, true), (26, true), (27, true)] (by decide +kernel) rfl (fun w19 e12 => ?_)
      replace E := E.trans e12; replace h1 := h1.ext e12; replace ho1 := ho1.ext e12; replace ho := ho.ext e12
      have z16 := e12.size
      refine J_st (R_move rfl) rfl (J_st (R_move rfl) rfl ?_)
      have hi2 : k < xs.length := (by first | assumption | omega | (simp only [List.length_set]; first | assumption | omega) | (simp only [List.getElem_set_self, List.length_set]; first | assumption | omega) | (simp only [setW, setLk, List.length_set]; first | assumption | omega) | (simp; done))
      refine J_st (R_index (i := k) sl28 rfl rfl (hxs.ext E) hi2) rfl (J_st (R_fieldAddr fl74_0 rfl) rfl (J_st (R_load sc3 rfl (((hxs.ext E).get hi2).one 0 rfl)) rfl (J_st (R_fieldAddr0 fl74_0 rfl) rfl (J_st (R_load sc3 rfl (h1.one 0 rfl)) rfl (J_st (R_neq rfl rfl) rfl (J_st (R_move rfl) rfl ?_))))))
      refine J_cut 19 [(1, vxs), (5, .pointer (some ⟨b1, 0, none⟩)), (6, .slice none 0 0), (7, .bool false), (8, v1), (11, vo), (12, .int .i64 ((k : Nat) : Int)), (49, .int .i64 ((k : Nat) : Int)), (50, vxs), (51, .int .i64 ((xs.length : Nat) : Int)), (52, .bool (decide (((k : Nat) : Int) < ((xs.length : Nat) : Int)))), (82, .bool (((((xs[k]'hi2).op) != x.op) || (((xs[k]'hi2).epoch) != x.epoch)) || (((xs[k]'hi2).key) != x.key)))] (fun w' => w19 = w') ?_ ?_
      ·refine J_if (gd := 63) rfl rfl (fun hg5 => ?_) (fun hg5 => ?_)
       ·refine J_gdno rfl rfl rfl rfl (J_gdno rfl rfl rfl rfl (J_gdno rfl rfl rfl rfl (J_gdno rfl rfl rfl rfl (J_gdno rfl rfl rfl rfl (J_gdno rfl rfl rfl rfl (J_gdno rfl rfl rfl rfl (J_gdno rfl rfl rfl rfl (J_st (R_pickT rfl rfl) rfl (J_st (R_move rfl) rfl (J_gdno rfl rfl rfl rfl (J_gdno rfl rfl rfl rfl (J_gdno rfl rfl rfl rfl (J_gdno rfl rfl rfl rfl (J_gdno rfl rfl rfl rfl (J_gdno rfl rfl rfl rfl (J_gdno rfl rfl rfl rfl (J_gdno rfl rfl rfl rfl (J_st (R_pickT rfl rfl) rfl (J_cutEnd ⟨rfl, rfl, rfl, rfl, rfl, rfl, rfl, rfl, rfl, rfl, rfl, congrArg (fun b => some (Value.bool b)) (show true = (((((xs[k]'hi2).op) != x.op) || (((xs[k]'hi2).epoch) != x.epoch)) || (((xs[k]'hi2).key) != x.key)) by first | (rw [hg5] <;> rfl) | (simp [hg5]; done) | (simp only [nat_nlt] <;> simp)), trivial⟩ rfl)))))))))))))))))))
       ·refine J_gd rfl rfl (R_move rfl) rfl (J_gd rfl rfl (R_move rfl) rfl (J_gd rfl rfl (R_index (i := k) sl28 rfl rfl (hxs.ext E) hi2) rfl (J_gd rfl rfl (R_fieldAddr fl74_1 rfl) rfl (J_gd rfl rfl (R_load sc3 rfl (((hxs.ext E).get hi2).one 1 rfl)) rfl (J_gd rfl rfl (R_fieldAddr0 fl74_1 rfl) rfl (J_gd rfl rfl (R_load sc3 rfl (h1.one 1 rfl)) rfl (J_gd rfl rfl (R_neq rfl rfl) rfl (J_st (R_pickF rfl rfl) rfl (J_st (R_move rfl) rfl ?_)))))))))
        refine J_if (gd := 73) rfl rfl (fun hg6 => ?_) (fun hg6 => ?_)
        ·refine J_gdno rfl rfl rfl rfl (J_gdno rfl rfl rfl rfl (J_gdno rfl rfl rfl rfl (J_gdno rfl rfl rfl rfl (J_gdno rfl rfl rfl rfl (J_gdno rfl rfl rfl rfl (J_gdno rfl rfl rfl rfl (J_gdno rfl rfl rfl rfl (J_st (R_pickT rfl rfl) rfl (J_cutEnd ⟨rfl, rfl, rfl, rfl, rfl, rfl, rfl, rfl, rfl, rfl, rfl, congrArg (fun b => some (Value.bool b)) (show true = (((((xs[k]'hi2).op) != x.op) || (((xs[k]'hi2).epoch) != x.epoch)) || (((xs[k]'hi2).key) != x.key)) by first | (rw [hg5, hg6] <;> rfl) | (simp [hg5, hg6]; done) | (simp only [nat_nlt] <;> simp)), trivial⟩ rfl)))))))))
        ·refine J_gd rfl rfl (R_move rfl) rfl (J_gd rfl rfl (R_move rfl) rfl (J_gd rfl rfl (R_index (i := k) sl28 rfl rfl (hxs.ext E) hi2) rfl (J_gd rfl rfl (R_fieldAddr fl74_2 rfl) rfl (J_gd rfl rfl (R_load sc3 rfl (((hxs.ext E).get hi2).one 2 rfl)) rfl (J_gd rfl rfl (R_fieldAddr0 fl74_2 rfl) rfl (J_gd rfl rfl (R_load sc3 rfl (h1.one 2 rfl)) rfl (J_gd rfl rfl (R_neq rfl rfl) rfl (J_st (R_pickF rfl rfl) rfl (J_cutEnd ⟨rfl, rfl, rfl, rfl, rfl, rfl, rfl, rfl, rfl, rfl, rfl, congrArg (fun b => some (Value.bool b)) (show (((xs[k]'hi2).key) != x.key) = (((((xs[k]'hi2).op) != x.op) || (((xs[k]'hi2).epoch) != x.epoch)) || (((xs[k]'hi2).key) != x.key)) by first | (rw [hg5, hg6] <;> rfl) | (simp [hg5, hg6]; done) | (simp only [nat_nlt] <;> simp)), trivial⟩ rfl)))))))))
      rintro _ rfl
      refine J_done ?_
      refine S_cond rfl (fun hc10 => ?_) (fun hc10 => ?_)
      ·refine S_reg [true, true, true, true, true, false, false, true] rfl rfl ?_
       refine J_st (R_move rfl) rfl (J_st (R_move rfl) rfl (J_st (R_move rfl) rfl (J_st (R_index (i := k) sl28 rfl rfl (hxs.ext E) hi2) rfl (J_st (R_loadS st74 rfl ((hxs.ext E).get hi2) rfl) rfl ?_))))
       refine J_buildSlice (vs := [.agg (Enc.enc (xs[k]'hi2)).toArray]) (css := [[.int .i64 ((xs[k]'hi2).op), .int .i64 ((xs[k]'hi2).epoch), .int .i64 ((xs[k]'hi2).key), .int .i64 ((xs[k]'hi2).val)]]) sl28 rfl rfl ⟨⟨rfl, rfl⟩, trivial⟩ rfl rfl (fun b6 w21 e13 s6 h6 => ?_)
       replace h6 : Blk w21 b6 [.int .i64 ((xs[k]'hi2).op), .int .i64 ((xs[k]'hi2).epoch), .int .i64 ((xs[k]'hi2).key), .int .i64 ((xs[k]'hi2).val)] := h6
       have g_b6 : w.heap.size ≤ b6 := by have := E.size; omega
       have y_b6 := h6.lt
       replace E := E.trans e13; replace h1 := h1.ext e13; replace ho1 := ho1.ext e13; replace ho := ho.ext e13
       have z17 := e13.size
       refine J_append sl28 rfl rfl ho (Src.ofBlk h6 rfl) rfl (by first | (simp only [sum_flat, List.length_nil, List.length_cons]; simp only [Enc.sz]; omega) | (have h := filt_len xs (fun y => !(slot x y)) k; simp only [show Enc.sz Cell = 4 from rfl] at h; simp only [List.length_cons, List.length_nil]; omega)) (by decide) (by omega) (by omega) rfl rfl (fun v5 w22 m3 ho5 => ?_)
       replace E := E.step m3 (fun g hg => by have := Own.blk ho g hg; omega); replace h1 := h1.mod m3 (fun g hg => by have := Own.blk ho g hg; omega); replace ho1 := ho1.mod m3 (fun g hg => by have := Own.blk ho g hg; omega)
       have z18 := m3.size
       refine J_st (R_assign rfl) rfl (J_done ?_)
       refine S_nil (E_inB ?_)
       refine S_reg [true, true, true] rfl rfl ?_
       refine J_st (R_move rfl) rfl (J_st (R_add rfl rfl (add_one hc9n hxs.1)) rfl (J_st (R_assign rfl) rfl (J_done ?_)))
       refine S_nil (E_again (k + 1, v5) (by simp; omega) ⟨rfl, rfl, rfl, rfl, rfl, rfl, rfl, trivial⟩ ⟨E, (by omega), h1, ho1, (by omega), Own.fin ho5 (Nat.le_refl _) (by omega) (filt_yes (by assumption) (ns_yes (by assumption)))⟩)
      ·refine S_skip ?_
       refine S_nil (E_inB ?_)
       refine S_reg [true, true, true] rfl rfl ?_
       refine J_st (R_move rfl) rfl (J_st (R_add rfl rfl (add_one hc9n hxs.1)) rfl (J_st (R_assign rfl) rfl (J_done ?_)))
       refine S_nil (E_again (k + 1, vo) (by simp; omega) ⟨rfl, rfl, rfl, rfl, rfl, rfl, rfl, trivial⟩ ⟨E, (by omega), h1, ho1, (by omega), Own.fin ho (Nat.le_refl _) (by omega) (filt_no (by assumption) (ns_no (by assumption)))⟩)
     ·have hc9n : ¬ k < xs.length := by first | (have h := of_decide_eq_false hc9; omega) | (have h := hc9; simp at h; omega)
      refine S_exit (E_lp_exit (E_inB_exit ?_))
      refine S_seq ?_
      refine S_reg [true, true, false, true, true] rfl rfl ?_
      refine J_st (R_move rfl) rfl (J_st (R_loadS st74 rfl h1.at rfl) rfl ?_)
      refine J_call Try.call76 rfl (s_PutCell vo ((xs.take k).filter (fun y => !(slot x y))) x _ (Own.rd (by decide) ho) (by have h1 := List.length_filter_le (fun y => !(slot x y)) (xs.take k); simp only [List.length_take] at h1; omega)) rfl (fun v6 w23 e14 ho6 => ?_)
      have g_ho6 : w.heap.size ≤ w18.heap.size := E.size
      replace E := E.trans e14; replace h1 := h1.ext e14; replace ho1 := ho1.ext e14; replace ho := ho.ext e14
      have z19 := e14.size
      refine J_st (R_assign rfl) rfl (J_st (R_assign rfl) rfl (J_done ?_))
      refine S_ret (E_inB_ret (E_doneN (l := [.tmp 6, .tmp 7]) (vs := [v6, .bool true]) rfl ⟨.tmp rfl, .tmp rfl, trivial⟩ rfl E ?_))
      rw [recallM_b (.inr (by assumption)), betterM_no (by assumption)]
      exact ⟨_, rfl, Own.fin ho6 (by omega) (by omega) (by simp only [List.nil_append, List.take_of_length_le (show xs.length ≤ k by omega)] <;> rfl)⟩
   ·refine S_skip ?_
    refine S_nil (E_inB ?_)
    refine S_seq ?_
    refine S_reg [true, true, true] rfl rfl ?_
    refine J_st (R_move rfl) rfl (J_st (R_assign rfl) rfl (J_st (R_assign rfl) rfl (J_done ?_)))
    refine S_ret (E_doneN (l := [.tmp 6, .tmp 7]) (vs := [v1, .bool true]) rfl ⟨.tmp rfl, .tmp rfl, trivial⟩ rfl E ?_)
    rw [recallM_o (by assumption) (by assumption) (by assumption)]
    exact ⟨_, rfl, Own.fin ho1 (by omega) (by omega) (by first | rfl | simp only [List.nil_append])⟩

set_option maxRecDepth 20000 in
theorem s_l02Less (a : Int) (b : Int) (w : World)  : Ct Try.prog 74 [.int .i64 a, .int .i64 b] w (fun v _ => v = .int .i64 (if b < a then b else a)) := by
 refine ct_of Try.func74 rfl Try.ntmps74 rfl ?_
 refine S_sub [(0, .int .i64 a), (1, .int .i64 b)] ⟨rfl, rfl, trivial⟩ ?_
 have E : Ext w w := Ext.refl w
 refine S_seq ?_
 refine S_reg [true] rfl rfl ?_
 refine J_st (R_assign rfl) rfl (J_done ?_)
 refine S_seq ?_
 refine S_seq ?_
 refine S_reg [true, true, true] rfl rfl ?_
 refine J_st (R_move rfl) rfl (J_st (R_move rfl) rfl (J_st (R_lss rfl rfl) rfl (J_done ?_)))
 refine S_cond rfl (fun hc1 => ?_) (fun hc1 => ?_)
 ·refine S_seq ?_
  refine S_reg [true, true] rfl rfl ?_
  refine J_st (R_move rfl) rfl (J_st (R_assign rfl) rfl (J_done ?_))
  refine S_ret (E_done1 rfl rfl E ?_)
  rw [if_pos (of_decide_eq_true hc1)]
 ·refine S_skip ?_
  refine S_seq ?_
  refine S_reg [true, true] rfl rfl ?_
  refine J_st (R_move rfl) rfl (J_st (R_assign rfl) rfl (J_done ?_))
  refine S_ret (E_done1 rfl rfl E ?_)
  rw [if_neg (of_decide_eq_false hc1)]

set_option maxRecDepth 20000 in
theorem s_Changed (cx : List Value) (x : Node) (a : Int) (b : Int) (w : World) (hx : Dat.R w 0 w.heap.size cx x) : Ct Try.prog 67 [.agg cx.toArray, .int .i64 a, .int .i64 b] w (fun v _ => v = .tuple [.int .i64 ((changedM x a b).1), .int .i64 ((changedM x a b).2.1), .bool ((changedM x a b).2.2)].toArray) := by
 refine ct_of Try.func67 rfl Try.ntmps67 rfl ?_
 obtain ⟨o1, rfl, hd1⟩ := Node.op hx
 refine S_sub [(0, .agg [.int .i64 x.kind, .int .i64 x.a, .int .i64 x.b, o1].toArray), (1, .int .i64 a), (2, .int .i64 b)] ⟨rfl, rfl, rfl, trivial⟩ ?_
 have E : Ext w w := Ext.refl w
 refine S_seq ?_
 refine S_reg [false, true, true, true] rfl rfl ?_
 refine J_box rfl rfl (fun b1 w1 e1 s1 h1 => ?_)
 have g_b1 : w.heap.size ≤ b1 := by have := E.size; omega
 have y_b1 := h1.lt
 replace E := E.trans e1
 have z1 := e1.size
 refine J_st (R_assign rfl) rfl (J_st (R_assign rfl) rfl (J_st (R_assign rfl) rfl (J_done ?_)))
 refine S_seq ?_
 refine S_seq ?_
 refine S_reg [true, false, true, true, true, false, true, true, true, true, false, true, true] rfl rfl ?_
 refine J_st (R_loadS st45 rfl h1.at rfl) rfl ?_
 refine J_call Try.call62 rfl (s_NodeOk [.int .i64 x.kind, .int .i64 x.a, .int .i64 x.b, o1] x _ (Node.mkR x (RdD.any (hd1.ext E)))) rfl (fun _ w2 e2 hv => ?_)
 subst hv
 replace E := E.trans e2; replace h1 := h1.ext e2
 have z2 := e2.size
 refine J_st (R_not rfl) rfl (J_st (R_move rfl) rfl ?_)
 refine J_cut 9 [(0, .agg [.int .i64 x.kind, .int .i64 x.a, .int .i64 x.b, o1].toArray), (1, .int .i64 a), (2, .int .i64 b), (3, .pointer (some ⟨b1, 0, none⟩)), (6, .int .i64 0), (7, .int .i64 0), (8, .bool false), (21, .bool (((!(nodeOk x)) || (!(win a 0 99))) || (!(win b 0 999))))] (fun w' => Ext w w' ∧ w2.heap.size ≤ w'.heap.size ∧ Blk w' b1 ([.int .i64 x.kind, .int .i64 x.a, .int .i64 x.b, o1])) ?_ ?_
 ·refine J_if (gd := 12) rfl rfl (fun hg1 => ?_) (fun hg1 => ?_)
  ·refine J_gdno rfl rfl rfl rfl ?_
   refine J_ungno rfl rfl rfl rfl ?_
   refine J_gdno rfl rfl rfl rfl (J_st (R_pickT rfl rfl) rfl (J_st (R_move rfl) rfl (J_gdno rfl rfl rfl rfl ?_)))
   refine J_ungno rfl rfl rfl rfl ?_
   refine J_gdno rfl rfl rfl rfl (J_st (R_pickT rfl rfl) rfl (J_cutEnd ⟨rfl, rfl, rfl, rfl, rfl, rfl, rfl, congrArg (fun b => some (Value.bool b)) (show true = (((!(nodeOk x)) || (!(win a 0 99))) || (!(win b 0 999))) by first | (rw [hg1] <;> rfl) | (simp [hg1]; done) | (simp only [nat_nlt] <;> simp)), trivial⟩ ⟨E, (by omega), h1⟩))
  ·refine J_gd rfl rfl (R_move rfl) rfl ?_
   refine J_ung rfl rfl ?_
   refine J_call Try.call58 rfl (s_l01In a 0 99 _ ) rfl (fun _ w4 e3 hv => ?_)
   subst hv
   replace E := E.trans e3; replace h1 := h1.ext e3
   have z3 := e3.size
   refine J_gd rfl rfl (R_not rfl) rfl (J_st (R_pickF rfl rfl) rfl (J_st (R_move rfl) rfl ?_))
   refine J_if (gd := 17) rfl rfl (fun hg2 => ?_) (fun hg2 => ?_)
   ·refine J_gdno rfl rfl rfl rfl ?_
    refine J_ungno rfl rfl rfl rfl ?_
    refine J_gdno rfl rfl rfl rfl (J_st (R_pickT rfl rfl) rfl (J_cutEnd ⟨rfl, rfl, rfl, rfl, rfl, rfl, rfl, congrArg (fun b => some (Value.bool b)) (show true = (((!(nodeOk x)) || (!(win a 0 99))) || (!(win b 0 999))) by first | (rw [hg1, hg2] <;> rfl) | (simp [hg1, hg2]; done) | (simp only [nat_nlt] <;> simp)), trivial⟩ ⟨E, (by omega), h1⟩))
   ·refine J_gd rfl rfl (R_move rfl) rfl ?_
    refine J_ung rfl rfl ?_
    refine J_call Try.call58 rfl (s_l01In b 0 999 _ ) rfl (fun _ w5 e4 hv => ?_)
    subst hv
    replace E := E.trans e4; replace h1 := h1.ext e4
    have z4 := e4.size
    refine J_gd rfl rfl (R_not rfl) rfl (J_st (R_pickF rfl rfl) rfl (J_cutEnd ⟨rfl, rfl, rfl, rfl, rfl, rfl, rfl, congrArg (fun b => some (Value.bool b)) (show (!(win b 0 999)) = (((!(nodeOk x)) || (!(win a 0 99))) || (!(win b 0 999))) by first | (rw [hg1, hg2] <;> rfl) | (simp [hg1, hg2]; done) | (simp only [nat_nlt] <;> simp)), trivial⟩ ⟨E, (by omega), h1⟩))
 clear E h1
 rintro w3 ⟨E, z5, h1⟩
 refine J_done ?_
 refine S_cond rfl (fun hc1 => ?_) (fun hc1 => ?_)
 ·replace hc1 := ch_st hc1
  refine S_seq ?_
  refine S_reg [true, true, true, true, true] rfl rfl ?_
  refine J_st (R_move rfl) rfl (J_st (R_move rfl) rfl (J_st (R_assign rfl) rfl (J_st (R_assign rfl) rfl (J_st (R_assign rfl) rfl (J_done ?_)))))
  refine S_ret (E_doneN (l := [.tmp 6, .tmp 7, .tmp 8]) (vs := [.int .i64 a, .int .i64 b, .bool false]) rfl ⟨.tmp rfl, .tmp rfl, .tmp rfl, trivial⟩ rfl E ?_)
  rw [ch_0 (by assumption)]
 ·replace hc1 := ch_s hc1
  have hno := ch_ok hc1
  refine S_skip ?_
  refine S_seq ?_
  refine S_seq ?_
  refine S_reg [true, true] rfl rfl ?_
  refine J_st (R_fieldAddr0 fl45_0 rfl) rfl (J_st (R_load sc3 rfl (h1.one 0 rfl)) rfl (J_done ?_))
  refine S_block ?_
  refine S_seq ?_
  refine S_reg [true, true] rfl rfl ?_
  refine J_st (R_eql rfl rfl) rfl (J_st (R_assign rfl) rfl (J_done ?_))
  refine S_cond rfl (fun hc2 => ?_) (fun hc2 => ?_)
  ·refine S_seq ?_
   refine S_reg [true, true, true, true, true, false, true, true, true] rfl rfl ?_
   refine J_st (R_move rfl) rfl (J_st (R_move rfl) rfl (J_st (R_fieldAddr0 fl45_1 rfl) rfl (J_st (R_load sc3 rfl (h1.one 1 rfl)) rfl (J_st (R_add rfl rfl rfl) rfl ?_))))
   refine J_call Try.call74 rfl (s_l02Less (IntKind.i64.wrap (b + x.a)) 999 _ ) rfl (fun _ w6 e5 hv => ?_)
   subst hv
   replace E := E.trans e5; replace h1 := h1.ext e5
   have z6 := e5.size
   refine J_st (R_assign rfl) rfl (J_st (R_assign rfl) rfl (J_st (R_assign rfl) rfl (J_done ?_)))
   refine S_ret (E_inB_ret (E_doneN (l := [.tmp 6, .tmp 7, .tmp 8]) (vs := [.int .i64 a, .int .i64 (if 999 < (IntKind.i64.wrap (b + x.a)) then 999 else (IntKind.i64.wrap (b + x.a))), .bool true]) rfl ⟨.tmp rfl, .tmp rfl, .tmp rfl, trivial⟩ rfl E ?_))
   rw [ch_2 (by assumption) (by assumption), min_999]
  ·refine S_seq ?_
   refine S_reg [true, true] rfl rfl ?_
   refine J_st (R_eql rfl rfl) rfl (J_st (R_assign rfl) rfl (J_done ?_))
   refine S_cond rfl (fun hc3 => ?_) (fun hc3 => ?_)
   ·refine S_seq ?_
    refine S_reg [true, true, true, true, true, true, true, true, true] rfl rfl ?_
    refine J_st (R_move rfl) rfl (J_st (R_fieldAddr0 fl45_1 rfl) rfl (J_st (R_load sc3 rfl (h1.one 1 rfl)) rfl (J_st (R_add rfl rfl rfl) rfl (J_st (R_rem rfl rfl (by decide) rfl) rfl (J_st (R_move rfl) rfl (J_st (R_assign rfl) rfl (J_st (R_assign rfl) rfl (J_st (R_assign rfl) rfl (J_done ?_)))))))))
    refine S_ret (E_inB_ret (E_doneN (l := [.tmp 6, .tmp 7, .tmp 8]) (vs := [.int .i64 (Int.tmod (IntKind.i64.wrap (a + x.a)) 100), .int .i64 b, .bool true]) rfl ⟨.tmp rfl, .tmp rfl, .tmp rfl, trivial⟩ rfl E ?_))
    rw [ch_4 (by assumption) (by assumption)]
   ·refine S_seq ?_
    refine S_reg [true, true] rfl rfl ?_
    refine J_st (R_eql rfl rfl) rfl (J_st (R_assign rfl) rfl (J_done ?_))
    refine S_cond rfl (fun hc4 => ?_) (fun hc4 => ?_)
    ·have hna := node_a3 hno hc4
     refine S_seq ?_
     refine S_regD mixed [(0, true), (1, true), (2, true), (3, true), (4, true), (5, true), (6, true), (7, true), (8, true), (9, true), (10, true), (11, true)] (by decide +kernel) rfl (fun w7 e6 => ?_)
     replace E := E.trans e6; replace h1 := h1.ext e6
     have z7 := e6.size
     refine J_st (R_move rfl) rfl (J_st (R_move rfl) rfl (J_st (R_move rfl) rfl (J_st (R_fieldAddr0 fl45_1 rfl) rfl (J_st (R_load sc3 rfl (h1.one 1 rfl)) rfl (J_st (R_rem rfl rfl (by omega) rfl) rfl (J_st (R_fieldAddr0 fl45_2 rfl) rfl (J_st (R_load sc3 rfl (h1.one 2 rfl)) rfl (J_st (R_eql rfl rfl) rfl (J_st (R_assign rfl) rfl (J_st (R_assign rfl) rfl (J_st (R_assign rfl) rfl (J_done ?_))))))))))))
     refine S_ret (E_inB_ret (E_doneN (l := [.tmp 6, .tmp 7, .tmp 8]) (vs := [.int .i64 a, .int .i64 b, .bool ((Int.tmod a x.a) == x.b)]) rfl ⟨.tmp rfl, .tmp rfl, .tmp rfl, trivial⟩ rfl E ?_))
     rw [ch_3 (by assumption) (by assumption)]
    ·refine S_skip ?_
     refine S_nil (E_inB ?_)
     refine S_seq ?_
     refine S_regD mixed [(0, true), (1, true), (2, true), (3, true), (4, true), (5, true), (6, true), (7, true)] (by decide +kernel) rfl (fun w8 e7 => ?_)
     replace E := E.trans e7; replace h1 := h1.ext e7
     have z8 := e7.size
     refine J_st (R_move rfl) rfl (J_st (R_move rfl) rfl (J_st (R_fieldAddr0 fl45_0 rfl) rfl (J_st (R_load sc3 rfl (h1.one 0 rfl)) rfl (J_st (R_neq rfl rfl) rfl (J_st (R_assign rfl) rfl (J_st (R_assign rfl) rfl (J_st (R_assign rfl) rfl (J_done ?_))))))))
     refine S_ret (E_doneN (l := [.tmp 6, .tmp 7, .tmp 8]) (vs := [.int .i64 a, .int .i64 b, .bool (x.kind != 8)]) rfl ⟨.tmp rfl, .tmp rfl, .tmp rfl, trivial⟩ rfl E ?_)
     rw [ch_o (by assumption) (by assumption) (by assumption) (by assumption)]

set_option maxHeartbeats 4000000 in
set_option maxRecDepth 20000 in
theorem s_Unstaged (cx : List Value) (x : Worker) (w : World) (hx : Dat.R w 0 w.heap.size cx x) (hb : cntWorker x ≤ 1048576) : Ct Try.prog 47 [.agg cx.toArray] w (fun v w' => ∃ c0, v = .tuple [.agg c0.toArray, .agg (Enc.enc ((unstM x).2.1)).toArray, .bool ((unstM x).2.2)].toArray ∧ Own1.O w' w.heap.size w'.heap.size c0 ((unstM x).1)) := by
 refine ct_of Try.func47 rfl Try.ntmps47 rfl ?_
 obtain ⟨o1, o2, o3, o4, o5, o6, o7, o8, rfl, hd1, hd2, hd3, hd4, hd5, hd6, hd7, hd8⟩ := Worker.op hx
 refine S_sub [(0, .agg [o1, o2, o3, o4, o5, o6, o7, o8].toArray)] ⟨rfl, trivial⟩ ?_
 have E : Ext w w := Ext.refl w
 refine S_seq ?_
 refine S_reg [false, false, false, true] rfl rfl ?_
 refine J_box rfl rfl (fun b1 w1 e1 s1 h1 => ?_)
 have g_b1 : w.heap.size ≤ b1 := by have := E.size; omega
 have y_b1 := h1.lt
 replace E := E.trans e1
 have z1 := e1.size
 refine J_alloc st33 rfl (fun b2 w2 e2 s2 h2 => ?_)
 have g_b2 : w.heap.size ≤ b2 := by have := E.size; omega
 have y_b2 := h2.lt
 replace E := E.trans e2; replace h1 := h1.ext e2
 have z2 := e2.size
 refine J_alloc st43 rfl (fun b3 w3 e3 s3 h3 => ?_)
 have g_b3 : w.heap.size ≤ b3 := by have := E.size; omega
 have y_b3 := h3.lt
 replace E := E.trans e3; replace h1 := h1.ext e3; replace h2 := h2.ext e3
 have z3 := e3.size
 refine J_st (R_assign rfl) rfl (J_done ?_)
 refine S_seq ?_
 refine S_reg [true, false, false] rfl rfl ?_
 refine J_st (R_loadS st33 rfl h1.at rfl) rfl ?_
 refine J_call Try.call17 rfl (s_l12Copy [o1, o2, o3, o4, o5, o6, o7, o8] x _ (Worker.mkR x (RdD.any (hd1.ext E)) (RdD.any (hd2.ext E)) (RdD.any (hd3.ext E)) (RdD.any (hd4.ext E)) (RdD.any (hd5.ext E)) (RdD.any (hd6.ext E)) (RdD.any (hd7.ext E)) (RdD.any (hd8.ext E))) (by first | omega | (simp only [mkL_length]; omega) | (rw [mkL_length]; done) | (simp only [mkL_length]; done))) rfl (fun _ w4 e4 ho1 => ?_)
 obtain ⟨_, rfl, ho1⟩ := ho1
 have g_ho1 : w.heap.size ≤ w3.heap.size := E.size
 replace E := E.trans e4; replace h1 := h1.ext e4; replace h2 := h2.ext e4; replace h3 := h3.ext e4
 have z4 := e4.size
 obtain ⟨o9, o10, o11, o12, o13, o14, o15, o16, rfl, sp1, hw1, hw2, hw3, hw4, hw5, hw6, hw7, hw8⟩ := Worker.opO ho1
 refine J_storeS' (cs' := [o9, o10, o11, o12, o13, o14, o15, o16]) st33 rfl rfl rfl (all_cons hw1.one (all_cons hw2.one (all_cons hw3.one (all_cons hw4.one (all_cons hw5.one (all_cons hw6.one (all_cons hw7.one (all_cons hw8.one rfl)))))))) h1 (Nat.le_of_ble_eq_true rfl) rfl (fun w5 m1 h1' => ?_)
 replace h1 := h1'
 replace E := E.step m1 (fun g hg => by cases hg; omega); replace h2 := h2.mod m1 (fun g hg => by cases hg; omega); replace h3 := h3.mod m1 (fun g hg => by cases hg; omega); replace hw1 := hw1.mod m1 (fun g hg => by cases hg; omega); replace hw2 := hw2.mod m1 (fun g hg => by cases hg; omega); replace hw3 := hw3.mod m1 (fun g hg => by cases hg; omega); replace hw4 := hw4.mod m1 (fun g hg => by cases hg; omega); replace hw5 := hw5.mod m1 (fun g hg => by cases hg; omega); replace hw6 := hw6.mod m1 (fun g hg => by cases hg; omega); replace hw7 := hw7.mod m1 (fun g hg => by cases hg; omega); replace hw8 := hw8.mod m1 (fun g hg => by cases hg; omega)
 have z5 := m1.size
 refine J_done ?_
 refine S_seq ?_
 refine S_seq ?_
 refine S_reg [true, true, true, true] rfl rfl ?_
 refine J_st (R_fieldAddr0 fl33_1 rfl) rfl (J_st (R_load sc27 rfl (h1.one 1 rfl)) rfl (J_st (R_len Try.underlying27 rfl (Own.len (by decide) hw2)) rfl (J_st (R_eql rfl rfl) rfl (J_done ?_))))
 refine S_cond rfl (fun hc1 => ?_) (fun hc1 => ?_)
 ·have hc1n : x.staged.length = 0 := by first | (have h := of_decide_eq_true hc1; omega) | (have h := hc1; simp at h; omega)
  refine S_seq ?_
  refine S_reg [true, true, false, false, true] rfl rfl ?_
  refine J_st (R_loadS st33 rfl h1.at rfl) rfl (J_st (R_build (⟨0, (⟨0, 0⟩ : Stamp), 0, 0⟩ : Record) rfl (fun _ => by kernel_rfl)) rfl ?_)
  refine J_storeS' (cs' := [o9, o10, o11, o12, o13, o14, o15, o16]) st33 rfl rfl rfl (all_cons hw1.one (all_cons hw2.one (all_cons hw3.one (all_cons hw4.one (all_cons hw5.one (all_cons hw6.one (all_cons hw7.one (all_cons hw8.one rfl)))))))) h2 (Nat.le_of_ble_eq_true rfl) rfl (fun w6 m2 h2' => ?_)
  replace h2 := h2'
  replace E := E.step m2 (fun g hg => by cases hg; omega); replace h1 := h1.mod m2 (fun g hg => by cases hg; omega); replace h3 := h3.mod m2 (fun g hg => by cases hg; omega); replace hw1 := hw1.mod m2 (fun g hg => by cases hg; omega); replace hw2 := hw2.mod m2 (fun g hg => by cases hg; omega); replace hw3 := hw3.mod m2 (fun g hg => by cases hg; omega); replace hw4 := hw4.mod m2 (fun g hg => by cases hg; omega); replace hw5 := hw5.mod m2 (fun g hg => by cases hg; omega); replace hw6 := hw6.mod m2 (fun g hg => by cases hg; omega); replace hw7 := hw7.mod m2 (fun g hg => by cases hg; omega); replace hw8 := hw8.mod m2 (fun g hg => by cases hg; omega)
  have z6 := m2.size
  refine J_storeS' (cs' := [.int .i64 ((⟨0, (⟨0, 0⟩ : Stamp), 0, 0⟩ : Record).op), .int .i64 (((⟨0, (⟨0, 0⟩ : Stamp), 0, 0⟩ : Record).stamp).epoch), .int .i64 (((⟨0, (⟨0, 0⟩ : Stamp), 0, 0⟩ : Record).stamp).turn), .int .i64 ((⟨0, (⟨0, 0⟩ : Stamp), 0, 0⟩ : Record).key), .int .i64 ((⟨0, (⟨0, 0⟩ : Stamp), 0, 0⟩ : Record).val)]) st43 rfl rfl rfl rfl h3 (Nat.le_of_ble_eq_true rfl) rfl (fun w7 m3 h3' => ?_)
  replace h3 := h3'
  replace E := E.step m3 (fun g hg => by cases hg; omega); replace h1 := h1.mod m3 (fun g hg => by cases hg; omega); replace h2 := h2.mod m3 (fun g hg => by cases hg; omega); replace hw1 := hw1.mod m3 (fun g hg => by cases hg; omega); replace hw2 := hw2.mod m3 (fun g hg => by cases hg; omega); replace hw3 := hw3.mod m3 (fun g hg => by cases hg; omega); replace hw4 := hw4.mod m3 (fun g hg => by cases hg; omega); replace hw5 := hw5.mod m3 (fun g hg => by cases hg; omega); replace hw6 := hw6.mod m3 (fun g hg => by cases hg; omega); replace hw7 := hw7.mod m3 (fun g hg => by cases hg; omega); replace hw8 := hw8.mod m3 (fun g hg => by cases hg; omega)
  have z7 := m3.size
  refine J_st (R_assign rfl) rfl (J_done ?_)
  refine S_ret (E_doneN (l := [.cell 2 33, .cell 3 43, .tmp 4]) (vs := [.agg [o9, o10, o11, o12, o13, o14, o15, o16].toArray, .agg (Enc.enc (⟨0, (⟨0, 0⟩ : Stamp), 0, 0⟩ : Record)).toArray, .bool false]) rfl ⟨.cell rfl (run_loadVar_st st33 h2.at rfl), .cell rfl (run_loadVar_st st43 h3.at rfl), .tmp rfl, trivial⟩ rfl E ?_)
  rw [unst_no hc1]
  exact ⟨_, rfl, (Worker.mkO x sp1 (Own.widen hw1 (by omega) (by omega)) (Own.widen hw2 (by omega) (by omega)) (Own.widen hw3 (by omega) (by omega)) (Own.widen hw4 (by omega) (by omega)) (Own.widen hw5 (by omega) (by omega)) (Own.widen hw6 (by omega) (by omega)) (Own.widen hw7 (by omega) (by omega)) (Own.widen hw8 (by omega) (by omega)))⟩
 ·have hsl := unst_lt hc1
  have hc1n : ¬ x.staged.length = 0 := by first | (have h := of_decide_eq_false hc1; omega) | (have h := hc1; simp at h; omega)
  refine S_skip ?_
  refine S_seq ?_
  refine S_reg [true, true, true, true, false, false] rfl rfl ?_
  refine J_st (R_fieldAddr0 fl33_1 rfl) rfl (J_st (R_load sc27 rfl (h1.one 1 rfl)) rfl ?_)
  have hi1 : 0 < x.staged.length := (by first | assumption | omega | (simp only [List.length_set]; first | assumption | omega) | (simp only [List.getElem_set_self, List.length_set]; first | assumption | omega) | (simp only [setW, setLk, List.length_set]; first | assumption | omega) | (simp; done))
  refine J_st (R_index (i := 0) sl27 rfl rfl (Own.rd (by decide) hw2) hi1) rfl (J_st (R_loadS st43 rfl ((Own.rd (by decide) hw2).get hi1) rfl) rfl ?_)
  refine J_alloc st43 rfl (fun b4 w8 e5 s4 h4 => ?_)
  have g_b4 : w.heap.size ≤ b4 := by have := E.size; omega
  have y_b4 := h4.lt
  replace E := E.trans e5; replace h1 := h1.ext e5; replace h2 := h2.ext e5; replace h3 := h3.ext e5; replace hw1 := hw1.ext e5; replace hw2 := hw2.ext e5; replace hw3 := hw3.ext e5; replace hw4 := hw4.ext e5; replace hw5 := hw5.ext e5; replace hw6 := hw6.ext e5; replace hw7 := hw7.ext e5; replace hw8 := hw8.ext e5
  have z8 := e5.size
  refine J_storeS' (cs' := [.int .i64 ((x.staged[0]'hi1).op), .int .i64 (((x.staged[0]'hi1).stamp).epoch), .int .i64 (((x.staged[0]'hi1).stamp).turn), .int .i64 ((x.staged[0]'hi1).key), .int .i64 ((x.staged[0]'hi1).val)]) st43 rfl rfl rfl rfl h4 (Nat.le_of_ble_eq_true rfl) rfl (fun w9 m4 h4' => ?_)
  replace h4 := h4'
  replace E := E.step m4 (fun g hg => by cases hg; omega); replace h1 := h1.mod m4 (fun g hg => by cases hg; omega); replace h2 := h2.mod m4 (fun g hg => by cases hg; omega); replace h3 := h3.mod m4 (fun g hg => by cases hg; omega); replace hw1 := hw1.mod m4 (fun g hg => by cases hg; omega); replace hw2 := hw2.mod m4 (fun g hg => by cases hg; omega); replace hw3 := hw3.mod m4 (fun g hg => by cases hg; omega); replace hw4 := hw4.mod m4 (fun g hg => by cases hg; omega); replace hw5 := hw5.mod m4 (fun g hg => by cases hg; omega); replace hw6 := hw6.mod m4 (fun g hg => by cases hg; omega); replace hw7 := hw7.mod m4 (fun g hg => by cases hg; omega); replace hw8 := hw8.mod m4 (fun g hg => by cases hg; omega)
  have z9 := m4.size
  refine J_done ?_
  refine S_seq ?_
  refine S_reg [false, true, true, true, false, true, false] rfl rfl ?_
  refine J_buildSlice (vs := []) (css := []) sl27 rfl rfl trivial rfl rfl (fun b5 w10 e6 s5 h5 => ?_)
  replace h5 : Blk w10 b5 [] := h5
  have g_b5 : w.heap.size ≤ b5 := by have := E.size; omega
  have y_b5 := h5.lt
  replace E := E.trans e6; replace h1 := h1.ext e6; replace h2 := h2.ext e6; replace h3 := h3.ext e6; replace hw1 := hw1.ext e6; replace hw2 := hw2.ext e6; replace hw3 := hw3.ext e6; replace hw4 := hw4.ext e6; replace hw5 := hw5.ext e6; replace hw6 := hw6.ext e6; replace hw7 := hw7.ext e6; replace hw8 := hw8.ext e6; replace h4 := h4.ext e6
  have z10 := e6.size
  refine J_st (R_fieldAddr0 fl33_1 rfl) rfl (J_st (R_load sc27 rfl (h1.one 1 rfl)) rfl ?_)
  have hk1 : 1 ≤ x.staged.length := by first | assumption | omega
  have hs1 := Own.slFromE (α := Record) hw2 hk1
  replace hs1 : Own w10 w3.heap.size w4.heap.size 5 (slFrom o10 1 5) (List.flatMap (Enc.enc (α := Record)) (List.drop 1 x.staged)) := hs1
  have hb1 : Become w10 o10 (slFrom o10 1 5) := fun g hg => .inl (by rwa [slFrom_blk] at hg)
  replace sp1 := SepL.set hb1 1 rfl sp1 ⟨(Own.lt hw1), (Own.lt hw2), (Own.lt hw3), (Own.lt hw4), (Own.lt hw5), (Own.lt hw6), (Own.lt hw7), (Own.lt hw8), trivial⟩
  replace sp1 : SepL [o9, slFrom o10 1 5, o11, o12, o13, o14, o15, o16] := sp1
  refine J_st (R_sliceFrom sl27 rfl rfl (Own.roomE (α := Record) hw2) hk1) rfl ?_
  refine J_append sl27 rfl rfl (Own.ofBlk (lo := b5) (hi := b5 + 1) (sz := 5) h5 (Nat.le_refl _) (Nat.lt_succ_self _) (by simp) (by simp [maxLen])) (Own.src hs1) (flat_one _) (by unfold cntWorker at hb; simp only [sum_flat, List.length_nil, List.length_drop]; simp only [Enc.sz]; omega) (by decide) (by omega) (by omega) rfl rfl (fun v1 w11 m5 ho2 => ?_)
  replace E := E.step m5 (fun g hg => by have := Own.blk (Own.ofBlk (lo := b5) (hi := b5 + 1) (sz := 5) h5 (Nat.le_refl _) (Nat.lt_succ_self _) (by simp) (by simp [maxLen])) g hg; omega); replace h1 := h1.mod m5 (fun g hg => by have := Own.blk (Own.ofBlk (lo := b5) (hi := b5 + 1) (sz := 5) h5 (Nat.le_refl _) (Nat.lt_succ_self _) (by simp) (by simp [maxLen])) g hg; omega); replace h2 := h2.mod m5 (fun g hg => by have := Own.blk (Own.ofBlk (lo := b5) (hi := b5 + 1) (sz := 5) h5 (Nat.le_refl _) (Nat.lt_succ_self _) (by simp) (by simp [maxLen])) g hg; omega); replace h3 := h3.mod m5 (fun g hg => by have := Own.blk (Own.ofBlk (lo := b5) (hi := b5 + 1) (sz := 5) h5 (Nat.le_refl _) (Nat.lt_succ_self _) (by simp) (by simp [maxLen])) g hg; omega); replace hw1 := hw1.mod m5 (fun g hg => by have := Own.blk (Own.ofBlk (lo := b5) (hi := b5 + 1) (sz := 5) h5 (Nat.le_refl _) (Nat.lt_succ_self _) (by simp) (by simp [maxLen])) g hg; omega); replace hw3 := hw3.mod m5 (fun g hg => by have := Own.blk (Own.ofBlk (lo := b5) (hi := b5 + 1) (sz := 5) h5 (Nat.le_refl _) (Nat.lt_succ_self _) (by simp) (by simp [maxLen])) g hg; omega); replace hw4 := hw4.mod m5 (fun g hg => by have := Own.blk (Own.ofBlk (lo := b5) (hi := b5 + 1) (sz := 5) h5 (Nat.le_refl _) (Nat.lt_succ_self _) (by simp) (by simp [maxLen])) g hg; omega); replace hw5 := hw5.mod m5 (fun g hg => by have := Own.blk (Own.ofBlk (lo := b5) (hi := b5 + 1) (sz := 5) h5 (Nat.le_refl _) (Nat.lt_succ_self _) (by simp) (by simp [maxLen])) g hg; omega); replace hw6 := hw6.mod m5 (fun g hg => by have := Own.blk (Own.ofBlk (lo := b5) (hi := b5 + 1) (sz := 5) h5 (Nat.le_refl _) (Nat.lt_succ_self _) (by simp) (by simp [maxLen])) g hg; omega); replace hw7 := hw7.mod m5 (fun g hg => by have := Own.blk (Own.ofBlk (lo := b5) (hi := b5 + 1) (sz := 5) h5 (Nat.le_refl _) (Nat.lt_succ_self _) (by simp) (by simp [maxLen])) g hg; omega); replace hw8 := hw8.mod m5 (fun g hg => by have := Own.blk (Own.ofBlk (lo := b5) (hi := b5 + 1) (sz := 5) h5 (Nat.le_refl _) (Nat.lt_succ_self _) (by simp) (by simp [maxLen])) g hg; omega); replace h4 := h4.mod m5 (fun g hg => by have := Own.blk (Own.ofBlk (lo := b5) (hi := b5 + 1) (sz := 5) h5 (Nat.le_refl _) (Nat.lt_succ_self _) (by simp) (by simp [maxLen])) g hg; omega); replace hs1 := hs1.mod m5 (fun g hg => by have := Own.blk (Own.ofBlk (lo := b5) (hi := b5 + 1) (sz := 5) h5 (Nat.le_refl _) (Nat.lt_succ_self _) (by simp) (by simp [maxLen])) g hg; omega)
  have z11 := m5.size
  refine J_st (R_fieldAddr0 fl33_1 rfl) rfl ?_
  refine J_store' (cs' := [o9, v1, o11, o12, o13, o14, o15, o16]) sc27 rfl rfl ho2.one h1 (Nat.le_of_ble_eq_true rfl) rfl (fun w12 m6 h1' => ?_)
  replace h1 := h1'
  replace E := E.step m6 (fun g hg => by cases hg; omega); replace h2 := h2.mod m6 (fun g hg => by cases hg; omega); replace h3 := h3.mod m6 (fun g hg => by cases hg; omega); replace hw1 := hw1.mod m6 (fun g hg => by cases hg; omega); replace hw3 := hw3.mod m6 (fun g hg => by cases hg; omega); replace hw4 := hw4.mod m6 (fun g hg => by cases hg; omega); replace hw5 := hw5.mod m6 (fun g hg => by cases hg; omega); replace hw6 := hw6.mod m6 (fun g hg => by cases hg; omega); replace hw7 := hw7.mod m6 (fun g hg => by cases hg; omega); replace hw8 := hw8.mod m6 (fun g hg => by cases hg; omega); replace h4 := h4.mod m6 (fun g hg => by cases hg; omega); replace hs1 := hs1.mod m6 (fun g hg => by cases hg; omega); replace ho2 := ho2.mod m6 (fun g hg => by cases hg; omega)
  have z12 := m6.size
  refine J_done ?_
  refine S_seq ?_
  refine S_regS mixed 2 [2, 24] [(0, true)] [(1, true)] [(3, false), (4, true)] (by decide +kernel) rfl rfl rfl rfl rfl rfl rfl [(0, .agg [o1, o2, o3, o4, o5, o6, o7, o8].toArray), (1, .pointer (some ⟨b1, 0, none⟩)), (2, .pointer (some ⟨b2, 0, none⟩)), (3, .pointer (some ⟨b3, 0, none⟩)), (4, .bool false), (5, .pointer (some ⟨b4, 0, none⟩)), (6, .agg [o1, o2, o3, o4, o5, o6, o7, o8].toArray), (7, .agg [o9, o10, o11, o12, o13, o14, o15, o16].toArray), (8, .pointer (some ⟨b1, 1, none⟩)), (9, o10), (10, .int .i64 ((x.staged.length : Nat) : Int)), (11, .bool (((x.staged.length : Nat) : Int) == 0)), (14, .pointer (some ⟨b1, 1, none⟩)), (15, o10), (16, .pointer (some ⟨sblk o10, soff o10 + 0 * 5, none⟩)), (17, .agg (Enc.enc (x.staged[0]'hi1)).toArray), (18, .slice (some ⟨b5, 0, none⟩) 0 0), (19, .pointer (some ⟨b1, 1, none⟩)), (20, o10), (21, slFrom o10 1 5), (22, v1), (23, .pointer (some ⟨b1, 1, none⟩)), (24, .agg [o9, v1, o11, o12, o13, o14, o15, o16].toArray)] [(2, .pointer (some ⟨b2, 0, none⟩)), (24, .agg [o9, v1, o11, o12, o13, o14, o15, o16].toArray)] rfl ⟨rfl, rfl, trivial⟩ (fun w' => Ext w w' ∧ w12.heap.size ≤ w'.heap.size ∧ Blk w' b1 [o9, v1, o11, o12, o13, o14, o15, o16] ∧ Blk w' b2 [.slice none 0 0, .slice none 0 0, .slice none 0 0, .slice none 0 0, .slice none 0 0, .slice none 0 0, .slice none 0 0, .slice none 0 0] ∧ Blk w' b3 [.int .i64 0, .int .i64 0, .int .i64 0, .int .i64 0, .int .i64 0] ∧ Own w' w3.heap.size w4.heap.size 5 o9 (List.flatMap (Enc.enc (α := Record)) x.queue) ∧ Own w' w3.heap.size w4.heap.size 5 o11 (List.flatMap (Enc.enc (α := Record)) x.inputs) ∧ Own w' w3.heap.size w4.heap.size 4 o12 (List.flatMap (Enc.enc (α := Cell)) x.cells) ∧ Own w' w3.heap.size w4.heap.size 1 o13 (List.flatMap (Enc.enc (α := Int)) x.sums) ∧ Own w' w3.heap.size w4.heap.size 1 o14 (List.flatMap (Enc.enc (α := Bool)) x.black) ∧ Own w' w3.heap.size w4.heap.size 1 o15 (List.flatMap (Enc.enc (α := Bool)) x.caps) ∧ Own w' w3.heap.size w4.heap.size 2 o16 (List.flatMap (Enc.enc (α := Done)) x.dones) ∧ Blk w' b4 [.int .i64 ((x.staged[0]'hi1).op), .int .i64 (((x.staged[0]'hi1).stamp).epoch), .int .i64 (((x.staged[0]'hi1).stamp).turn), .int .i64 ((x.staged[0]'hi1).key), .int .i64 ((x.staged[0]'hi1).val)] ∧ Own w' w3.heap.size w4.heap.size 5 (slFrom o10 1 5) (List.flatMap (Enc.enc (α := Record)) (List.drop 1 x.staged)) ∧ Own w' b5 w11.heap.size 5 v1 ([] ++ List.flatMap (Enc.enc (α := Record)) (List.drop 1 x.staged))) b2 (fun w' => Blk w' b2 [o9, v1, o11, o12, o13, o14, o15, o16]) (fun w13 e7 => ?_) (fun w13 hphi_w13 => ?_)
  ·replace E := E.trans e7; replace h1 := h1.ext e7; replace h2 := h2.ext e7; replace h3 := h3.ext e7; replace hw1 := hw1.ext e7; replace hw3 := hw3.ext e7; replace hw4 := hw4.ext e7; replace hw5 := hw5.ext e7; replace hw6 := hw6.ext e7; replace hw7 := hw7.ext e7; replace hw8 := hw8.ext e7; replace h4 := h4.ext e7; replace hs1 := hs1.ext e7; replace ho2 := ho2.ext e7
   have z13 := e7.size
   refine J_st (R_loadS st33 rfl h1.at rfl) rfl (J_cutEnd ⟨rfl, rfl, rfl, rfl, rfl, rfl, rfl, rfl, rfl, rfl, rfl, rfl, rfl, rfl, rfl, rfl, rfl, rfl, rfl, rfl, rfl, rfl, rfl, trivial⟩ ⟨E, (by omega), h1, h2, h3, hw1, hw3, hw4, hw5, hw6, hw7, hw8, h4, hs1, ho2⟩)
  clear E h1 h2 h3 hw1 hw3 hw4 hw5 hw6 hw7 hw8 h4 hs1 ho2
  obtain ⟨E, z14, h1, h2, h3, hw1, hw3, hw4, hw5, hw6, hw7, hw8, h4, hs1, ho2⟩ := hphi_w13
  refine ⟨fs_store (cs' := [o9, v1, o11, o12, o13, o14, o15, o16]) st33 rfl rfl rfl (all_cons hw1.one (all_cons ho2.one (all_cons hw3.one (all_cons hw4.one (all_cons hw5.one (all_cons hw6.one (all_cons hw7.one (all_cons hw8.one rfl)))))))) h2 (Nat.le_of_ble_eq_true rfl) rfl, ?_⟩
  refine JS_st (v := .agg (Enc.enc (x.staged[0]'hi1)).toArray) (fun wX mX => ?_) rfl ?_
  ·have E := E.step mX (fun g hg => by cases hg; omega); replace h4 := h4.mod mX (fun g hg => by cases hg; omega); exact R_loadS st43 rfl h4.at rfl
  refine JS_end (fun w14 m7 hR => ?_)
  replace h2 := hR
  clear hR
  replace E := E.step m7 (fun g hg => by cases hg; omega); replace h1 := h1.mod m7 (fun g hg => by cases hg; omega); replace h3 := h3.mod m7 (fun g hg => by cases hg; omega); replace hw1 := hw1.mod m7 (fun g hg => by cases hg; omega); replace hw3 := hw3.mod m7 (fun g hg => by cases hg; omega); replace hw4 := hw4.mod m7 (fun g hg => by cases hg; omega); replace hw5 := hw5.mod m7 (fun g hg => by cases hg; omega); replace hw6 := hw6.mod m7 (fun g hg => by cases hg; omega); replace hw7 := hw7.mod m7 (fun g hg => by cases hg; omega); replace hw8 := hw8.mod m7 (fun g hg => by cases hg; omega); replace h4 := h4.mod m7 (fun g hg => by cases hg; omega); replace hs1 := hs1.mod m7 (fun g hg => by cases hg; omega); replace ho2 := ho2.mod m7 (fun g hg => by cases hg; omega)
  have z15 := m7.size
  refine J_storeS' (cs' := [.int .i64 ((x.staged[0]'hi1).op), .int .i64 (((x.staged[0]'hi1).stamp).epoch), .int .i64 (((x.staged[0]'hi1).stamp).turn), .int .i64 ((x.staged[0]'hi1).key), .int .i64 ((x.staged[0]'hi1).val)]) st43 rfl rfl rfl rfl h3 (Nat.le_of_ble_eq_true rfl) rfl (fun w15 m8 h3' => ?_)
  replace h3 := h3'
  replace E := E.step m8 (fun g hg => by cases hg; omega); replace h1 := h1.mod m8 (fun g hg => by cases hg; omega); replace h2 := h2.mod m8 (fun g hg => by cases hg; omega); replace hw1 := hw1.mod m8 (fun g hg => by cases hg; omega); replace hw3 := hw3.mod m8 (fun g hg => by cases hg; omega); replace hw4 := hw4.mod m8 (fun g hg => by cases hg; omega); replace hw5 := hw5.mod m8 (fun g hg => by cases hg; omega); replace hw6 := hw6.mod m8 (fun g hg => by cases hg; omega); replace hw7 := hw7.mod m8 (fun g hg => by cases hg; omega); replace hw8 := hw8.mod m8 (fun g hg => by cases hg; omega); replace h4 := h4.mod m8 (fun g hg => by cases hg; omega); replace hs1 := hs1.mod m8 (fun g hg => by cases hg; omega); replace ho2 := ho2.mod m8 (fun g hg => by cases hg; omega)
  have z16 := m8.size
  refine J_st (R_assign rfl) rfl (J_done ?_)
  refine S_ret (E_doneN (l := [.cell 2 33, .cell 3 43, .tmp 4]) (vs := [.agg [o9, v1, o11, o12, o13, o14, o15, o16].toArray, .agg (Enc.enc (x.staged[0]'hi1)).toArray, .bool true]) rfl ⟨.cell rfl (run_loadVar_st st33 h2.at rfl), .cell rfl (run_loadVar_st st43 h3.at rfl), .tmp rfl, trivial⟩ rfl E ?_)
  rw [unst_yes hsl]
  exact ⟨_, rfl, (Worker.mkO (⟨x.queue, [] ++ (List.drop 1 x.staged), x.inputs, x.cells, x.sums, x.black, x.caps, x.dones⟩ : Worker) ⟨⟨(Own.sep hw1 ho2 (by omega)), ⟨sp1.1.2.1, ⟨sp1.1.2.2.1, ⟨sp1.1.2.2.2.1, ⟨sp1.1.2.2.2.2.1, ⟨sp1.1.2.2.2.2.2.1, ⟨sp1.1.2.2.2.2.2.2.1, trivial⟩⟩⟩⟩⟩⟩⟩, ⟨⟨(Own.sep ho2 hw3 (by omega)), ⟨(Own.sep ho2 hw4 (by omega)), ⟨(Own.sep ho2 hw5 (by omega)), ⟨(Own.sep ho2 hw6 (by omega)), ⟨(Own.sep ho2 hw7 (by omega)), ⟨(Own.sep ho2 hw8 (by omega)), trivial⟩⟩⟩⟩⟩⟩, ⟨⟨sp1.2.2.1.1, ⟨sp1.2.2.1.2.1, ⟨sp1.2.2.1.2.2.1, ⟨sp1.2.2.1.2.2.2.1, ⟨sp1.2.2.1.2.2.2.2.1, trivial⟩⟩⟩⟩⟩, ⟨⟨sp1.2.2.2.1.1, ⟨sp1.2.2.2.1.2.1, ⟨sp1.2.2.2.1.2.2.1, ⟨sp1.2.2.2.1.2.2.2.1, trivial⟩⟩⟩⟩, ⟨⟨sp1.2.2.2.2.1.1, ⟨sp1.2.2.2.2.1.2.1, ⟨sp1.2.2.2.2.1.2.2.1, trivial⟩⟩⟩, ⟨⟨sp1.2.2.2.2.2.1.1, ⟨sp1.2.2.2.2.2.1.2.1, trivial⟩⟩, ⟨⟨sp1.2.2.2.2.2.2.1.1, trivial⟩, ⟨trivial, trivial⟩⟩⟩⟩⟩⟩⟩⟩ (Own.widen hw1 (by omega) (by omega)) (Own.widen ho2 (by omega) (by omega)) (Own.widen hw3 (by omega) (by omega)) (Own.widen hw4 (by omega) (by omega)) (Own.widen hw5 (by omega) (by omega)) (Own.widen hw6 (by omega) (by omega)) (Own.widen hw7 (by omega) (by omega)) (Own.widen hw8 (by omega) (by omega)))⟩

set_option maxHeartbeats 4000000 in
set_option maxRecDepth 20000 in
theorem s_TakeInput (cg : List Value) (g : Graph) (cx : List Value) (x : Worker) (w : World) (hg : Dat.R w 0 w.heap.size cg g) (hx : Dat.R w 0 w.heap.size cx x) (hb : cntWorker x ≤ 1048576) : Ct Try.prog 44 [.agg cg.toArray, .agg cx.toArray] w (fun v w' => ∃ c0, v = .tuple [.agg c0.toArray, .bool ((takeM g x).2)].toArray ∧ Own1.O w' w.heap.size w'.heap.size c0 ((takeM g x).1)) := by
 refine ct_of Try.func44 rfl Try.ntmps44 rfl ?_
 obtain ⟨o1, rfl, hd1⟩ := Graph.op hg
 obtain ⟨o2, o3, o4, o5, o6, o7, o8, o9, rfl, hd2, hd3, hd4, hd5, hd6, hd7, hd8, hd9⟩ := Worker.op hx
 refine S_sub [(0, .agg [o1, .int .i64 g.workers, .int .i64 g.cap].toArray), (1, .agg [o2, o3, o4, o5, o6, o7, o8, o9].toArray)] ⟨rfl, rfl, trivial⟩ ?_
 have E : Ext w w := Ext.refl w
 refine S_seq ?_
 refine S_reg [false, false, false, true] rfl rfl ?_
 refine J_box rfl rfl (fun b1 w1 e1 s1 h1 => ?_)
 have g_b1 : w.heap.size ≤ b1 := by have := E.size; omega
 have y_b1 := h1.lt
 replace E := E.trans e1
 have z1 := e1.size
 refine J_box rfl rfl (fun b2 w2 e2 s2 h2 => ?_)
 have g_b2 : w.heap.size ≤ b2 := by have := E.size; omega
 have y_b2 := h2.lt
 replace E := E.trans e2; replace h1 := h1.ext e2
 have z2 := e2.size
 refine J_alloc st33 rfl (fun b3 w3 e3 s3 h3 => ?_)
 have g_b3 : w.heap.size ≤ b3 := by have := E.size; omega
 have y_b3 := h3.lt
 replace E := E.trans e3; replace h1 := h1.ext e3; replace h2 := h2.ext e3
 have z3 := e3.size
 refine J_st (R_assign rfl) rfl (J_done ?_)
 refine S_seq ?_
 refine S_reg [true, false, false] rfl rfl ?_
 refine J_st (R_loadS st33 rfl h2.at rfl) rfl ?_
 refine J_call Try.call17 rfl (s_l12Copy [o2, o3, o4, o5, o6, o7, o8, o9] x _ (Worker.mkR x (RdD.any (hd2.ext E)) (RdD.any (hd3.ext E)) (RdD.any (hd4.ext E)) (RdD.any (hd5.ext E)) (RdD.any (hd6.ext E)) (RdD.any (hd7.ext E)) (RdD.any (hd8.ext E)) (RdD.any (hd9.ext E))) (by first | omega | (simp only [mkL_length]; omega) | (rw [mkL_length]; done) | (simp only [mkL_length]; done))) rfl (fun _ w4 e4 ho1 => ?_)
 obtain ⟨_, rfl, ho1⟩ := ho1
 have g_ho1 : w.heap.size ≤ w3.heap.size := E.size
 replace E := E.trans e4; replace h1 := h1.ext e4; replace h2 := h2.ext e4; replace h3 := h3.ext e4
 have z4 := e4.size
 obtain ⟨o10, o11, o12, o13, o14, o15, o16, o17, rfl, sp1, hw1, hw2, hw3, hw4, hw5, hw6, hw7, hw8⟩ := Worker.opO ho1
 refine J_storeS' (cs' := [o10, o11, o12, o13, o14, o15, o16, o17]) st33 rfl rfl rfl (all_cons hw1.one (all_cons hw2.one (all_cons hw3.one (all_cons hw4.one (all_cons hw5.one (all_cons hw6.one (all_cons hw7.one (all_cons hw8.one rfl)))))))) h2 (Nat.le_of_ble_eq_true rfl) rfl (fun w5 m1 h2' => ?_)
 replace h2 := h2'
 replace E := E.step m1 (fun g hg => by cases hg; omega); replace h1 := h1.mod m1 (fun g hg => by cases hg; omega); replace h3 := h3.mod m1 (fun g hg => by cases hg; omega); replace hw1 := hw1.mod m1 (fun g hg => by cases hg; omega); replace hw2 := hw2.mod m1 (fun g hg => by cases hg; omega); replace hw3 := hw3.mod m1 (fun g hg => by cases hg; omega); replace hw4 := hw4.mod m1 (fun g hg => by cases hg; omega); replace hw5 := hw5.mod m1 (fun g hg => by cases hg; omega); replace hw6 := hw6.mod m1 (fun g hg => by cases hg; omega); replace hw7 := hw7.mod m1 (fun g hg => by cases hg; omega); replace hw8 := hw8.mod m1 (fun g hg => by cases hg; omega)
 have z5 := m1.size
 refine J_done ?_
 refine S_seq ?_
 refine S_seq ?_
 refine S_reg [true, false, true, true, true, true, false, true, true, true, true, true, true, true, true, true, true, true, true, true, true, true, true, true, true, true, true] rfl rfl ?_
 refine J_st (R_loadS st26 rfl h1.at rfl) rfl ?_
 refine J_call Try.call56 rfl (s_GraphOk [o1, .int .i64 g.workers, .int .i64 g.cap] g _ (Graph.mkR g (RdD.any (hd1.ext E)))) rfl (fun _ w6 e5 hv => ?_)
 subst hv
 replace E := E.trans e5; replace h1 := h1.ext e5; replace h2 := h2.ext e5; replace h3 := h3.ext e5; replace hw1 := hw1.ext e5; replace hw2 := hw2.ext e5; replace hw3 := hw3.ext e5; replace hw4 := hw4.ext e5; replace hw5 := hw5.ext e5; replace hw6 := hw6.ext e5; replace hw7 := hw7.ext e5; replace hw8 := hw8.ext e5
 have z6 := e5.size
 refine J_st (R_not rfl) rfl (J_st (R_move rfl) rfl ?_)
 refine J_cut 23 [(0, .agg [o1, .int .i64 g.workers, .int .i64 g.cap].toArray), (1, .agg [o2, o3, o4, o5, o6, o7, o8, o9].toArray), (2, .pointer (some ⟨b1, 0, none⟩)), (3, .pointer (some ⟨b2, 0, none⟩)), (4, .pointer (some ⟨b3, 0, none⟩)), (5, .bool false), (6, .agg [o2, o3, o4, o5, o6, o7, o8, o9].toArray), (7, .agg [o10, o11, o12, o13, o14, o15, o16, o17].toArray), (34, .bool (((((!(graphOk g)) || (!(workerOk g x))) || (decide (0 < ((x.staged.length : Nat) : Int)))) || (decide (0 < ((x.queue.length : Nat) : Int)))) || (((x.inputs.length : Nat) : Int) == 0)))] (fun w' => Ext w w' ∧ w6.heap.size ≤ w'.heap.size ∧ Blk w' b1 ([o1, .int .i64 g.workers, .int .i64 g.cap]) ∧ Blk w' b2 [o10, o11, o12, o13, o14, o15, o16, o17] ∧ Blk w' b3 [.slice none 0 0, .slice none 0 0, .slice none 0 0, .slice none 0 0, .slice none 0 0, .slice none 0 0, .slice none 0 0, .slice none 0 0] ∧ Own w' w3.heap.size w4.heap.size 5 o10 (List.flatMap (Enc.enc (α := Record)) x.queue) ∧ Own w' w3.heap.size w4.heap.size 5 o11 (List.flatMap (Enc.enc (α := Record)) x.staged) ∧ Own w' w3.heap.size w4.heap.size 5 o12 (List.flatMap (Enc.enc (α := Record)) x.inputs) ∧ Own w' w3.heap.size w4.heap.size 4 o13 (List.flatMap (Enc.enc (α := Cell)) x.cells) ∧ Own w' w3.heap.size w4.heap.size 1 o14 (List.flatMap (Enc.enc (α := Int)) x.sums) ∧ Own w' w3.heap.size w4.heap.size 1 o15 (List.flatMap (Enc.enc (α := Bool)) x.black) ∧ Own w' w3.heap.size w4.heap.size 1 o16 (List.flatMap (Enc.enc (α := Bool)) x.caps) ∧ Own w' w3.heap.size w4.heap.size 2 o17 (List.flatMap (Enc.enc (α := Done)) x.dones)) ?_ ?_
 ·refine J_if (gd := 11) rfl rfl (fun hg1 => ?_) (fun hg1 => ?_)
  ·refine J_gdno rfl rfl rfl rfl (J_gdno rfl rfl rfl rfl ?_)
   refine J_ungno rfl rfl rfl rfl ?_
   refine J_gdno rfl rfl rfl rfl (J_st (R_pickT rfl rfl) rfl (J_st (R_move rfl) rfl (J_gdno rfl rfl rfl rfl (J_gdno rfl rfl rfl rfl (J_gdno rfl rfl rfl rfl (J_gdno rfl rfl rfl rfl (J_st (R_pickT rfl rfl) rfl (J_st (R_move rfl) rfl (J_gdno rfl rfl rfl rfl (J_gdno rfl rfl rfl rfl (J_gdno rfl rfl rfl rfl (J_gdno rfl rfl rfl rfl (J_st (R_pickT rfl rfl) rfl (J_st (R_move rfl) rfl (J_gdno rfl rfl rfl rfl (J_gdno rfl rfl rfl rfl (J_gdno rfl rfl rfl rfl (J_gdno rfl rfl rfl rfl (J_st (R_pickT rfl rfl) rfl (J_cutEnd ⟨rfl, rfl, rfl, rfl, rfl, rfl, rfl, rfl, congrArg (fun b => some (Value.bool b)) (show true = (((((!(graphOk g)) || (!(workerOk g x))) || (decide (0 < ((x.staged.length : Nat) : Int)))) || (decide (0 < ((x.queue.length : Nat) : Int)))) || (((x.inputs.length : Nat) : Int) == 0)) by first | (rw [hg1] <;> rfl) | (simp [hg1]; done) | (simp only [nat_nlt] <;> simp)), trivial⟩ ⟨E, (by omega), h1, h2, h3, hw1, hw2, hw3, hw4, hw5, hw6, hw7, hw8⟩))))))))))))))))))))
  ·refine J_gd rfl rfl (R_loadS st26 rfl h1.at rfl) rfl (J_gd rfl rfl (R_loadS st33 rfl h2.at rfl) rfl ?_)
   refine J_ung rfl rfl ?_
   refine J_call Try.call57 rfl (s_WorkerOk [o1, .int .i64 g.workers, .int .i64 g.cap] g [o10, o11, o12, o13, o14, o15, o16, o17] x _ (Graph.mkR g (RdD.any (hd1.ext E))) (Worker.mkR x (RdD.any (Own.rdD hw1)) (RdD.any (Own.rdD hw2)) (RdD.any (Own.rdD hw3)) (RdD.any (Own.rdD hw4)) (RdD.any (Own.rdD hw5)) (RdD.any (Own.rdD hw6)) (RdD.any (Own.rdD hw7)) (RdD.any (Own.rdD hw8)))) rfl (fun _ w8 e6 hv => ?_)
   subst hv
   replace E := E.trans e6; replace h1 := h1.ext e6; replace h2 := h2.ext e6; replace h3 := h3.ext e6; replace hw1 := hw1.ext e6; replace hw2 := hw2.ext e6; replace hw3 := hw3.ext e6; replace hw4 := hw4.ext e6; replace hw5 := hw5.ext e6; replace hw6 := hw6.ext e6; replace hw7 := hw7.ext e6; replace hw8 := hw8.ext e6
   have z7 := e6.size
   refine J_gd rfl rfl (R_not rfl) rfl (J_st (R_pickF rfl rfl) rfl (J_st (R_move rfl) rfl ?_))
   refine J_if (gd := 17) rfl rfl (fun hg2 => ?_) (fun hg2 => ?_)
   ·refine J_gdno rfl rfl rfl rfl (J_gdno rfl rfl rfl rfl (J_gdno rfl rfl rfl rfl (J_gdno rfl rfl rfl rfl (J_st (R_pickT rfl rfl) rfl (J_st (R_move rfl) rfl (J_gdno rfl rfl rfl rfl (J_gdno rfl rfl rfl rfl (J_gdno rfl rfl rfl rfl (J_gdno rfl rfl rfl rfl (J_st (R_pickT rfl rfl) rfl (J_st (R_move rfl) rfl (J_gdno rfl rfl rfl rfl (J_gdno rfl rfl rfl rfl (J_gdno rfl rfl rfl rfl (J_gdno rfl rfl rfl rfl (J_st (R_pickT rfl rfl) rfl (J_cutEnd ⟨rfl, rfl, rfl, rfl, rfl, rfl, rfl, rfl, congrArg (fun b => some (Value.bool b)) (show true = (((((!(graphOk g)) || (!(workerOk g x))) || (decide (0 < ((x.staged.length : Nat) : Int)))) || (decide (0 < ((x.queue.length : Nat) : Int)))) || (((x.inputs.length : Nat) : Int) == 0)) by first | (rw [hg1, hg2] <;> rfl) | (simp [hg1, hg2]; done) | (simp only [nat_nlt] <;> simp)), trivial⟩ ⟨E, (by omega), h1, h2, h3, hw1, hw2, hw3, hw4, hw5, hw6, hw7, hw8⟩)))))))))))))))))
   ·refine J_gd rfl rfl (R_fieldAddr0 fl33_1 rfl) rfl (J_gd rfl rfl (R_load sc27 rfl (h2.one 1 rfl)) rfl (J_gd rfl rfl (R_len Try.underlying27 rfl (Own.len (by decide) hw2)) rfl (J_gd rfl rfl (R_gtr rfl rfl) rfl (J_st (R_pickF rfl rfl) rfl (J_st (R_move rfl) rfl ?_)))))
    refine J_if (gd := 23) rfl rfl (fun hg3 => ?_) (fun hg3 => ?_)
    ·have hg3n : x.staged.length > 0 := by first | (have h := of_decide_eq_true hg3; omega) | (have h := hg3; simp at h; omega)
     refine J_gdno rfl rfl rfl rfl (J_gdno rfl rfl rfl rfl (J_gdno rfl rfl rfl rfl (J_gdno rfl rfl rfl rfl (J_st (R_pickT rfl rfl) rfl (J_st (R_move rfl) rfl (J_gdno rfl rfl rfl rfl (J_gdno rfl rfl rfl rfl (J_gdno rfl rfl rfl rfl (J_gdno rfl rfl rfl rfl (J_st (R_pickT rfl rfl) rfl (J_cutEnd ⟨rfl, rfl, rfl, rfl, rfl, rfl, rfl, rfl, congrArg (fun b => some (Value.bool b)) (show true = (((((!(graphOk g)) || (!(workerOk g x))) || (decide (0 < ((x.staged.length : Nat) : Int)))) || (decide (0 < ((x.queue.length : Nat) : Int)))) || (((x.inputs.length : Nat) : Int) == 0)) by first | (rw [hg1, hg2, hg3] <;> rfl) | (simp [hg1, hg2, hg3]; done) | (simp only [nat_nlt] <;> simp)), trivial⟩ ⟨E, (by omega), h1, h2, h3, hw1, hw2, hw3, hw4, hw5, hw6, hw7, hw8⟩)))))))))))
    ·have hg3n : ¬ x.staged.length > 0 := by first | (have h := of_decide_eq_false hg3; omega) | (have h := hg3; simp at h; omega)
     refine J_gd rfl rfl (R_fieldAddr0 fl33_0 rfl) rfl (J_gd rfl rfl (R_load sc27 rfl (h2.one 0 rfl)) rfl (J_gd rfl rfl (R_len Try.underlying27 rfl (Own.len (by decide) hw1)) rfl (J_gd rfl rfl (R_gtr rfl rfl) rfl (J_st (R_pickF rfl rfl) rfl (J_st (R_move rfl) rfl ?_)))))
     refine J_if (gd := 29) rfl rfl (fun hg4 => ?_) (fun hg4 => ?_)
     ·have hg4n : x.queue.length > 0 := by first | (have h := of_decide_eq_true hg4; omega) | (have h := hg4; simp at h; omega)
      refine J_gdno rfl rfl rfl rfl (J_gdno rfl rfl rfl rfl (J_gdno rfl rfl rfl rfl (J_gdno rfl rfl rfl rfl (J_st (R_pickT rfl rfl) rfl (J_cutEnd ⟨rfl, rfl, rfl, rfl, rfl, rfl, rfl, rfl, congrArg (fun b => some (Value.bool b)) (show true = (((((!(graphOk g)) || (!(workerOk g x))) || (decide (0 < ((x.staged.length : Nat) : Int)))) || (decide (0 < ((x.queue.length : Nat) : Int)))) || (((x.inputs.length : Nat) : Int) == 0)) by first | (rw [hg1, hg2, hg3, hg4] <;> rfl) | (simp [hg1, hg2, hg3, hg4]; done) | (simp only [nat_nlt] <;> simp)), trivial⟩ ⟨E, (by omega), h1, h2, h3, hw1, hw2, hw3, hw4, hw5, hw6, hw7, hw8⟩)))))
     ·have hg4n : ¬ x.queue.length > 0 := by first | (have h := of_decide_eq_false hg4; omega) | (have h := hg4; simp at h; omega)
      refine J_gd rfl rfl (R_fieldAddr0 fl33_2 rfl) rfl (J_gd rfl rfl (R_load sc27 rfl (h2.one 2 rfl)) rfl (J_gd rfl rfl (R_len Try.underlying27 rfl (Own.len (by decide) hw3)) rfl (J_gd rfl rfl (R_eql rfl rfl) rfl (J_st (R_pickF rfl rfl) rfl (J_cutEnd ⟨rfl, rfl, rfl, rfl, rfl, rfl, rfl, rfl, congrArg (fun b => some (Value.bool b)) (show (((x.inputs.length : Nat) : Int) == 0) = (((((!(graphOk g)) || (!(workerOk g x))) || (decide (0 < ((x.staged.length : Nat) : Int)))) || (decide (0 < ((x.queue.length : Nat) : Int)))) || (((x.inputs.length : Nat) : Int) == 0)) by first | (rw [hg1, hg2, hg3, hg4] <;> rfl) | (simp [hg1, hg2, hg3, hg4]; done) | (simp only [nat_nlt] <;> simp)), trivial⟩ ⟨E, (by omega), h1, h2, h3, hw1, hw2, hw3, hw4, hw5, hw6, hw7, hw8⟩)))))
 clear E h1 h2 h3 hw1 hw2 hw3 hw4 hw5 hw6 hw7 hw8
 rintro w7 ⟨E, z8, h1, h2, h3, hw1, hw2, hw3, hw4, hw5, hw6, hw7, hw8⟩
 refine J_done ?_
 refine S_cond rfl (fun hc1 => ?_) (fun hc1 => ?_)
 ·refine S_seq ?_
  refine S_reg [true, false, true] rfl rfl ?_
  refine J_st (R_loadS st33 rfl h2.at rfl) rfl ?_
  refine J_storeS' (cs' := [o10, o11, o12, o13, o14, o15, o16, o17]) st33 rfl rfl rfl (all_cons hw1.one (all_cons hw2.one (all_cons hw3.one (all_cons hw4.one (all_cons hw5.one (all_cons hw6.one (all_cons hw7.one (all_cons hw8.one rfl)))))))) h3 (Nat.le_of_ble_eq_true rfl) rfl (fun w9 m2 h3' => ?_)
  replace h3 := h3'
  replace E := E.step m2 (fun g hg => by cases hg; omega); replace h1 := h1.mod m2 (fun g hg => by cases hg; omega); replace h2 := h2.mod m2 (fun g hg => by cases hg; omega); replace hw1 := hw1.mod m2 (fun g hg => by cases hg; omega); replace hw2 := hw2.mod m2 (fun g hg => by cases hg; omega); replace hw3 := hw3.mod m2 (fun g hg => by cases hg; omega); replace hw4 := hw4.mod m2 (fun g hg => by cases hg; omega); replace hw5 := hw5.mod m2 (fun g hg => by cases hg; omega); replace hw6 := hw6.mod m2 (fun g hg => by cases hg; omega); replace hw7 := hw7.mod m2 (fun g hg => by cases hg; omega); replace hw8 := hw8.mod m2 (fun g hg => by cases hg; omega)
  have z9 := m2.size
  refine J_st (R_assign rfl) rfl (J_done ?_)
  refine S_ret (E_doneN (l := [.cell 4 33, .tmp 5]) (vs := [.agg [o10, o11, o12, o13, o14, o15, o16, o17].toArray, .bool false]) rfl ⟨.cell rfl (run_loadVar_st st33 h3.at rfl), .tmp rfl, trivial⟩ rfl E ?_)
  rw [take_no hc1]
  exact ⟨_, rfl, (Worker.mkO x sp1 (Own.widen hw1 (by omega) (by omega)) (Own.widen hw2 (by omega) (by omega)) (Own.widen hw3 (by omega) (by omega)) (Own.widen hw4 (by omega) (by omega)) (Own.widen hw5 (by omega) (by omega)) (Own.widen hw6 (by omega) (by omega)) (Own.widen hw7 (by omega) (by omega)) (Own.widen hw8 (by omega) (by omega)))⟩
 ·have htl := take_lt hc1
  refine S_skip ?_
  refine S_seq ?_
  refine S_regX mixed [7] [(0, true), (1, true), (2, true), (3, true), (4, true), (5, true), (6, false)] [(7, false), (8, true), (9, false)] (by decide +kernel) rfl rfl (fun w10 e7 => ?_)
  replace E := E.trans e7; replace h1 := h1.ext e7; replace h2 := h2.ext e7; replace h3 := h3.ext e7; replace hw1 := hw1.ext e7; replace hw2 := hw2.ext e7; replace hw3 := hw3.ext e7; replace hw4 := hw4.ext e7; replace hw5 := hw5.ext e7; replace hw6 := hw6.ext e7; replace hw7 := hw7.ext e7; replace hw8 := hw8.ext e7
  have z10 := e7.size
  refine J_st (R_fieldAddr0 fl33_0 rfl) rfl (J_st (R_load sc27 rfl (h2.one 0 rfl)) rfl (J_st (R_fieldAddr0 fl33_2 rfl) rfl (J_st (R_load sc27 rfl (h2.one 2 rfl)) rfl ?_)))
  have hi1 : 0 < x.inputs.length := (by first | assumption | omega | (simp only [List.length_set]; first | assumption | omega) | (simp only [List.getElem_set_self, List.length_set]; first | assumption | omega) | (simp only [setW, setLk, List.length_set]; first | assumption | omega) | (simp; done))
  refine J_st (R_index (i := 0) sl27 rfl rfl (Own.rd (by decide) hw3) hi1) rfl (J_st (R_loadS st43 rfl ((Own.rd (by decide) hw3).get hi1) rfl) rfl ?_)
  refine J_buildSlice (vs := [.agg (Enc.enc (x.inputs[0]'hi1)).toArray]) (css := [[.int .i64 ((x.inputs[0]'hi1).op), .int .i64 (((x.inputs[0]'hi1).stamp).epoch), .int .i64 (((x.inputs[0]'hi1).stamp).turn), .int .i64 ((x.inputs[0]'hi1).key), .int .i64 ((x.inputs[0]'hi1).val)]]) sl27 rfl rfl ⟨⟨rfl, rfl⟩, trivial⟩ rfl rfl (fun b4 w11 e8 s4 h4 => ?_)
  replace h4 : Blk w11 b4 [.int .i64 ((x.inputs[0]'hi1).op), .int .i64 (((x.inputs[0]'hi1).stamp).epoch), .int .i64 (((x.inputs[0]'hi1).stamp).turn), .int .i64 ((x.inputs[0]'hi1).key), .int .i64 ((x.inputs[0]'hi1).val)] := h4
  have g_b4 : w.heap.size ≤ b4 := by have := E.size; omega
  have y_b4 := h4.lt
  replace E := E.trans e8; replace h1 := h1.ext e8; replace h2 := h2.ext e8; replace h3 := h3.ext e8; replace hw1 := hw1.ext e8; replace hw2 := hw2.ext e8; replace hw3 := hw3.ext e8; replace hw4 := hw4.ext e8; replace hw5 := hw5.ext e8; replace hw6 := hw6.ext e8; replace hw7 := hw7.ext e8; replace hw8 := hw8.ext e8
  have z11 := e8.size
  refine JX_tail ?_
  refine J2_X rfl ?_
  refine J_appendB sl27 rfl rfl hw1 (Src.ofBlk h4 rfl) rfl (by unfold cntWorker at hb; simp only [sum_flat, List.length_nil, List.length_cons, List.length_drop]; simp only [Enc.sz]; omega) (by decide) (by omega) (by omega) rfl rfl (fun v1 w12 m3 ho2 hb1 => ?_)
  have hn1 : ∀ g, Value.ownBlock v1 = some g → g < w4.heap.size ∨ w11.heap.size ≤ g := fun g hg => (hb1 g hg).elim (fun h => .inl (by have := Own.blk hw1 g h; omega)) (fun h => .inr h)
  have sq1 := sp1
  replace sp1 := SepL.set hb1 0 rfl sp1 ⟨(Own.lt hw1), (Own.lt hw2), (Own.lt hw3), (Own.lt hw4), (Own.lt hw5), (Own.lt hw6), (Own.lt hw7), (Own.lt hw8), trivial⟩
  replace sp1 : SepL [v1, o11, o12, o13, o14, o15, o16, o17] := sp1
  replace E := E.step m3 (fun g hg => by have := Own.blk hw1 g hg; omega); replace h1 := h1.mod m3 (fun g hg => by have := Own.blk hw1 g hg; omega); replace h2 := h2.mod m3 (fun g hg => by have := Own.blk hw1 g hg; omega); replace h3 := h3.mod m3 (fun g hg => by have := Own.blk hw1 g hg; omega); replace hw2 := Own.modS hw2 m3 sq1.1.1; replace hw3 := Own.modS hw3 m3 sq1.1.2.1; replace hw4 := Own.modS hw4 m3 sq1.1.2.2.1; replace hw5 := Own.modS hw5 m3 sq1.1.2.2.2.1; replace hw6 := Own.modS hw6 m3 sq1.1.2.2.2.2.1; replace hw7 := Own.modS hw7 m3 sq1.1.2.2.2.2.2.1; replace hw8 := Own.modS hw8 m3 sq1.1.2.2.2.2.2.2.1
  have z12 := m3.size
  replace ho2 : Own w12 w3.heap.size w12.heap.size 5 v1 (List.flatMap (Enc.enc (α := Record)) (x.queue ++ [(x.inputs[0]'hi1)])) := by rw [List.flatMap_append]; exact ho2
  refine JX_go ?_
  refine J_st (R_fieldAddr0 fl33_0 rfl) rfl ?_
  refine J_store' (cs' := [v1, o11, o12, o13, o14, o15, o16, o17]) sc27 rfl rfl ho2.one h2 (Nat.le_of_ble_eq_true rfl) rfl (fun w13 m4 h2' => ?_)
  replace h2 := h2'
  replace E := E.step m4 (fun g hg => by cases hg; omega); replace h1 := h1.mod m4 (fun g hg => by cases hg; omega); replace h3 := h3.mod m4 (fun g hg => by cases hg; omega); replace hw2 := hw2.mod m4 (fun g hg => by cases hg; omega); replace hw3 := hw3.mod m4 (fun g hg => by cases hg; omega); replace hw4 := hw4.mod m4 (fun g hg => by cases hg; omega); replace hw5 := hw5.mod m4 (fun g hg => by cases hg; omega); replace hw6 := hw6.mod m4 (fun g hg => by cases hg; omega); replace hw7 := hw7.mod m4 (fun g hg => by cases hg; omega); replace hw8 := hw8.mod m4 (fun g hg => by cases hg; omega); replace ho2 := Own.modN ho2 m4 (fun g hg hv => by have hN := hn1 g hv; have hB := Own.blk ho2 g hv; cases hg; omega)
  have z13 := m4.size
  refine J_done ?_
  refine S_seq ?_
  refine S_reg [false, true, true, true, false, true, false] rfl rfl ?_
  refine J_buildSlice (vs := []) (css := []) sl27 rfl rfl trivial rfl rfl (fun b5 w14 e9 s5 h5 => ?_)
  replace h5 : Blk w14 b5 [] := h5
  have g_b5 : w.heap.size ≤ b5 := by have := E.size; omega
  have y_b5 := h5.lt
  replace E := E.trans e9; replace h1 := h1.ext e9; replace h2 := h2.ext e9; replace h3 := h3.ext e9; replace hw2 := hw2.ext e9; replace hw3 := hw3.ext e9; replace hw4 := hw4.ext e9; replace hw5 := hw5.ext e9; replace hw6 := hw6.ext e9; replace hw7 := hw7.ext e9; replace hw8 := hw8.ext e9; replace ho2 := ho2.ext e9
  have z14 := e9.size
  refine J_st (R_fieldAddr0 fl33_2 rfl) rfl (J_st (R_load sc27 rfl (h2.one 2 rfl)) rfl ?_)
  have hk1 : 1 ≤ x.inputs.length := by first | assumption | omega
  have hs1 := Own.slFromE (α := Record) hw3 hk1
  replace hs1 : Own w14 w3.heap.size w4.heap.size 5 (slFrom o12 1 5) (List.flatMap (Enc.enc (α := Record)) (List.drop 1 x.inputs)) := hs1
  have hb2 : Become w14 o12 (slFrom o12 1 5) := fun g hg => .inl (by rwa [slFrom_blk] at hg)
  replace sp1 := SepL.set hb2 2 rfl sp1 ⟨(Own.lt ho2), (Own.lt hw2), (Own.lt hw3), (Own.lt hw4), (Own.lt hw5), (Own.lt hw6), (Own.lt hw7), (Own.lt hw8), trivial⟩
  replace sp1 : SepL [v1, o11, slFrom o12 1 5, o13, o14, o15, o16, o17] := sp1
  refine J_st (R_sliceFrom sl27 rfl rfl (Own.roomE (α := Record) hw3) hk1) rfl ?_
  refine J_append sl27 rfl rfl (Own.ofBlk (lo := b5) (hi := b5 + 1) (sz := 5) h5 (Nat.le_refl _) (Nat.lt_succ_self _) (by simp) (by simp [maxLen])) (Own.src hs1) (flat_one _) (by unfold cntWorker at hb; simp only [sum_flat, List.length_nil, List.length_cons, List.length_drop]; simp only [Enc.sz]; omega) (by decide) (by omega) (by omega) rfl rfl (fun v2 w15 m5 ho3 => ?_)
  replace E := E.step m5 (fun g hg => by have := Own.blk (Own.ofBlk (lo := b5) (hi := b5 + 1) (sz := 5) h5 (Nat.le_refl _) (Nat.lt_succ_self _) (by simp) (by simp [maxLen])) g hg; omega); replace h1 := h1.mod m5 (fun g hg => by have := Own.blk (Own.ofBlk (lo := b5) (hi := b5 + 1) (sz := 5) h5 (Nat.le_refl _) (Nat.lt_succ_self _) (by simp) (by simp [maxLen])) g hg; omega); replace h2 := h2.mod m5 (fun g hg => by have := Own.blk (Own.ofBlk (lo := b5) (hi := b5 + 1) (sz := 5) h5 (Nat.le_refl _) (Nat.lt_succ_self _) (by simp) (by simp [maxLen])) g hg; omega); replace h3 := h3.mod m5 (fun g hg => by have := Own.blk (Own.ofBlk (lo := b5) (hi := b5 + 1) (sz := 5) h5 (Nat.le_refl _) (Nat.lt_succ_self _) (by simp) (by simp [maxLen])) g hg; omega); replace hw2 := hw2.mod m5 (fun g hg => by have := Own.blk (Own.ofBlk (lo := b5) (hi := b5 + 1) (sz := 5) h5 (Nat.le_refl _) (Nat.lt_succ_self _) (by simp) (by simp [maxLen])) g hg; omega); replace hw4 := hw4.mod m5 (fun g hg => by have := Own.blk (Own.ofBlk (lo := b5) (hi := b5 + 1) (sz := 5) h5 (Nat.le_refl _) (Nat.lt_succ_self _) (by simp) (by simp [maxLen])) g hg; omega); replace hw5 := hw5.mod m5 (fun g hg => by have := Own.blk (Own.ofBlk (lo := b5) (hi := b5 + 1) (sz := 5) h5 (Nat.le_refl _) (Nat.lt_succ_self _) (by simp) (by simp [maxLen])) g hg; omega); replace hw6 := hw6.mod m5 (fun g hg => by have := Own.blk (Own.ofBlk (lo := b5) (hi := b5 + 1) (sz := 5) h5 (Nat.le_refl _) (Nat.lt_succ_self _) (by simp) (by simp [maxLen])) g hg; omega); replace hw7 := hw7.mod m5 (fun g hg => by have := Own.blk (Own.ofBlk (lo := b5) (hi := b5 + 1) (sz := 5) h5 (Nat.le_refl _) (Nat.lt_succ_self _) (by simp) (by simp [maxLen])) g hg; omega); replace hw8 := hw8.mod m5 (fun g hg => by have := Own.blk (Own.ofBlk (lo := b5) (hi := b5 + 1) (sz := 5) h5 (Nat.le_refl _) (Nat.lt_succ_self _) (by simp) (by simp [maxLen])) g hg; omega); replace ho2 := Own.modN ho2 m5 (fun g hg hv => by have hN := hn1 g hv; have hB := Own.blk ho2 g hv; have := Own.blk (Own.ofBlk (lo := b5) (hi := b5 + 1) (sz := 5) h5 (Nat.le_refl _) (Nat.lt_succ_self _) (by simp) (by simp [maxLen])) g hg; omega); replace hs1 := hs1.mod m5 (fun g hg => by have := Own.blk (Own.ofBlk (lo := b5) (hi := b5 + 1) (sz := 5) h5 (Nat.le_refl _) (Nat.lt_succ_self _) (by simp) (by simp [maxLen])) g hg; omega)
  have z15 := m5.size
  refine J_st (R_fieldAddr0 fl33_2 rfl) rfl ?_
  refine J_store' (cs' := [v1, o11, v2, o13, o14, o15, o16, o17]) sc27 rfl rfl ho3.one h2 (Nat.le_of_ble_eq_true rfl) rfl (fun w16 m6 h2' => ?_)
  replace h2 := h2'
  replace E := E.step m6 (fun g hg => by cases hg; omega); replace h1 := h1.mod m6 (fun g hg => by cases hg; omega); replace h3 := h3.mod m6 (fun g hg => by cases hg; omega); replace hw2 := hw2.mod m6 (fun g hg => by cases hg; omega); replace hw4 := hw4.mod m6 (fun g hg => by cases hg; omega); replace hw5 := hw5.mod m6 (fun g hg => by cases hg; omega); replace hw6 := hw6.mod m6 (fun g hg => by cases hg; omega); replace hw7 := hw7.mod m6 (fun g hg => by cases hg; omega); replace hw8 := hw8.mod m6 (fun g hg => by cases hg; omega); replace ho2 := Own.modN ho2 m6 (fun g hg hv => by have hN := hn1 g hv; have hB := Own.blk ho2 g hv; cases hg; omega); replace hs1 := hs1.mod m6 (fun g hg => by cases hg; omega); replace ho3 := ho3.mod m6 (fun g hg => by cases hg; omega)
  have z16 := m6.size
  refine J_done ?_
  refine S_seq ?_
  refine S_reg [true, false, true] rfl rfl ?_
  refine J_st (R_loadS st33 rfl h2.at rfl) rfl ?_
  refine J_storeS' (cs' := [v1, o11, v2, o13, o14, o15, o16, o17]) st33 rfl rfl rfl (all_cons ho2.one (all_cons hw2.one (all_cons ho3.one (all_cons hw4.one (all_cons hw5.one (all_cons hw6.one (all_cons hw7.one (all_cons hw8.one rfl)))))))) h3 (Nat.le_of_ble_eq_true rfl) rfl (fun w17 m7 h3' => ?_)
  replace h3 := h3'
  replace E := E.step m7 (fun g hg => by cases hg; omega); replace h1 := h1.mod m7 (fun g hg => by cases hg; omega); replace h2 := h2.mod m7 (fun g hg => by cases hg; omega); replace hw2 := hw2.mod m7 (fun g hg => by cases hg; omega); replace hw4 := hw4.mod m7 (fun g hg => by cases hg; omega); replace hw5 := hw5.mod m7 (fun g hg => by cases hg; omega); replace hw6 := hw6.mod m7 (fun g hg => by cases hg; omega); replace hw7 := hw7.mod m7 (fun g hg => by cases hg; omega); replace hw8 := hw8.mod m7 (fun g hg => by cases hg; omega); replace ho2 := Own.modN ho2 m7 (fun g hg hv => by have hN := hn1 g hv; have hB := Own.blk ho2 g hv; cases hg; omega); replace hs1 := hs1.mod m7 (fun g hg => by cases hg; omega); replace ho3 := ho3.mod m7 (fun g hg => by cases hg; omega)
  have z17 := m7.size
  refine J_st (R_assign rfl) rfl (J_done ?_)
  refine S_ret (E_doneN (l := [.cell 4 33, .tmp 5]) (vs := [.agg [v1, o11, v2, o13, o14, o15, o16, o17].toArray, .bool true]) rfl ⟨.cell rfl (run_loadVar_st st33 h3.at rfl), .tmp rfl, trivial⟩ rfl E ?_)
  rw [take_yes hc1 htl]
  exact ⟨_, rfl, (Worker.mkO (⟨x.queue ++ [(x.inputs[0]'hi1)], x.staged, [] ++ (List.drop 1 x.inputs), x.cells, x.sums, x.black, x.caps, x.dones⟩ : Worker) ⟨⟨sp1.1.1, ⟨(fun g hg he => by have := Own.blk ho2 g hg; have := Own.blk ho3 g he; have := hn1 g hg; omega), ⟨sp1.1.2.2.1, ⟨sp1.1.2.2.2.1, ⟨sp1.1.2.2.2.2.1, ⟨sp1.1.2.2.2.2.2.1, ⟨sp1.1.2.2.2.2.2.2.1, trivial⟩⟩⟩⟩⟩⟩⟩, ⟨⟨(Own.sep hw2 ho3 (by omega)), ⟨sp1.2.1.2.1, ⟨sp1.2.1.2.2.1, ⟨sp1.2.1.2.2.2.1, ⟨sp1.2.1.2.2.2.2.1, ⟨sp1.2.1.2.2.2.2.2.1, trivial⟩⟩⟩⟩⟩⟩, ⟨⟨(Own.sep ho3 hw4 (by omega)), ⟨(Own.sep ho3 hw5 (by omega)), ⟨(Own.sep ho3 hw6 (by omega)), ⟨(Own.sep ho3 hw7 (by omega)), ⟨(Own.sep ho3 hw8 (by omega)), trivial⟩⟩⟩⟩⟩, ⟨⟨sp1.2.2.2.1.1, ⟨sp1.2.2.2.1.2.1, ⟨sp1.2.2.2.1.2.2.1, ⟨sp1.2.2.2.1.2.2.2.1, trivial⟩⟩⟩⟩, ⟨⟨sp1.2.2.2.2.1.1, ⟨sp1.2.2.2.2.1.2.1, ⟨sp1.2.2.2.2.1.2.2.1, trivial⟩⟩⟩, ⟨⟨sp1.2.2.2.2.2.1.1, ⟨sp1.2.2.2.2.2.1.2.1, trivial⟩⟩, ⟨⟨sp1.2.2.2.2.2.2.1.1, trivial⟩, ⟨trivial, trivial⟩⟩⟩⟩⟩⟩⟩⟩ (Own.widen ho2 (by omega) (by omega)) (Own.widen hw2 (by omega) (by omega)) (Own.widen ho3 (by omega) (by omega)) (Own.widen hw4 (by omega) (by omega)) (Own.widen hw5 (by omega) (by omega)) (Own.widen hw6 (by omega) (by omega)) (Own.widen hw7 (by omega) (by omega)) (Own.widen hw8 (by omega) (by omega)))⟩

end Go.Proofs.Yteljajfcppmeiaa
