/- What the functions that the laws call come to: a contract each; no condition. -/
import Derived.Test.YteljajfcppmeiaaFns2
namespace Go.Proofs.Yteljajfcppmeiaa
open Go Go.Proofs.Yteljajfcppmeiaa.X Go.Proofs
set_option maxHeartbeats 4000000 in
set_option maxRecDepth 20000 in
theorem c_TakeInput (cg : List Value) (g : Graph) (cx : List Value) (x : Worker) (w : World) (hg : Dat.R w 0 w.heap.size cg g) (hx : Dat.R w 0 w.heap.size cx x) (hb : cntWorker x ≤ 1048576) : Ct Try.prog 6 [.agg cg.toArray, .agg cx.toArray] w (fun v w' => ∃ c0, v = .tuple [.agg c0.toArray, .bool ((takeM g x).2)].toArray ∧ Own1.O w' w.heap.size w'.heap.size c0 ((takeM g x).1)) := by
 refine ct_of Try.func6 rfl Try.ntmps6 rfl ?_
 obtain ⟨o1, rfl, hd1⟩ := Graph.op hg
 obtain ⟨o2, o3, o4, o5, o6, o7, o8, o9, rfl, hd2, hd3, hd4, hd5, hd6, hd7, hd8, hd9⟩ := Worker.op hx
 refine S_sub [(0, .agg [o1, .int .i64 g.workers, .int .i64 g.cap].toArray), (1, .agg [o2, o3, o4, o5, o6, o7, o8, o9].toArray)] ⟨rfl, rfl, trivial⟩ ?_
 have E : Ext w w := Ext.refl w
 refine S_seq ?_
 refine S_reg [false, false, false, true] rfl rfl ?_
 refine J_box rfl rfl (fun b1 w1 e1 s1 h1 => ?_)
 have g_b1 : w.heap.size ≤ b1 := by have := E.size; omega
 have y_b1 := h1.lt
 replace E := E.trans e1
 have z1 := e1.size
 refine J_box rfl rfl (fun b2 w2 e2 s2 h2 => ?_)
 have g_b2 : w.heap.size ≤ b2 := by have := E.size; omega
 have y_b2 := h2.lt
 replace E := E.trans e2; replace h1 := h1.ext e2
 have z2 := e2.size
 refine J_alloc st33 rfl (fun b3 w3 e3 s3 h3 => ?_)
 have g_b3 : w.heap.size ≤ b3 := by have := E.size; omega
 have y_b3 := h3.lt
 replace E := E.trans e3; replace h1 := h1.ext e3; replace h2 := h2.ext e3
 have z3 := e3.size
 refine J_st (R_assign rfl) rfl (J_done ?_)
 refine S_seq ?_
 refine S_reg [true, false, false, false] rfl rfl ?_
 refine J_st (R_loadS st33 rfl h2.at rfl) rfl ?_
 refine J_call Try.call12 rfl (c_copyWorker [o2, o3, o4, o5, o6, o7, o8, o9] x _ (Worker.mkR x (RdD.any (hd2.ext E)) (RdD.any (hd3.ext E)) (RdD.any (hd4.ext E)) (RdD.any (hd5.ext E)) (RdD.any (hd6.ext E)) (RdD.any (hd7.ext E)) (RdD.any (hd8.ext E)) (RdD.any (hd9.ext E))) (by first | omega | (simp only [mkL_length]; omega) | (rw [mkL_length]; done) | (simp only [mkL_length]; done))) rfl (fun _ w4 e4 ho1 => ?_)
 obtain ⟨_, rfl, ho1⟩ := ho1
 have g_ho1 : w.heap.size ≤ w3.heap.size := E.size
 replace E := E.trans e4; replace h1 := h1.ext e4; replace h2 := h2.ext e4; replace h3 := h3.ext e4
 have z4 := e4.size
 obtain ⟨o10, o11, o12, o13, o14, o15, o16, o17, rfl, sp1, hw1, hw2, hw3, hw4, hw5, hw6, hw7, hw8⟩ := Worker.opO ho1
 refine J_alloc st33 rfl (fun b4 w5 e5 s4 h4 => ?_)
 have g_b4 : w.heap.size ≤ b4 := by have := E.size; omega
 have y_b4 := h4.lt
 replace E := E.trans e5; replace h1 := h1.ext e5; replace h2 := h2.ext e5; replace h3 := h3.ext e5; replace hw1 := hw1.ext e5; replace hw2 := hw2.ext e5; replace hw3 := hw3.ext e5; replace hw4 := hw4.ext e5; replace hw5 := hw5.ext e5; replace hw6 := hw6.ext e5; replace hw7 := hw7.ext e5; replace hw8 := hw8.ext e5
 have z5 := e5.size
 refine J_storeS' (cs' := [o10, o11, o12, o13, o14, o15, o16, o17]) st33 rfl rfl rfl (all_cons hw1.one (all_cons hw2.one (all_cons hw3.one (all_cons hw4.one (all_cons hw5.one (all_cons hw6.one (all_cons hw7.one (all_cons hw8.one rfl)))))))) h4 (Nat.le_of_ble_eq_true rfl) rfl (fun w6 m1 h4' => ?_)
 replace h4 := h4'
 replace E := E.step m1 (fun g hg => by cases hg; omega); replace h1 := h1.mod m1 (fun g hg => by cases hg; omega); replace h2 := h2.mod m1 (fun g hg => by cases hg; omega); replace h3 := h3.mod m1 (fun g hg => by cases hg; omega); replace hw1 := hw1.mod m1 (fun g hg => by cases hg; omega); replace hw2 := hw2.mod m1 (fun g hg => by cases hg; omega); replace hw3 := hw3.mod m1 (fun g hg => by cases hg; omega); replace hw4 := hw4.mod m1 (fun g hg => by cases hg; omega); replace hw5 := hw5.mod m1 (fun g hg => by cases hg; omega); replace hw6 := hw6.mod m1 (fun g hg => by cases hg; omega); replace hw7 := hw7.mod m1 (fun g hg => by cases hg; omega); replace hw8 := hw8.mod m1 (fun g hg => by cases hg; omega)
 have z6 := m1.size
 refine J_done ?_
 refine S_seq ?_
 refine S_seq ?_
 refine S_reg [true, false, true, true, true, true, false, true, true, true, true, true, true, true, true, true, true, true, true, true, true, true, true, true, true, true, true] rfl rfl ?_
 refine J_st (R_loadS st26 rfl h1.at rfl) rfl ?_
 refine J_call Try.call13 rfl (c_GraphOk [o1, .int .i64 g.workers, .int .i64 g.cap] g _ (Graph.mkR g (RdD.any (hd1.ext E)))) rfl (fun _ w7 e6 hv => ?_)
 subst hv
 replace E := E.trans e6; replace h1 := h1.ext e6; replace h2 := h2.ext e6; replace h3 := h3.ext e6; replace hw1 := hw1.ext e6; replace hw2 := hw2.ext e6; replace hw3 := hw3.ext e6; replace hw4 := hw4.ext e6; replace hw5 := hw5.ext e6; replace hw6 := hw6.ext e6; replace hw7 := hw7.ext e6; replace hw8 := hw8.ext e6; replace h4 := h4.ext e6
 have z7 := e6.size
 refine J_st (R_not rfl) rfl (J_st (R_move rfl) rfl ?_)
 refine J_cut 23 [(0, .agg [o1, .int .i64 g.workers, .int .i64 g.cap].toArray), (1, .agg [o2, o3, o4, o5, o6, o7, o8, o9].toArray), (2, .pointer (some ⟨b1, 0, none⟩)), (3, .pointer (some ⟨b2, 0, none⟩)), (4, .pointer (some ⟨b3, 0, none⟩)), (5, .bool false), (6, .pointer (some ⟨b4, 0, none⟩)), (7, .agg [o2, o3, o4, o5, o6, o7, o8, o9].toArray), (8, .agg [o10, o11, o12, o13, o14, o15, o16, o17].toArray), (35, .bool (((((!(graphOk g)) || (!(workerOk g x))) || (decide (0 < ((x.staged.length : Nat) : Int)))) || (decide (0 < ((x.queue.length : Nat) : Int)))) || (((x.inputs.length : Nat) : Int) == 0)))] (fun w' => Ext w w' ∧ w7.heap.size ≤ w'.heap.size ∧ Blk w' b1 ([o1, .int .i64 g.workers, .int .i64 g.cap]) ∧ Blk w' b2 ([o2, o3, o4, o5, o6, o7, o8, o9]) ∧ Blk w' b3 [.slice none 0 0, .slice none 0 0, .slice none 0 0, .slice none 0 0, .slice none 0 0, .slice none 0 0, .slice none 0 0, .slice none 0 0] ∧ Own w' w3.heap.size w4.heap.size 5 o10 (List.flatMap (Enc.enc (α := Record)) x.queue) ∧ Own w' w3.heap.size w4.heap.size 5 o11 (List.flatMap (Enc.enc (α := Record)) x.staged) ∧ Own w' w3.heap.size w4.heap.size 5 o12 (List.flatMap (Enc.enc (α := Record)) x.inputs) ∧ Own w' w3.heap.size w4.heap.size 4 o13 (List.flatMap (Enc.enc (α := Cell)) x.cells) ∧ Own w' w3.heap.size w4.heap.size 1 o14 (List.flatMap (Enc.enc (α := Int)) x.sums) ∧ Own w' w3.heap.size w4.heap.size 1 o15 (List.flatMap (Enc.enc (α := Bool)) x.black) ∧ Own w' w3.heap.size w4.heap.size 1 o16 (List.flatMap (Enc.enc (α := Bool)) x.caps) ∧ Own w' w3.heap.size w4.heap.size 2 o17 (List.flatMap (Enc.enc (α := Done)) x.dones) ∧ Blk w' b4 [o10, o11, o12, o13, o14, o15, o16, o17]) ?_ ?_
 ·refine J_if (gd := 12) rfl rfl (fun hg1 => ?_) (fun hg1 => ?_)
  ·refine J_gdno rfl rfl rfl rfl (J_gdno rfl rfl rfl rfl ?_)
   refine J_ungno rfl rfl rfl rfl ?_
   refine J_gdno rfl rfl rfl rfl (J_st (R_pickT rfl rfl) rfl (J_st (R_move rfl) rfl (J_gdno rfl rfl rfl rfl (J_gdno rfl rfl rfl rfl (J_gdno rfl rfl rfl rfl (J_gdno rfl rfl rfl rfl (J_st (R_pickT rfl rfl) rfl (J_st (R_move rfl) rfl (J_gdno rfl rfl rfl rfl (J_gdno rfl rfl rfl rfl (J_gdno rfl rfl rfl rfl (J_gdno rfl rfl rfl rfl (J_st (R_pickT rfl rfl) rfl (J_st (R_move rfl) rfl (J_gdno rfl rfl rfl rfl (J_gdno rfl rfl rfl rfl (J_gdno rfl rfl rfl rfl (J_gdno rfl rfl rfl rfl (J_st (R_pickT rfl rfl) rfl (J_cutEnd ⟨rfl, rfl, rfl, rfl, rfl, rfl, rfl, rfl, rfl, congrArg (fun b => some (Value.bool b)) (show true = (((((!(graphOk g)) || (!(workerOk g x))) || (decide (0 < ((x.staged.length : Nat) : Int)))) || (decide (0 < ((x.queue.length : Nat) : Int)))) || (((x.inputs.length : Nat) : Int) == 0)) by first | (rw [hg1] <;> rfl) | (simp [hg1]; done) | (simp only [nat_nlt] <;> simp)), trivial⟩ ⟨E, (by omega), h1, h2, h3, hw1, hw2, hw3, hw4, hw5, hw6, hw7, hw8, h4⟩))))))))))))))))))))
  ·refine J_gd rfl rfl (R_loadS st26 rfl h1.at rfl) rfl (J_gd rfl rfl (R_loadS st33 rfl h2.at rfl) rfl ?_)
   refine J_ung rfl rfl ?_
   refine J_call Try.call14 rfl (c_WorkerOk [o1, .int .i64 g.workers, .int .i64 g.cap] g [o2, o3, o4, o5, o6, o7, o8, o9] x _ (Graph.mkR g (RdD.any (hd1.ext E))) (Worker.mkR x (RdD.any (hd2.ext E)) (RdD.any (hd3.ext E)) (RdD.any (hd4.ext E)) (RdD.any (hd5.ext E)) (RdD.any (hd6.ext E)) (RdD.any (hd7.ext E)) (RdD.any (hd8.ext E)) (RdD.any (hd9.ext E)))) rfl (fun _ w9 e7 hv => ?_)
   subst hv
   replace E := E.trans e7; replace h1 := h1.ext e7; replace h2 := h2.ext e7; replace h3 := h3.ext e7; replace hw1 := hw1.ext e7; replace hw2 := hw2.ext e7; replace hw3 := hw3.ext e7; replace hw4 := hw4.ext e7; replace hw5 := hw5.ext e7; replace hw6 := hw6.ext e7; replace hw7 := hw7.ext e7; replace hw8 := hw8.ext e7; replace h4 := h4.ext e7
   have z8 := e7.size
   refine J_gd rfl rfl (R_not rfl) rfl (J_st (R_pickF rfl rfl) rfl (J_st (R_move rfl) rfl ?_))
   refine J_if (gd := 18) rfl rfl (fun hg2 => ?_) (fun hg2 => ?_)
   ·refine J_gdno rfl rfl rfl rfl (J_gdno rfl rfl rfl rfl (J_gdno rfl rfl rfl rfl (J_gdno rfl rfl rfl rfl (J_st (R_pickT rfl rfl) rfl (J_st (R_move rfl) rfl (J_gdno rfl rfl rfl rfl (J_gdno rfl rfl rfl rfl (J_gdno rfl rfl rfl rfl (J_gdno rfl rfl rfl rfl (J_st (R_pickT rfl rfl) rfl (J_st (R_move rfl) rfl (J_gdno rfl rfl rfl rfl (J_gdno rfl rfl rfl rfl (J_gdno rfl rfl rfl rfl (J_gdno rfl rfl rfl rfl (J_st (R_pickT rfl rfl) rfl (J_cutEnd ⟨rfl, rfl, rfl, rfl, rfl, rfl, rfl, rfl, rfl, congrArg (fun b => some (Value.bool b)) (show true = (((((!(graphOk g)) || (!(workerOk g x))) || (decide (0 < ((x.staged.length : Nat) : Int)))) || (decide (0 < ((x.queue.length : Nat) : Int)))) || (((x.inputs.length : Nat) : Int) == 0)) by first | (rw [hg1, hg2] <;> rfl) | (simp [hg1, hg2]; done) | (simp only [nat_nlt] <;> simp)), trivial⟩ ⟨E, (by omega), h1, h2, h3, hw1, hw2, hw3, hw4, hw5, hw6, hw7, hw8, h4⟩)))))))))))))))))
   ·refine J_gd rfl rfl (R_fieldAddr0 fl33_1 rfl) rfl (J_gd rfl rfl (R_load sc27 rfl (h2.one 1 rfl)) rfl (J_gd rfl rfl (R_len Try.underlying27 rfl (hd3.ext E).len) rfl (J_gd rfl rfl (R_gtr rfl rfl) rfl (J_st (R_pickF rfl rfl) rfl (J_st (R_move rfl) rfl ?_)))))
    refine J_if (gd := 24) rfl rfl (fun hg3 => ?_) (fun hg3 => ?_)
    ·have hg3n : x.staged.length > 0 := by first | (have h := of_decide_eq_true hg3; omega) | (have h := hg3; simp at h; omega)
     refine J_gdno rfl rfl rfl rfl (J_gdno rfl rfl rfl rfl (J_gdno rfl rfl rfl rfl (J_gdno rfl rfl rfl rfl (J_st (R_pickT rfl rfl) rfl (J_st (R_move rfl) rfl (J_gdno rfl rfl rfl rfl (J_gdno rfl rfl rfl rfl (J_gdno rfl rfl rfl rfl (J_gdno rfl rfl rfl rfl (J_st (R_pickT rfl rfl) rfl (J_cutEnd ⟨rfl, rfl, rfl, rfl, rfl, rfl, rfl, rfl, rfl, congrArg (fun b => some (Value.bool b)) (show true = (((((!(graphOk g)) || (!(workerOk g x))) || (decide (0 < ((x.staged.length : Nat) : Int)))) || (decide (0 < ((x.queue.length : Nat) : Int)))) || (((x.inputs.length : Nat) : Int) == 0)) by first | (rw [hg1, hg2, hg3] <;> rfl) | (simp [hg1, hg2, hg3]; done) | (simp only [nat_nlt] <;> simp)), trivial⟩ ⟨E, (by omega), h1, h2, h3, hw1, hw2, hw3, hw4, hw5, hw6, hw7, hw8, h4⟩)))))))))))
    ·have hg3n : ¬ x.staged.length > 0 := by first | (have h := of_decide_eq_false hg3; omega) | (have h := hg3; simp at h; omega)
     refine J_gd rfl rfl (R_fieldAddr0 fl33_0 rfl) rfl (J_gd rfl rfl (R_load sc27 rfl (h2.one 0 rfl)) rfl (J_gd rfl rfl (R_len Try.underlying27 rfl (hd2.ext E).len) rfl (J_gd rfl rfl (R_gtr rfl rfl) rfl (J_st (R_pickF rfl rfl) rfl (J_st (R_move rfl) rfl ?_)))))
     refine J_if (gd := 30) rfl rfl (fun hg4 => ?_) (fun hg4 => ?_)
     ·have hg4n : x.queue.length > 0 := by first | (have h := of_decide_eq_true hg4; omega) | (have h := hg4; simp at h; omega)
      refine J_gdno rfl rfl rfl rfl (J_gdno rfl rfl rfl rfl (J_gdno rfl rfl rfl rfl (J_gdno rfl rfl rfl rfl (J_st (R_pickT rfl rfl) rfl (J_cutEnd ⟨rfl, rfl, rfl, rfl, rfl, rfl, rfl, rfl, rfl, congrArg (fun b => some (Value.bool b)) (show true = (((((!(graphOk g)) || (!(workerOk g x))) || (decide (0 < ((x.staged.length : Nat) : Int)))) || (decide (0 < ((x.queue.length : Nat) : Int)))) || (((x.inputs.length : Nat) : Int) == 0)) by first | (rw [hg1, hg2, hg3, hg4] <;> rfl) | (simp [hg1, hg2, hg3, hg4]; done) | (simp only [nat_nlt] <;> simp)), trivial⟩ ⟨E, (by omega), h1, h2, h3, hw1, hw2, hw3, hw4, hw5, hw6, hw7, hw8, h4⟩)))))
     ·have hg4n : ¬ x.queue.length > 0 := by first | (have h := of_decide_eq_false hg4; omega) | (have h := hg4; simp at h; omega)
      refine J_gd rfl rfl (R_fieldAddr0 fl33_2 rfl) rfl (J_gd rfl rfl (R_load sc27 rfl (h2.one 2 rfl)) rfl (J_gd rfl rfl (R_len Try.underlying27 rfl (hd4.ext E).len) rfl (J_gd rfl rfl (R_eql rfl rfl) rfl (J_st (R_pickF rfl rfl) rfl (J_cutEnd ⟨rfl, rfl, rfl, rfl, rfl, rfl, rfl, rfl, rfl, congrArg (fun b => some (Value.bool b)) (show (((x.inputs.length : Nat) : Int) == 0) = (((((!(graphOk g)) || (!(workerOk g x))) || (decide (0 < ((x.staged.length : Nat) : Int)))) || (decide (0 < ((x.queue.length : Nat) : Int)))) || (((x.inputs.length : Nat) : Int) == 0)) by first | (rw [hg1, hg2, hg3, hg4] <;> rfl) | (simp [hg1, hg2, hg3, hg4]; done) | (simp only [nat_nlt] <;> simp)), trivial⟩ ⟨E, (by omega), h1, h2, h3, hw1, hw2, hw3, hw4, hw5, hw6, hw7, hw8, h4⟩)))))
 clear E h1 h2 h3 hw1 hw2 hw3 hw4 hw5 hw6 hw7 hw8 h4
 rintro w8 ⟨E, z9, h1, h2, h3, hw1, hw2, hw3, hw4, hw5, hw6, hw7, hw8, h4⟩
 refine J_done ?_
 refine S_cond rfl (fun hc1 => ?_) (fun hc1 => ?_)
 ·refine S_seq ?_
  refine S_reg [true, false, true] rfl rfl ?_
  refine J_st (R_loadS st33 rfl h4.at rfl) rfl ?_
  refine J_storeS' (cs' := [o10, o11, o12, o13, o14, o15, o16, o17]) st33 rfl rfl rfl (all_cons hw1.one (all_cons hw2.one (all_cons hw3.one (all_cons hw4.one (all_cons hw5.one (all_cons hw6.one (all_cons hw7.one (all_cons hw8.one rfl)))))))) h3 (Nat.le_of_ble_eq_true rfl) rfl (fun w10 m2 h3' => ?_)
  replace h3 := h3'
  replace E := E.step m2 (fun g hg => by cases hg; omega); replace h1 := h1.mod m2 (fun g hg => by cases hg; omega); replace h2 := h2.mod m2 (fun g hg => by cases hg; omega); replace hw1 := hw1.mod m2 (fun g hg => by cases hg; omega); replace hw2 := hw2.mod m2 (fun g hg => by cases hg; omega); replace hw3 := hw3.mod m2 (fun g hg => by cases hg; omega); replace hw4 := hw4.mod m2 (fun g hg => by cases hg; omega); replace hw5 := hw5.mod m2 (fun g hg => by cases hg; omega); replace hw6 := hw6.mod m2 (fun g hg => by cases hg; omega); replace hw7 := hw7.mod m2 (fun g hg => by cases hg; omega); replace hw8 := hw8.mod m2 (fun g hg => by cases hg; omega); replace h4 := h4.mod m2 (fun g hg => by cases hg; omega)
  have z10 := m2.size
  refine J_st (R_assign rfl) rfl (J_done ?_)
  refine S_ret (E_doneN (l := [.cell 4 33, .tmp 5]) (vs := [.agg [o10, o11, o12, o13, o14, o15, o16, o17].toArray, .bool false]) rfl ⟨.cell rfl (run_loadVar_st st33 h3.at rfl), .tmp rfl, trivial⟩ rfl E ?_)
  rw [take_no hc1]
  exact ⟨_, rfl, (Worker.mkO x sp1 (Own.widen hw1 (by omega) (by omega)) (Own.widen hw2 (by omega) (by omega)) (Own.widen hw3 (by omega) (by omega)) (Own.widen hw4 (by omega) (by omega)) (Own.widen hw5 (by omega) (by omega)) (Own.widen hw6 (by omega) (by omega)) (Own.widen hw7 (by omega) (by omega)) (Own.widen hw8 (by omega) (by omega)))⟩
 ·have htl := take_lt hc1
  refine S_skip ?_
  refine S_seq ?_
  refine S_regX mixed [7] [(0, true), (1, true), (2, true), (3, true), (4, true), (5, true), (6, false)] [(7, false), (8, true), (9, false)] (by decide +kernel) rfl rfl (fun w11 e8 => ?_)
  replace E := E.trans e8; replace h1 := h1.ext e8; replace h2 := h2.ext e8; replace h3 := h3.ext e8; replace hw1 := hw1.ext e8; replace hw2 := hw2.ext e8; replace hw3 := hw3.ext e8; replace hw4 := hw4.ext e8; replace hw5 := hw5.ext e8; replace hw6 := hw6.ext e8; replace hw7 := hw7.ext e8; replace hw8 := hw8.ext e8; replace h4 := h4.ext e8
  have z11 := e8.size
  refine J_st (R_fieldAddr0 fl33_0 rfl) rfl (J_st (R_load sc27 rfl (h4.one 0 rfl)) rfl (J_st (R_fieldAddr0 fl33_2 rfl) rfl (J_st (R_load sc27 rfl (h2.one 2 rfl)) rfl ?_)))
  have hi1 : 0 < x.inputs.length := (by first | assumption | omega | (simp only [List.length_set]; first | assumption | omega) | (simp only [List.getElem_set_self, List.length_set]; first | assumption | omega) | (simp only [setW, setLk, List.length_set]; first | assumption | omega) | (simp; done))
  refine J_st (R_index (i := 0) sl27 rfl rfl (hd4.rd.ext E) hi1) rfl (J_st (R_loadS st43 rfl ((hd4.rd.ext E).get hi1) rfl) rfl ?_)
  refine J_buildSlice (vs := [.agg (Enc.enc (x.inputs[0]'hi1)).toArray]) (css := [[.int .i64 ((x.inputs[0]'hi1).op), .int .i64 (((x.inputs[0]'hi1).stamp).epoch), .int .i64 (((x.inputs[0]'hi1).stamp).turn), .int .i64 ((x.inputs[0]'hi1).key), .int .i64 ((x.inputs[0]'hi1).val)]]) sl27 rfl rfl ⟨⟨rfl, rfl⟩, trivial⟩ rfl rfl (fun b5 w12 e9 s5 h5 => ?_)
  replace h5 : Blk w12 b5 [.int .i64 ((x.inputs[0]'hi1).op), .int .i64 (((x.inputs[0]'hi1).stamp).epoch), .int .i64 (((x.inputs[0]'hi1).stamp).turn), .int .i64 ((x.inputs[0]'hi1).key), .int .i64 ((x.inputs[0]'hi1).val)] := h5
  have g_b5 : w.heap.size ≤ b5 := by have := E.size; omega
  have y_b5 := h5.lt
  replace E := E.trans e9; replace h1 := h1.ext e9; replace h2 := h2.ext e9; replace h3 := h3.ext e9; replace hw1 := hw1.ext e9; replace hw2 := hw2.ext e9; replace hw3 := hw3.ext e9; replace hw4 := hw4.ext e9; replace hw5 := hw5.ext e9; replace hw6 := hw6.ext e9; replace hw7 := hw7.ext e9; replace hw8 := hw8.ext e9; replace h4 := h4.ext e9
  have z12 := e9.size
  refine JX_tail ?_
  refine J2_X rfl ?_
  refine J_appendB sl27 rfl rfl hw1 (Src.ofBlk h5 rfl) rfl (by unfold cntWorker at hb; simp only [sum_flat, List.length_nil, List.length_cons, List.length_drop]; simp only [Enc.sz]; omega) (by decide) (by omega) (by omega) rfl rfl (fun v1 w13 m3 ho2 hb1 => ?_)
  have hn1 : ∀ g, Value.ownBlock v1 = some g → g < w4.heap.size ∨ w12.heap.size ≤ g := fun g hg => (hb1 g hg).elim (fun h => .inl (by have := Own.blk hw1 g h; omega)) (fun h => .inr h)
  have sq1 := sp1
  replace sp1 := SepL.set hb1 0 rfl sp1 ⟨(Own.lt hw1), (Own.lt hw2), (Own.lt hw3), (Own.lt hw4), (Own.lt hw5), (Own.lt hw6), (Own.lt hw7), (Own.lt hw8), trivial⟩
  replace sp1 : SepL [v1, o11, o12, o13, o14, o15, o16, o17] := sp1
  replace E := E.step m3 (fun g hg => by have := Own.blk hw1 g hg; omega); replace h1 := h1.mod m3 (fun g hg => by have := Own.blk hw1 g hg; omega); replace h2 := h2.mod m3 (fun g hg => by have := Own.blk hw1 g hg; omega); replace h3 := h3.mod m3 (fun g hg => by have := Own.blk hw1 g hg; omega); replace hw2 := Own.modS hw2 m3 sq1.1.1; replace hw3 := Own.modS hw3 m3 sq1.1.2.1; replace hw4 := Own.modS hw4 m3 sq1.1.2.2.1; replace hw5 := Own.modS hw5 m3 sq1.1.2.2.2.1; replace hw6 := Own.modS hw6 m3 sq1.1.2.2.2.2.1; replace hw7 := Own.modS hw7 m3 sq1.1.2.2.2.2.2.1; replace hw8 := Own.modS hw8 m3 sq1.1.2.2.2.2.2.2.1; replace h4 := h4.mod m3 (fun g hg => by have := Own.blk hw1 g hg; omega)
  have z13 := m3.size
  replace ho2 : Own w13 w3.heap.size w13.heap.size 5 v1 (List.flatMap (Enc.enc (α := Record)) (x.queue ++ [(x.inputs[0]'hi1)])) := by rw [List.flatMap_append]; exact ho2
  refine JX_go ?_
  refine J_st (R_fieldAddr0 fl33_0 rfl) rfl ?_
  refine J_store' (cs' := [v1, o11, o12, o13, o14, o15, o16, o17]) sc27 rfl rfl ho2.one h4 (Nat.le_of_ble_eq_true rfl) rfl (fun w14 m4 h4' => ?_)
  replace h4 := h4'
  replace E := E.step m4 (fun g hg => by cases hg; omega); replace h1 := h1.mod m4 (fun g hg => by cases hg; omega); replace h2 := h2.mod m4 (fun g hg => by cases hg; omega); replace h3 := h3.mod m4 (fun g hg => by cases hg; omega); replace hw2 := hw2.mod m4 (fun g hg => by cases hg; omega); replace hw3 := hw3.mod m4 (fun g hg => by cases hg; omega); replace hw4 := hw4.mod m4 (fun g hg => by cases hg; omega); replace hw5 := hw5.mod m4 (fun g hg => by cases hg; omega); replace hw6 := hw6.mod m4 (fun g hg => by cases hg; omega); replace hw7 := hw7.mod m4 (fun g hg => by cases hg; omega); replace hw8 := hw8.mod m4 (fun g hg => by cases hg; omega); replace ho2 := Own.modN ho2 m4 (fun g hg hv => by have hN := hn1 g hv; have hB := Own.blk ho2 g hv; cases hg; omega)
  have z14 := m4.size
  refine J_done ?_
  refine S_seq ?_
  refine S_reg [true, true, true, true, false] rfl rfl ?_
  refine J_st (R_fieldAddr0 fl33_2 rfl) rfl (J_st (R_load sc27 rfl (h4.one 2 rfl)) rfl ?_)
  have hk1 : 1 ≤ x.inputs.length := by first | assumption | omega
  have hs1 := Own.slFromE (α := Record) hw3 hk1
  replace hs1 : Own w14 w3.heap.size w4.heap.size 5 (slFrom o12 1 5) (List.flatMap (Enc.enc (α := Record)) (List.drop 1 x.inputs)) := hs1
  have hb2 : Become w14 o12 (slFrom o12 1 5) := fun g hg => .inl (by rwa [slFrom_blk] at hg)
  replace sp1 := SepL.set hb2 2 rfl sp1 ⟨(Own.lt ho2), (Own.lt hw2), (Own.lt hw3), (Own.lt hw4), (Own.lt hw5), (Own.lt hw6), (Own.lt hw7), (Own.lt hw8), trivial⟩
  replace sp1 : SepL [v1, o11, slFrom o12 1 5, o13, o14, o15, o16, o17] := sp1
  refine J_st (R_sliceFrom sl27 rfl rfl (Own.roomE (α := Record) hw3) hk1) rfl (J_st (R_fieldAddr0 fl33_2 rfl) rfl ?_)
  refine J_store' (cs' := [v1, o11, slFrom o12 1 5, o13, o14, o15, o16, o17]) sc27 rfl rfl hs1.one h4 (Nat.le_of_ble_eq_true rfl) rfl (fun w15 m5 h4' => ?_)
  replace h4 := h4'
  replace E := E.step m5 (fun g hg => by cases hg; omega); replace h1 := h1.mod m5 (fun g hg => by cases hg; omega); replace h2 := h2.mod m5 (fun g hg => by cases hg; omega); replace h3 := h3.mod m5 (fun g hg => by cases hg; omega); replace hw2 := hw2.mod m5 (fun g hg => by cases hg; omega); replace hw4 := hw4.mod m5 (fun g hg => by cases hg; omega); replace hw5 := hw5.mod m5 (fun g hg => by cases hg; omega); replace hw6 := hw6.mod m5 (fun g hg => by cases hg; omega); replace hw7 := hw7.mod m5 (fun g hg => by cases hg; omega); replace hw8 := hw8.mod m5 (fun g hg => by cases hg; omega); replace ho2 := Own.modN ho2 m5 (fun g hg hv => by have hN := hn1 g hv; have hB := Own.blk ho2 g hv; cases hg; omega); replace hs1 := hs1.mod m5 (fun g hg => by cases hg; omega)
  have z15 := m5.size
  refine J_done ?_
  refine S_seq ?_
  refine S_reg [true, false, true] rfl rfl ?_
  refine J_st (R_loadS st33 rfl h4.at rfl) rfl ?_
  refine J_storeS' (cs' := [v1, o11, slFrom o12 1 5, o13, o14, o15, o16, o17]) st33 rfl rfl rfl (all_cons ho2.one (all_cons hw2.one (all_cons hs1.one (all_cons hw4.one (all_cons hw5.one (all_cons hw6.one (all_cons hw7.one (all_cons hw8.one rfl)))))))) h3 (Nat.le_of_ble_eq_true rfl) rfl (fun w16 m6 h3' => ?_)
  replace h3 := h3'
  replace E := E.step m6 (fun g hg => by cases hg; omega); replace h1 := h1.mod m6 (fun g hg => by cases hg; omega); replace h2 := h2.mod m6 (fun g hg => by cases hg; omega); replace hw2 := hw2.mod m6 (fun g hg => by cases hg; omega); replace hw4 := hw4.mod m6 (fun g hg => by cases hg; omega); replace hw5 := hw5.mod m6 (fun g hg => by cases hg; omega); replace hw6 := hw6.mod m6 (fun g hg => by cases hg; omega); replace hw7 := hw7.mod m6 (fun g hg => by cases hg; omega); replace hw8 := hw8.mod m6 (fun g hg => by cases hg; omega); replace h4 := h4.mod m6 (fun g hg => by cases hg; omega); replace ho2 := Own.modN ho2 m6 (fun g hg hv => by have hN := hn1 g hv; have hB := Own.blk ho2 g hv; cases hg; omega); replace hs1 := hs1.mod m6 (fun g hg => by cases hg; omega)
  have z16 := m6.size
  refine J_st (R_assign rfl) rfl (J_done ?_)
  refine S_ret (E_doneN (l := [.cell 4 33, .tmp 5]) (vs := [.agg [v1, o11, slFrom o12 1 5, o13, o14, o15, o16, o17].toArray, .bool true]) rfl ⟨.cell rfl (run_loadVar_st st33 h3.at rfl), .tmp rfl, trivial⟩ rfl E ?_)
  rw [take_yes hc1 htl]
  exact ⟨_, rfl, (Worker.mkO (⟨x.queue ++ [(x.inputs[0]'hi1)], x.staged, List.drop 1 x.inputs, x.cells, x.sums, x.black, x.caps, x.dones⟩ : Worker) sp1 (Own.widen ho2 (by omega) (by omega)) (Own.widen hw2 (by omega) (by omega)) (Own.widen hs1 (by omega) (by omega)) (Own.widen hw4 (by omega) (by omega)) (Own.widen hw5 (by omega) (by omega)) (Own.widen hw6 (by omega) (by omega)) (Own.widen hw7 (by omega) (by omega)) (Own.widen hw8 (by omega) (by omega)))⟩

set_option maxRecDepth 20000 in
theorem s_Remembers (k : Int) (w : World)  : Ct Try.prog 68 [.int .i64 k] w (fun v _ => v = .bool (((k == 5) || (k == 6)) || (k == 8))) := by
 refine ct_of Try.func68 rfl Try.ntmps68 rfl ?_
 refine S_sub [(0, .int .i64 k)] ⟨rfl, trivial⟩ ?_
 have E : Ext w w := Ext.refl w
 refine S_seq ?_
 refine S_reg [true] rfl rfl ?_
 refine J_st (R_assign rfl) rfl (J_done ?_)
 refine S_seq ?_
 refine S_reg [true, true, true, true, true, true, true, true, true, true, true] rfl rfl ?_
 refine J_st (R_move rfl) rfl (J_st (R_eql rfl rfl) rfl (J_st (R_move rfl) rfl ?_))
 refine J_cut 7 [(0, .int .i64 k), (2, .bool false), (12, .bool (((k == 5) || (k == 6)) || (k == 8)))] (fun w' => w = w') ?_ ?_
 ·refine J_if (gd := 5) rfl rfl (fun hg1 => ?_) (fun hg1 => ?_)
  ·refine J_gdno rfl rfl rfl rfl (J_gdno rfl rfl rfl rfl (J_st (R_pickT rfl rfl) rfl (J_st (R_move rfl) rfl (J_gdno rfl rfl rfl rfl (J_gdno rfl rfl rfl rfl (J_st (R_pickT rfl rfl) rfl (J_cutEnd ⟨rfl, rfl, congrArg (fun b => some (Value.bool b)) (show true = (((k == 5) || (k == 6)) || (k == 8)) by first | (rw [hg1] <;> rfl) | (simp [hg1]; done) | (simp only [nat_nlt] <;> simp)), trivial⟩ rfl)))))))
  ·refine J_gd rfl rfl (R_move rfl) rfl (J_gd rfl rfl (R_eql rfl rfl) rfl (J_st (R_pickF rfl rfl) rfl (J_st (R_move rfl) rfl ?_)))
   refine J_if (gd := 9) rfl rfl (fun hg2 => ?_) (fun hg2 => ?_)
   ·refine J_gdno rfl rfl rfl rfl (J_gdno rfl rfl rfl rfl (J_st (R_pickT rfl rfl) rfl (J_cutEnd ⟨rfl, rfl, congrArg (fun b => some (Value.bool b)) (show true = (((k == 5) || (k == 6)) || (k == 8)) by first | (rw [hg1, hg2] <;> rfl) | (simp [hg1, hg2]; done) | (simp only [nat_nlt] <;> simp)), trivial⟩ rfl)))
   ·refine J_gd rfl rfl (R_move rfl) rfl (J_gd rfl rfl (R_eql rfl rfl) rfl (J_st (R_pickF rfl rfl) rfl (J_cutEnd ⟨rfl, rfl, congrArg (fun b => some (Value.bool b)) (show (k == 8) = (((k == 5) || (k == 6)) || (k == 8)) by first | (rw [hg1, hg2] <;> rfl) | (simp [hg1, hg2]; done) | (simp only [nat_nlt] <;> simp)), trivial⟩ rfl)))
 rintro _ rfl
 refine J_st (R_assign rfl) rfl (J_done ?_)
 refine S_ret (E_done1 rfl rfl E ?_)
 rfl

set_option maxHeartbeats 4000000 in
set_option maxRecDepth 20000 in
theorem s_StepOp (cg : List Value) (g : Graph) (vcs : Value) (cs : List Cell) (r : Record) (w : World) (hg : Dat.R w 0 w.heap.size cg g) (hcs : RdS w vcs cs) (hb : cs.length ≤ 4194304) (hcg : cntGraph g ≤ 1048576) : Ct Try.prog 59 [.agg cg.toArray, vcs, .agg (Enc.enc r).toArray] w (fun v w' => ∃ u0 u1, v = .tuple [u0, u1, .bool ((stepM g cs r).2.2)].toArray ∧ Own w' w.heap.size w'.heap.size 4 u0 (List.flatMap (Enc.enc (α := Cell)) ((stepM g cs r).1)) ∧ Own w' w.heap.size w'.heap.size 5 u1 (List.flatMap (Enc.enc (α := Record)) ((stepM g cs r).2.1)) ∧ SepL [u0, u1]) := by
 refine ct_of Try.func59 rfl Try.ntmps59 rfl ?_
 obtain ⟨o1, rfl, hd1⟩ := Graph.op hg
 refine S_sub [(0, .agg [o1, .int .i64 g.workers, .int .i64 g.cap].toArray), (1, vcs), (2, .agg (Enc.enc r).toArray)] ⟨rfl, rfl, rfl, trivial⟩ ?_
 have E : Ext w w := Ext.refl w
 refine S_seq ?_
 refine S_reg [false, false, true, true, true] rfl rfl ?_
 refine J_box rfl rfl (fun b1 w1 e1 s1 h1 => ?_)
 have g_b1 : w.heap.size ≤ b1 := by have := E.size; omega
 have y_b1 := h1.lt
 replace E := E.trans e1
 have z1 := e1.size
 refine J_box rfl rfl (fun b2 w2 e2 s2 h2 => ?_)
 have g_b2 : w.heap.size ≤ b2 := by have := E.size; omega
 have y_b2 := h2.lt
 replace E := E.trans e2; replace h1 := h1.ext e2
 have z2 := e2.size
 refine J_st (R_assign rfl) rfl (J_st (R_assign rfl) rfl (J_st (R_assign rfl) rfl (J_done ?_)))
 refine S_seq ?_
 refine S_reg [false, true, false, true] rfl rfl ?_
 refine J_buildSlice (vs := []) (css := []) sl28 rfl rfl trivial rfl rfl (fun b3 w3 e3 s3 h3 => ?_)
 replace h3 : Blk w3 b3 [] := h3
 have g_b3 : w.heap.size ≤ b3 := by have := E.size; omega
 have y_b3 := h3.lt
 replace E := E.trans e3; replace h1 := h1.ext e3; replace h2 := h2.ext e3
 have z3 := e3.size
 refine J_st (R_move rfl) rfl ?_
 refine J_append sl28 rfl rfl (Own.ofBlk (lo := b3) (hi := b3 + 1) (sz := 4) h3 (Nat.le_refl _) (Nat.lt_succ_self _) (by simp) (by simp [maxLen])) (RdS.src (hcs.ext E)) (flat_one _) (by first | (simp only [sum_flat, List.length_nil, List.length_cons]; simp only [Enc.sz]; omega) | (have h := out_len g r k; rw [sum_flat]; simp only [show Enc.sz Record = 5 from rfl, List.length_cons, List.length_nil]; omega)) (by decide) (by omega) (by omega) rfl rfl (fun v1 w4 m1 ho1 => ?_)
 replace E := E.step m1 (fun g hg => by have := Own.blk (Own.ofBlk (lo := b3) (hi := b3 + 1) (sz := 4) h3 (Nat.le_refl _) (Nat.lt_succ_self _) (by simp) (by simp [maxLen])) g hg; omega); replace h1 := h1.mod m1 (fun g hg => by have := Own.blk (Own.ofBlk (lo := b3) (hi := b3 + 1) (sz := 4) h3 (Nat.le_refl _) (Nat.lt_succ_self _) (by simp) (by simp [maxLen])) g hg; omega); replace h2 := h2.mod m1 (fun g hg => by have := Own.blk (Own.ofBlk (lo := b3) (hi := b3 + 1) (sz := 4) h3 (Nat.le_refl _) (Nat.lt_succ_self _) (by simp) (by simp [maxLen])) g hg; omega)
 have z4 := m1.size
 refine J_st (R_assign rfl) rfl (J_done ?_)
 refine S_seq ?_
 refine S_reg [false, true] rfl rfl ?_
 refine J_buildSlice (vs := []) (css := []) sl27 rfl rfl trivial rfl rfl (fun b4 w5 e4 s4 h4 => ?_)
 replace h4 : Blk w5 b4 [] := h4
 have g_b4 : w.heap.size ≤ b4 := by have := E.size; omega
 have y_b4 := h4.lt
 replace E := E.trans e4; replace h1 := h1.ext e4; replace h2 := h2.ext e4; replace ho1 := ho1.ext e4
 have z5 := e4.size
 refine J_st (R_assign rfl) rfl (J_done ?_)
 refine S_seq ?_
 refine S_reg [true, true, true, false, true, true, true, false, false, true] rfl rfl ?_
 refine J_st (R_loadS st26 rfl h1.at rfl) rfl (J_st (R_fieldAddr0 fl43_0 rfl) rfl (J_st (R_load sc3 rfl (h2.one 0 rfl)) rfl ?_))
 refine J_call Try.call65 rfl (s_NodeOf [o1, .int .i64 g.workers, .int .i64 g.cap] g r.op _ (Graph.mkR g (RdD.any (hd1.ext E))) (by first | omega | (simp only [mkL_length]; omega) | (rw [mkL_length]; done) | (simp only [mkL_length]; done))) rfl (fun _ w6 e5 ho2 => ?_)
 obtain ⟨_, rfl, ho3⟩ := ho2
 have g_ho2 : w.heap.size ≤ w5.heap.size := E.size
 replace E := E.trans e5; replace h1 := h1.ext e5; replace h2 := h2.ext e5; replace ho1 := ho1.ext e5; replace h4 := h4.ext e5
 have z6 := e5.size
 obtain ⟨o2, rfl, sp1, hw1⟩ := Node.opO ho3
 refine J_st (R_move rfl) rfl (J_st (R_extract rfl rfl) rfl (J_st (R_extract rfl rfl) rfl ?_))
 refine J_alloc st45 rfl (fun b5 w7 e6 s5 h5 => ?_)
 have g_b5 : w.heap.size ≤ b5 := by have := E.size; omega
 have y_b5 := h5.lt
 replace E := E.trans e6; replace h1 := h1.ext e6; replace h2 := h2.ext e6; replace ho1 := ho1.ext e6; replace h4 := h4.ext e6; replace hw1 := hw1.ext e6
 have z7 := e6.size
 refine J_storeS' (cs' := [.int .i64 (((nodeOf g r.op).1).kind), .int .i64 (((nodeOf g r.op).1).a), .int .i64 (((nodeOf g r.op).1).b), o2]) st45 rfl rfl rfl (all_cons rfl (all_cons rfl (all_cons rfl (all_cons hw1.one rfl)))) h5 (Nat.le_of_ble_eq_true rfl) rfl (fun w8 m2 h5' => ?_)
 replace h5 := h5'
 replace E := E.step m2 (fun g hg => by cases hg; omega); replace h1 := h1.mod m2 (fun g hg => by cases hg; omega); replace h2 := h2.mod m2 (fun g hg => by cases hg; omega); replace ho1 := ho1.mod m2 (fun g hg => by cases hg; omega); replace h4 := h4.mod m2 (fun g hg => by cases hg; omega); replace hw1 := hw1.mod m2 (fun g hg => by cases hg; omega)
 have z8 := m2.size
 refine J_st (R_assign rfl) rfl (J_done ?_)
 refine S_seq ?_
 refine S_seq ?_
 refine S_reg [true, true, true, true, false, true, true, true, true, false, true, true] rfl rfl ?_
 refine J_st (R_move rfl) rfl (J_st (R_not rfl) rfl (J_st (R_move rfl) rfl ?_))
 refine J_cut 9 [(0, .agg [o1, .int .i64 g.workers, .int .i64 g.cap].toArray), (1, vcs), (2, .agg (Enc.enc r).toArray), (3, .pointer (some ⟨b1, 0, none⟩)), (5, .pointer (some ⟨b2, 0, none⟩)), (6, .slice none 0 0), (7, .slice none 0 0), (8, .bool false), (9, v1), (10, .slice (some ⟨b4, 0, none⟩) 0 0), (11, .pointer (some ⟨b5, 0, none⟩)), (12, .bool ((nodeOf g r.op).2)), (22, .slice (some ⟨b3, 0, none⟩) 0 0), (23, vcs), (24, v1), (25, .slice (some ⟨b4, 0, none⟩) 0 0), (26, .tuple [.agg [.int .i64 (((nodeOf g r.op).1).kind), .int .i64 (((nodeOf g r.op).1).a), .int .i64 (((nodeOf g r.op).1).b), o2].toArray, .bool ((nodeOf g r.op).2)].toArray), (27, .agg [o1, .int .i64 g.workers, .int .i64 g.cap].toArray), (28, .pointer (some ⟨b2, 0, none⟩)), (29, .int .i64 r.op), (30, .tuple [.agg [.int .i64 (((nodeOf g r.op).1).kind), .int .i64 (((nodeOf g r.op).1).a), .int .i64 (((nodeOf g r.op).1).b), o2].toArray, .bool ((nodeOf g r.op).2)].toArray), (31, .agg [.int .i64 (((nodeOf g r.op).1).kind), .int .i64 (((nodeOf g r.op).1).a), .int .i64 (((nodeOf g r.op).1).b), o2].toArray), (32, .bool ((nodeOf g r.op).2)), (44, .bool (((!((nodeOf g r.op).2)) || (!(graphOk g))) || (!(recordOk r))))] (fun w' => Ext w w' ∧ w8.heap.size ≤ w'.heap.size ∧ Blk w' b1 ([o1, .int .i64 g.workers, .int .i64 g.cap]) ∧ Blk w' b2 (Enc.enc r) ∧ Own w' b3 w4.heap.size 4 v1 ([] ++ List.flatMap (Enc.enc (α := Cell)) cs) ∧ Blk w' b4 [] ∧ Own w' w5.heap.size w6.heap.size 1 o2 (List.flatMap (Enc.enc (α := Int)) (((nodeOf g r.op).1).outs)) ∧ Blk w' b5 [.int .i64 (((nodeOf g r.op).1).kind), .int .i64 (((nodeOf g r.op).1).a), .int .i64 (((nodeOf g r.op).1).b), o2]) ?_ ?_
 ·refine J_if (gd := 35) rfl rfl (fun hg1 => ?_) (fun hg1 => ?_)
  ·refine J_gdno rfl rfl rfl rfl ?_
   refine J_ungno rfl rfl rfl rfl ?_
   refine J_gdno rfl rfl rfl rfl (J_st (R_pickT rfl rfl) rfl (J_st (R_move rfl) rfl (J_gdno rfl rfl rfl rfl ?_)))
   refine J_ungno rfl rfl rfl rfl ?_
   refine J_gdno rfl rfl rfl rfl (J_st (R_pickT rfl rfl) rfl (J_cutEnd ⟨rfl, rfl, rfl, rfl, rfl, rfl, rfl, rfl, rfl, rfl, rfl, rfl, rfl, rfl, rfl, rfl, rfl, rfl, rfl, rfl, rfl, rfl, rfl, congrArg (fun b => some (Value.bool b)) (show true = (((!((nodeOf g r.op).2)) || (!(graphOk g))) || (!(recordOk r))) by first | (rw [hg1] <;> rfl) | (simp [hg1]; done) | (simp only [nat_nlt] <;> simp)), trivial⟩ ⟨E, (by omega), h1, h2, ho1, h4, hw1, h5⟩))
  ·refine J_gd rfl rfl (R_loadS st26 rfl h1.at rfl) rfl ?_
   refine J_ung rfl rfl ?_
   refine J_call Try.call56 rfl (s_GraphOk [o1, .int .i64 g.workers, .int .i64 g.cap] g _ (Graph.mkR g (RdD.any (hd1.ext E)))) rfl (fun _ w10 e7 hv => ?_)
   subst hv
   replace E := E.trans e7; replace h1 := h1.ext e7; replace h2 := h2.ext e7; replace ho1 := ho1.ext e7; replace h4 := h4.ext e7; replace hw1 := hw1.ext e7; replace h5 := h5.ext e7
   have z9 := e7.size
   refine J_gd rfl rfl (R_not rfl) rfl (J_st (R_pickF rfl rfl) rfl (J_st (R_move rfl) rfl ?_))
   refine J_if (gd := 40) rfl rfl (fun hg2 => ?_) (fun hg2 => ?_)
   ·refine J_gdno rfl rfl rfl rfl ?_
    refine J_ungno rfl rfl rfl rfl ?_
    refine J_gdno rfl rfl rfl rfl (J_st (R_pickT rfl rfl) rfl (J_cutEnd ⟨rfl, rfl, rfl, rfl, rfl, rfl, rfl, rfl, rfl, rfl, rfl, rfl, rfl, rfl, rfl, rfl, rfl, rfl, rfl, rfl, rfl, rfl, rfl, congrArg (fun b => some (Value.bool b)) (show true = (((!((nodeOf g r.op).2)) || (!(graphOk g))) || (!(recordOk r))) by first | (rw [hg1, hg2] <;> rfl) | (simp [hg1, hg2]; done) | (simp only [nat_nlt] <;> simp)), trivial⟩ ⟨E, (by omega), h1, h2, ho1, h4, hw1, h5⟩))
   ·refine J_gd rfl rfl (R_loadS st43 rfl h2.at rfl) rfl ?_
    refine J_ung rfl rfl ?_
    refine J_call Try.call66 rfl (s_RecordOk r _ ) rfl (fun _ w11 e8 hv => ?_)
    subst hv
    replace E := E.trans e8; replace h1 := h1.ext e8; replace h2 := h2.ext e8; replace ho1 := ho1.ext e8; replace h4 := h4.ext e8; replace hw1 := hw1.ext e8; replace h5 := h5.ext e8
    have z10 := e8.size
    refine J_gd rfl rfl (R_not rfl) rfl (J_st (R_pickF rfl rfl) rfl (J_cutEnd ⟨rfl, rfl, rfl, rfl, rfl, rfl, rfl, rfl, rfl, rfl, rfl, rfl, rfl, rfl, rfl, rfl, rfl, rfl, rfl, rfl, rfl, rfl, rfl, congrArg (fun b => some (Value.bool b)) (show (!(recordOk r)) = (((!((nodeOf g r.op).2)) || (!(graphOk g))) || (!(recordOk r))) by first | (rw [hg1, hg2] <;> rfl) | (simp [hg1, hg2]; done) | (simp only [nat_nlt] <;> simp)), trivial⟩ ⟨E, (by omega), h1, h2, ho1, h4, hw1, h5⟩))
 clear E h1 h2 ho1 h4 hw1 h5
 rintro w9 ⟨E, z11, h1, h2, ho1, h4, hw1, h5⟩
 refine J_done ?_
 refine S_cond rfl (fun hc1 => ?_) (fun hc1 => ?_)
 ·replace hc1 := st_spt hc1
  refine S_seq ?_
  refine S_reg [true, true, true, true, true] rfl rfl ?_
  refine J_st (R_move rfl) rfl (J_st (R_move rfl) rfl (J_st (R_assign rfl) rfl (J_st (R_assign rfl) rfl (J_st (R_assign rfl) rfl (J_done ?_)))))
  refine S_ret (E_doneN (l := [.tmp 6, .tmp 7, .tmp 8]) (vs := [v1, .slice (some ⟨b4, 0, none⟩) 0 0, .bool false]) rfl ⟨.tmp rfl, .tmp rfl, .tmp rfl, trivial⟩ rfl E ?_)
  rw [st_0 hc1]
  exact ⟨_, _, rfl, Own.fin ho1 (by omega) (by omega) (by first | rfl | (simp only [List.nil_append]; done)), Own.fin (Own.ofBlk (lo := b4) (hi := b4 + 1) (sz := 5) h4 (Nat.le_refl _) (Nat.lt_succ_self _) (by rfl) (by unfold maxLen; omega)) (by omega) (by omega) (by first | rfl | (simp only [List.nil_append]; done)), ⟨⟨(Own.sep ho1 (Own.ofBlk (lo := b4) (hi := b4 + 1) (sz := 5) h4 (Nat.le_refl _) (Nat.lt_succ_self _) (by rfl) (by unfold maxLen; omega)) (by omega)), trivial⟩, ⟨trivial, trivial⟩⟩⟩
 ·replace hc1 := st_spf hc1
  have hq := st_of hc1
  have hop := isNode_of hq.2
  have hx : ((nodeOf g r.op).1) = stNode g r := nodeOf_1 hq.2
  have hol : ((nodeOf g r.op).1).outs.length ≤ 2 := hx ▸ outs_two (i := Int.toNat r.op) hq.1 (by omega)
  refine S_skip ?_
  refine S_seq ?_
  refine S_reg [true, true, true, true, true, false, true, true, true, true, true, true, true] rfl rfl ?_
  refine J_st (R_loadS st45 rfl h5.at rfl) rfl (J_st (R_fieldAddr0 fl43_2 rfl) rfl (J_st (R_load sc3 rfl (h2.one 3 rfl)) rfl (J_st (R_fieldAddr0 fl43_3 rfl) rfl (J_st (R_load sc3 rfl (h2.one 4 rfl)) rfl ?_))))
  refine J_call Try.call67 rfl (s_Changed [.int .i64 (((nodeOf g r.op).1).kind), .int .i64 (((nodeOf g r.op).1).a), .int .i64 (((nodeOf g r.op).1).b), o2] ((nodeOf g r.op).1) r.key r.val _ (Node.mkR ((nodeOf g r.op).1) (RdD.any (Own.rdD hw1)))) rfl (fun _ w12 e9 hv => ?_)
  subst hv
  replace E := E.trans e9; replace h1 := h1.ext e9; replace h2 := h2.ext e9; replace ho1 := ho1.ext e9; replace h4 := h4.ext e9; replace hw1 := hw1.ext e9; replace h5 := h5.ext e9
  have z12 := e9.size
  refine J_st (R_move rfl) rfl (J_st (R_extract rfl rfl) rfl (J_st (R_extract rfl rfl) rfl (J_st (R_extract rfl rfl) rfl (J_st (R_assign rfl) rfl (J_st (R_assign rfl) rfl (J_st (R_assign rfl) rfl (J_done ?_)))))))
  refine S_seq ?_
  refine S_seq ?_
  refine S_reg [true, true, true, true, true, true, true] rfl rfl ?_
  refine J_st (R_move rfl) rfl (J_st (R_not rfl) rfl (J_st (R_move rfl) rfl ?_))
  refine J_cut 4 [(0, .agg [o1, .int .i64 g.workers, .int .i64 g.cap].toArray), (1, vcs), (2, .agg (Enc.enc r).toArray), (3, .pointer (some ⟨b1, 0, none⟩)), (5, .pointer (some ⟨b2, 0, none⟩)), (6, .slice none 0 0), (7, .slice none 0 0), (8, .bool false), (9, v1), (10, .slice (some ⟨b4, 0, none⟩) 0 0), (11, .pointer (some ⟨b5, 0, none⟩)), (12, .bool ((nodeOf g r.op).2)), (13, .int .i64 ((changedM ((nodeOf g r.op).1) r.key r.val).1)), (14, .int .i64 ((changedM ((nodeOf g r.op).1) r.key r.val).2.1)), (15, .bool ((changedM ((nodeOf g r.op).1) r.key r.val).2.2)), (22, .slice (some ⟨b3, 0, none⟩) 0 0), (23, vcs), (24, v1), (25, .slice (some ⟨b4, 0, none⟩) 0 0), (26, .tuple [.agg [.int .i64 (((nodeOf g r.op).1).kind), .int .i64 (((nodeOf g r.op).1).a), .int .i64 (((nodeOf g r.op).1).b), o2].toArray, .bool ((nodeOf g r.op).2)].toArray), (27, .agg [o1, .int .i64 g.workers, .int .i64 g.cap].toArray), (28, .pointer (some ⟨b2, 0, none⟩)), (29, .int .i64 r.op), (30, .tuple [.agg [.int .i64 (((nodeOf g r.op).1).kind), .int .i64 (((nodeOf g r.op).1).a), .int .i64 (((nodeOf g r.op).1).b), o2].toArray, .bool ((nodeOf g r.op).2)].toArray), (31, .agg [.int .i64 (((nodeOf g r.op).1).kind), .int .i64 (((nodeOf g r.op).1).a), .int .i64 (((nodeOf g r.op).1).b), o2].toArray), (32, .bool ((nodeOf g r.op).2)), (44, .bool (((!((nodeOf g r.op).2)) || (!(graphOk g))) || (!(recordOk r)))), (47, .tuple [.int .i64 ((changedM ((nodeOf g r.op).1) r.key r.val).1), .int .i64 ((changedM ((nodeOf g r.op).1) r.key r.val).2.1), .bool ((changedM ((nodeOf g r.op).1) r.key r.val).2.2)].toArray), (48, .agg [.int .i64 (((nodeOf g r.op).1).kind), .int .i64 (((nodeOf g r.op).1).a), .int .i64 (((nodeOf g r.op).1).b), o2].toArray), (49, .pointer (some ⟨b2, 3, none⟩)), (50, .int .i64 r.key), (51, .pointer (some ⟨b2, 4, none⟩)), (52, .int .i64 r.val), (53, .tuple [.int .i64 ((changedM ((nodeOf g r.op).1) r.key r.val).1), .int .i64 ((changedM ((nodeOf g r.op).1) r.key r.val).2.1), .bool ((changedM ((nodeOf g r.op).1) r.key r.val).2.2)].toArray), (54, .int .i64 ((changedM ((nodeOf g r.op).1) r.key r.val).1)), (55, .int .i64 ((changedM ((nodeOf g r.op).1) r.key r.val).2.1)), (56, .bool ((changedM ((nodeOf g r.op).1) r.key r.val).2.2)), (63, .bool ((!((changedM ((nodeOf g r.op).1) r.key r.val).2.2)) && ((((nodeOf g r.op).1).kind) != 8)))] (fun w' => w12 = w') ?_ ?_
  ·refine J_if (gd := 59) rfl rfl (fun hg3 => ?_) (fun hg3 => ?_)
   ·refine J_gd rfl rfl (R_fieldAddr0 fl45_0 rfl) rfl (J_gd rfl rfl (R_load sc3 rfl (h5.one 0 rfl)) rfl (J_gd rfl rfl (R_neq rfl rfl) rfl (J_st (R_pickT rfl rfl) rfl (J_cutEnd ⟨rfl, rfl, rfl, rfl, rfl, rfl, rfl, rfl, rfl, rfl, rfl, rfl, rfl, rfl, rfl, rfl, rfl, rfl, rfl, rfl, rfl, rfl, rfl, rfl, rfl, rfl, rfl, rfl, rfl, rfl, rfl, rfl, rfl, rfl, rfl, rfl, rfl, congrArg (fun b => some (Value.bool b)) (show ((((nodeOf g r.op).1).kind) != 8) = ((!((changedM ((nodeOf g r.op).1) r.key r.val).2.2)) && ((((nodeOf g r.op).1).kind) != 8)) by first | (rw [hg3] <;> rfl) | (simp [hg3]; done) | (simp only [nat_nlt] <;> simp)), trivial⟩ rfl))))
   ·refine J_gdno rfl rfl rfl rfl (J_gdno rfl rfl rfl rfl (J_gdno rfl rfl rfl rfl (J_st (R_pickF rfl rfl) rfl (J_cutEnd ⟨rfl, rfl, rfl, rfl, rfl, rfl, rfl, rfl, rfl, rfl, rfl, rfl, rfl, rfl, rfl, rfl, rfl, rfl, rfl, rfl, rfl, rfl, rfl, rfl, rfl, rfl, rfl, rfl, rfl, rfl, rfl, rfl, rfl, rfl, rfl, rfl, rfl, congrArg (fun b => some (Value.bool b)) (show false = ((!((changedM ((nodeOf g r.op).1) r.key r.val).2.2)) && ((((nodeOf g r.op).1).kind) != 8)) by first | (rw [hg3] <;> rfl) | (simp [hg3]; done) | (simp only [nat_nlt] <;> simp)), trivial⟩ rfl))))
  rintro _ rfl
  refine J_done ?_
  refine S_cond rfl (fun hc2 => ?_) (fun hc2 => ?_)
  ·refine S_seq ?_
   refine S_reg [true, true, true, true, true] rfl rfl ?_
   refine J_st (R_move rfl) rfl (J_st (R_move rfl) rfl (J_st (R_assign rfl) rfl (J_st (R_assign rfl) rfl (J_st (R_assign rfl) rfl (J_done ?_)))))
   refine S_ret (E_doneN (l := [.tmp 6, .tmp 7, .tmp 8]) (vs := [v1, .slice (some ⟨b4, 0, none⟩) 0 0, .bool true]) rfl ⟨.tmp rfl, .tmp rfl, .tmp rfl, trivial⟩ rfl E ?_)
   rw [st_1 hc1 hx hc2]
   exact ⟨_, _, rfl, Own.fin ho1 (by omega) (by omega) (by first | rfl | (simp only [List.nil_append]; done)), Own.fin (Own.ofBlk (lo := b4) (hi := b4 + 1) (sz := 5) h4 (Nat.le_refl _) (Nat.lt_succ_self _) (by rfl) (by unfold maxLen; omega)) (by omega) (by omega) (by first | rfl | (simp only [List.nil_append]; done)), ⟨⟨(Own.sep ho1 (Own.ofBlk (lo := b4) (hi := b4 + 1) (sz := 5) h4 (Nat.le_refl _) (Nat.lt_succ_self _) (by rfl) (by unfold maxLen; omega)) (by omega)), trivial⟩, ⟨trivial, trivial⟩⟩⟩
  ·refine S_skip ?_
   refine S_seq ?_
   refine S_seq ?_
   refine S_reg [true, true, false] rfl rfl ?_
   refine J_st (R_fieldAddr0 fl45_0 rfl) rfl (J_st (R_load sc3 rfl (h5.one 0 rfl)) rfl ?_)
   refine J_call Try.call68 rfl (s_Remembers (((nodeOf g r.op).1).kind) _ ) rfl (fun _ w14 e10 hv => ?_)
   subst hv
   replace E := E.trans e10; replace h1 := h1.ext e10; replace h2 := h2.ext e10; replace ho1 := ho1.ext e10; replace h4 := h4.ext e10; replace hw1 := hw1.ext e10; replace h5 := h5.ext e10
   have z13 := e10.size
   refine J_done ?_
   refine S_cond rfl (fun hc3 => ?_) (fun hc3 => ?_)
   ·refine S_seq ?_
    refine S_reg [true, true, true, true, true, true, true, true, true, true, true, true, true, false, true, true, true, true, true] rfl rfl ?_
    refine J_st (R_fieldAddr0 fl45_0 rfl) rfl (J_st (R_load sc3 rfl (h5.one 0 rfl)) rfl (J_st (R_move rfl) rfl (J_st (R_fieldAddr0 fl43_0 rfl) rfl (J_st (R_load sc3 rfl (h2.one 0 rfl)) rfl (J_st (R_fieldAddr0 fl43_1 rfl) rfl (J_st (R_fieldAddr fl41_0 rfl) rfl (J_st (R_load sc3 rfl (h2.one 1 rfl)) rfl (J_st (R_fieldAddr0 fl43_2 rfl) rfl (J_st (R_load sc3 rfl (h2.one 3 rfl)) rfl (J_st (R_fieldAddr0 fl43_3 rfl) rfl (J_st (R_load sc3 rfl (h2.one 4 rfl)) rfl (J_st (R_build (⟨r.op, r.stamp.epoch, r.key, r.val⟩ : Cell) rfl (fun _ => by kernel_rfl)) rfl ?_))))))))))))
    refine J_call Try.call69 rfl (s_Recall (((nodeOf g r.op).1).kind) vcs cs (⟨r.op, r.stamp.epoch, r.key, r.val⟩ : Cell) _ (hcs.ext E) (by first | omega | (simp only [mkL_length]; omega) | (rw [mkL_length]; done) | (simp only [mkL_length]; done))) rfl (fun _ w15 e11 ho4 => ?_)
    obtain ⟨v2, rfl, ho5⟩ := ho4
    have g_ho4 : w.heap.size ≤ w14.heap.size := E.size
    replace E := E.trans e11; replace h1 := h1.ext e11; replace h2 := h2.ext e11; replace ho1 := ho1.ext e11; replace h4 := h4.ext e11; replace hw1 := hw1.ext e11; replace h5 := h5.ext e11
    have z14 := e11.size
    refine J_st (R_move rfl) rfl (J_st (R_extract rfl rfl) rfl (J_st (R_extract rfl rfl) rfl (J_st (R_assign rfl) rfl (J_st (R_assign rfl) rfl (J_done ?_)))))
    refine S_seq ?_
    refine S_reg [true, true] rfl rfl ?_
    refine J_st (R_move rfl) rfl (J_st (R_assign rfl) rfl (J_done ?_))
    refine S_seq ?_
    refine S_reg [true, true] rfl rfl ?_
    refine J_st (R_move rfl) rfl (J_st (R_not rfl) rfl (J_done ?_))
    refine S_cond rfl (fun hc4 => ?_) (fun hc4 => ?_)
    ·refine S_seq ?_
     refine S_reg [true, true, true, true, true] rfl rfl ?_
     refine J_st (R_move rfl) rfl (J_st (R_move rfl) rfl (J_st (R_assign rfl) rfl (J_st (R_assign rfl) rfl (J_st (R_assign rfl) rfl (J_done ?_)))))
     refine S_ret (E_doneN (l := [.tmp 6, .tmp 7, .tmp 8]) (vs := [v2, .slice (some ⟨b4, 0, none⟩) 0 0, .bool true]) rfl ⟨.tmp rfl, .tmp rfl, .tmp rfl, trivial⟩ rfl E ?_)
     rw [st_2 hc1 hx hc2 hc4]
     exact ⟨_, _, rfl, Own.fin ho5 (by omega) (by omega) (by first | rfl | (simp only [List.nil_append]; done)), Own.fin (Own.ofBlk (lo := b4) (hi := b4 + 1) (sz := 5) h4 (Nat.le_refl _) (Nat.lt_succ_self _) (by rfl) (by unfold maxLen; omega)) (by omega) (by omega) (by first | rfl | (simp only [List.nil_append]; done)), ⟨⟨(Own.sep ho5 (Own.ofBlk (lo := b4) (hi := b4 + 1) (sz := 5) h4 (Nat.le_refl _) (Nat.lt_succ_self _) (by rfl) (by unfold maxLen; omega)) (by omega)), trivial⟩, ⟨trivial, trivial⟩⟩⟩
    ·refine S_skip ?_
     refine S_seq ?_
     refine S_reg [true, true, false, false] rfl rfl ?_
     refine J_st (R_fieldAddr0 fl43_1 rfl) rfl (J_st (R_loadS st41 rfl (h2.part 1 [.int .i64 r.stamp.epoch, .int .i64 r.stamp.turn] rfl) rfl) rfl ?_)
     refine J_alloc st41 rfl (fun b6 w16 e12 s6 h6 => ?_)
     have g_b6 : w.heap.size ≤ b6 := by have := E.size; omega
     have y_b6 := h6.lt
     replace E := E.trans e12; replace h1 := h1.ext e12; replace h2 := h2.ext e12; replace ho1 := ho1.ext e12; replace h4 := h4.ext e12; replace hw1 := hw1.ext e12; replace h5 := h5.ext e12; replace ho5 := ho5.ext e12
     have z15 := e12.size
     refine J_storeS' (cs' := [.int .i64 r.stamp.epoch, .int .i64 r.stamp.turn]) st41 rfl rfl rfl rfl h6 (Nat.le_of_ble_eq_true rfl) rfl (fun w17 m3 h6' => ?_)
     replace h6 := h6'
     replace E := E.step m3 (fun g hg => by cases hg; omega); replace h1 := h1.mod m3 (fun g hg => by cases hg; omega); replace h2 := h2.mod m3 (fun g hg => by cases hg; omega); replace ho1 := ho1.mod m3 (fun g hg => by cases hg; omega); replace h4 := h4.mod m3 (fun g hg => by cases hg; omega); replace hw1 := hw1.mod m3 (fun g hg => by cases hg; omega); replace h5 := h5.mod m3 (fun g hg => by cases hg; omega); replace ho5 := ho5.mod m3 (fun g hg => by cases hg; omega)
     have z16 := m3.size
     refine J_done ?_
     refine S_seq ?_
     refine S_seq ?_
     refine S_reg [true, true, true] rfl rfl ?_
     refine J_st (R_fieldAddr0 fl45_0 rfl) rfl (J_st (R_load sc3 rfl (h5.one 0 rfl)) rfl (J_st (R_eql rfl rfl) rfl (J_done ?_)))
     refine S_cond rfl (fun hc5 => ?_) (fun hc5 => ?_)
     ·have hstm := stamp_7 hx hc5
      refine S_seq ?_
      refine S_reg [true, false, true, true, true, false, false, true] rfl rfl ?_
      refine J_st (R_loadS st41 rfl h6.at rfl) rfl ?_
      refine J_call Try.call70 rfl (s_NextTurn r.stamp _ ) rfl (fun _ w18 e13 hv => ?_)
      subst hv
      replace E := E.trans e13; replace h1 := h1.ext e13; replace h2 := h2.ext e13; replace ho1 := ho1.ext e13; replace h4 := h4.ext e13; replace hw1 := hw1.ext e13; replace h5 := h5.ext e13; replace ho5 := ho5.ext e13; replace h6 := h6.ext e13
      have z17 := e13.size
      refine J_st (R_move rfl) rfl (J_st (R_extract rfl rfl) rfl (J_st (R_extract rfl rfl) rfl ?_))
      refine J_alloc st41 rfl (fun b7 w19 e14 s7 h7 => ?_)
      have g_b7 : w.heap.size ≤ b7 := by have := E.size; omega
      have y_b7 := h7.lt
      replace E := E.trans e14; replace h1 := h1.ext e14; replace h2 := h2.ext e14; replace ho1 := ho1.ext e14; replace h4 := h4.ext e14; replace hw1 := hw1.ext e14; replace h5 := h5.ext e14; replace ho5 := ho5.ext e14; replace h6 := h6.ext e14
      have z18 := e14.size
      refine J_storeS' (cs' := [.int .i64 (((nextT r.stamp).1).epoch), .int .i64 (((nextT r.stamp).1).turn)]) st41 rfl rfl rfl rfl h7 (Nat.le_of_ble_eq_true rfl) rfl (fun w20 m4 h7' => ?_)
      replace h7 := h7'
      replace E := E.step m4 (fun g hg => by cases hg; omega); replace h1 := h1.mod m4 (fun g hg => by cases hg; omega); replace h2 := h2.mod m4 (fun g hg => by cases hg; omega); replace ho1 := ho1.mod m4 (fun g hg => by cases hg; omega); replace h4 := h4.mod m4 (fun g hg => by cases hg; omega); replace hw1 := hw1.mod m4 (fun g hg => by cases hg; omega); replace h5 := h5.mod m4 (fun g hg => by cases hg; omega); replace ho5 := ho5.mod m4 (fun g hg => by cases hg; omega); replace h6 := h6.mod m4 (fun g hg => by cases hg; omega)
      have z19 := m4.size
      refine J_st (R_assign rfl) rfl (J_done ?_)
      refine S_seq ?_
      refine S_seq ?_
      refine S_reg [true, true] rfl rfl ?_
      refine J_st (R_move rfl) rfl (J_st (R_not rfl) rfl (J_done ?_))
      refine S_cond rfl (fun hc6 => ?_) (fun hc6 => ?_)
      ·refine S_seq ?_
       refine S_reg [true, true, true, true, true] rfl rfl ?_
       refine J_st (R_move rfl) rfl (J_st (R_move rfl) rfl (J_st (R_assign rfl) rfl (J_st (R_assign rfl) rfl (J_st (R_assign rfl) rfl (J_done ?_)))))
       refine S_ret (E_doneN (l := [.tmp 6, .tmp 7, .tmp 8]) (vs := [v2, .slice (some ⟨b4, 0, none⟩) 0 0, .bool true]) rfl ⟨.tmp rfl, .tmp rfl, .tmp rfl, trivial⟩ rfl E ?_)
       rw [st_3 hc1 hx hc2 hc4, out_no (by rw [hstm]; exact not_t hc6)]
       exact ⟨_, _, rfl, Own.fin ho5 (by omega) (by omega) (by first | rfl | (simp only [List.nil_append]; done)), Own.fin (Own.ofBlk (lo := b4) (hi := b4 + 1) (sz := 5) h4 (Nat.le_refl _) (Nat.lt_succ_self _) (by rfl) (by unfold maxLen; omega)) (by omega) (by omega) (by first | rfl | (simp only [List.nil_append]; done)), ⟨⟨(Own.sep ho5 (Own.ofBlk (lo := b4) (hi := b4 + 1) (sz := 5) h4 (Nat.le_refl _) (Nat.lt_succ_self _) (by rfl) (by unfold maxLen; omega)) (by omega)), trivial⟩, ⟨trivial, trivial⟩⟩⟩
      ·refine S_skip ?_
       refine S_reg [true, false] rfl rfl ?_
       refine J_st (R_loadS st41 rfl h7.at rfl) rfl ?_
       refine J_storeS' (cs' := [.int .i64 (((nextT r.stamp).1).epoch), .int .i64 (((nextT r.stamp).1).turn)]) st41 rfl rfl rfl rfl h6 (Nat.le_of_ble_eq_true rfl) rfl (fun w21 m5 h6' => ?_)
       replace h6 := h6'
       replace E := E.step m5 (fun g hg => by cases hg; omega); replace h1 := h1.mod m5 (fun g hg => by cases hg; omega); replace h2 := h2.mod m5 (fun g hg => by cases hg; omega); replace ho1 := ho1.mod m5 (fun g hg => by cases hg; omega); replace h4 := h4.mod m5 (fun g hg => by cases hg; omega); replace hw1 := hw1.mod m5 (fun g hg => by cases hg; omega); replace h5 := h5.mod m5 (fun g hg => by cases hg; omega); replace ho5 := ho5.mod m5 (fun g hg => by cases hg; omega); replace h7 := h7.mod m5 (fun g hg => by cases hg; omega)
       have z20 := m5.size
       refine J_done ?_
       refine S_seq ?_
       refine S_seq ?_
       refine S_reg [true] rfl rfl ?_
       refine J_st (R_assign rfl) rfl (J_done ?_)
       refine S_block ?_
       refine S_loop (fun (xq : Nat × Value) => let ⟨k, vo⟩ := xq; [(6, .slice none 0 0), (7, .slice none 0 0), (8, .bool false), (9, v2), (10, vo), (11, .pointer (some ⟨b5, 0, none⟩)), (13, .int .i64 ((changedM ((nodeOf g r.op).1) r.key r.val).1)), (14, .int .i64 ((changedM ((nodeOf g r.op).1) r.key r.val).2.1)), (18, .pointer (some ⟨b6, 0, none⟩)), (21, .int .i64 ((k : Nat) : Int))]) (fun (xq : Nat × Value) w' => let ⟨k, vo⟩ := xq; Ext w w' ∧ w21.heap.size ≤ w'.heap.size ∧ Blk w' b1 ([o1, .int .i64 g.workers, .int .i64 g.cap]) ∧ Blk w' b2 (Enc.enc r) ∧ Own w' b3 w4.heap.size 4 v1 ([] ++ List.flatMap (Enc.enc (α := Cell)) cs) ∧ Own w' w5.heap.size w6.heap.size 1 o2 (List.flatMap (Enc.enc (α := Int)) (((nodeOf g r.op).1).outs)) ∧ Blk w' b5 [.int .i64 (((nodeOf g r.op).1).kind), .int .i64 (((nodeOf g r.op).1).a), .int .i64 (((nodeOf g r.op).1).b), o2] ∧ Own w' w14.heap.size w15.heap.size 4 v2 (List.flatMap (Enc.enc (α := Cell)) ((recallM (((nodeOf g r.op).1).kind) cs (⟨r.op, r.stamp.epoch, r.key, r.val⟩ : Cell)).1)) ∧ Blk w' b6 [.int .i64 (((nextT r.stamp).1).epoch), .int .i64 (((nextT r.stamp).1).turn)] ∧ Blk w' b7 [.int .i64 (((nextT r.stamp).1).epoch), .int .i64 (((nextT r.stamp).1).turn)] ∧ k ≤ ((nodeOf g r.op).1).outs.length ∧ Own w' b4 w'.heap.size 5 vo (List.flatMap (Enc.enc (α := Record)) (stOut g r k)) ∧ (∀ g, Value.ownBlock vo = some g → g = b4 ∨ w21.heap.size ≤ g)) (fun (xq : Nat × Value) => let ⟨k, vo⟩ := xq; ((nodeOf g r.op).1).outs.length - k) (0, .slice (some ⟨b4, 0, none⟩) 0 0) ⟨rfl, rfl, rfl, rfl, rfl, rfl, rfl, rfl, rfl, rfl, trivial⟩ ⟨E, Nat.le_refl _, h1, h2, ho1, hw1, h5, ho5, h6, h7, Nat.zero_le _, Own.fin (Own.ofBlk (lo := b4) (hi := b4 + 1) (sz := 5) h4 (Nat.le_refl _) (Nat.lt_succ_self _) (by simp) (by simp [maxLen])) (by omega) (by omega) out_zero.symm, (fun g hg => .inl (by cases hg; rfl))⟩ ?_
       clear E h1 h2 ho1 h4 hw1 h5 ho5 h6 h7
       rintro ⟨k, vo⟩ w22 ⟨E, z21, h1, h2, ho1, hw1, h5, ho5, h6, h7, hk, hvo, hvn⟩
       refine S_sub [(6, .slice none 0 0), (7, .slice none 0 0), (8, .bool false), (9, v2), (10, vo), (11, .pointer (some ⟨b5, 0, none⟩)), (13, .int .i64 ((changedM ((nodeOf g r.op).1) r.key r.val).1)), (14, .int .i64 ((changedM ((nodeOf g r.op).1) r.key r.val).2.1)), (18, .pointer (some ⟨b6, 0, none⟩)), (21, .int .i64 ((k : Nat) : Int))] ⟨rfl, rfl, rfl, rfl, rfl, rfl, rfl, rfl, rfl, rfl, trivial⟩ ?_
       refine S_seq ?_
       refine S_seq ?_
       refine S_reg [true, true, true, true, true] rfl rfl ?_
       refine J_st (R_move rfl) rfl (J_st (R_fieldAddr0 fl45_3 rfl) rfl (J_st (R_load sc29 rfl (h5.one 3 rfl)) rfl (J_st (R_len Try.underlying29 rfl (Own.len (by decide) hw1)) rfl (J_st (R_lss rfl rfl) rfl (J_done ?_)))))
       refine S_cond rfl (fun hc7 => ?_) (fun hc7 => ?_)
       ·have hc7n : k < (((nodeOf g r.op).1).outs).length := by first | (have h := of_decide_eq_true hc7; omega) | (have h := hc7; simp at h; omega)
        refine S_skip ?_
        refine S_seq ?_
        refine S_block ?_
        refine S_regX mixed [11] [(0, true), (1, true), (2, true), (3, true), (4, true), (5, true), (6, true), (7, true), (8, true), (9, true), (10, false)] [(11, false), (12, true)] (by decide +kernel) rfl rfl (fun w23 e15 => ?_)
        replace E := E.trans e15; replace h1 := h1.ext e15; replace h2 := h2.ext e15; replace ho1 := ho1.ext e15; replace hw1 := hw1.ext e15; replace h5 := h5.ext e15; replace ho5 := ho5.ext e15; replace h6 := h6.ext e15; replace h7 := h7.ext e15; replace hvo := hvo.ext e15
        have z22 := e15.size
        refine J_st (R_move rfl) rfl (J_st (R_fieldAddr0 fl45_3 rfl) rfl (J_st (R_load sc29 rfl (h5.one 3 rfl)) rfl (J_st (R_move rfl) rfl ?_)))
        have hi1 : k < (((nodeOf g r.op).1).outs).length := (by first | assumption | omega | (simp only [List.length_set]; first | assumption | omega) | (simp only [List.getElem_set_self, List.length_set]; first | assumption | omega) | (simp only [setW, setLk, List.length_set]; first | assumption | omega) | (simp; done))
        refine J_st (R_index (i := k) sl29 rfl rfl (Own.rd (by decide) hw1) hi1) rfl (J_st (R_load sc3 rfl (((Own.rd (by decide) hw1).get hi1).one 0 rfl)) rfl (J_st (R_loadS st41 rfl h6.at rfl) rfl (J_st (R_move rfl) rfl (J_st (R_move rfl) rfl (J_st (R_build (⟨((((nodeOf g r.op).1).outs)[k]'hi1), ((nextT r.stamp).1), (changedM ((nodeOf g r.op).1) r.key r.val).1, (changedM ((nodeOf g r.op).1) r.key r.val).2.1⟩ : Record) rfl (fun _ => by kernel_rfl)) rfl ?_)))))
        refine J_buildSlice (vs := [.agg (Enc.enc (⟨((((nodeOf g r.op).1).outs)[k]'hi1), ((nextT r.stamp).1), (changedM ((nodeOf g r.op).1) r.key r.val).1, (changedM ((nodeOf g r.op).1) r.key r.val).2.1⟩ : Record)).toArray]) (css := [[.int .i64 ((⟨((((nodeOf g r.op).1).outs)[k]'hi1), ((nextT r.stamp).1), (changedM ((nodeOf g r.op).1) r.key r.val).1, (changedM ((nodeOf g r.op).1) r.key r.val).2.1⟩ : Record).op), .int .i64 (((⟨((((nodeOf g r.op).1).outs)[k]'hi1), ((nextT r.stamp).1), (changedM ((nodeOf g r.op).1) r.key r.val).1, (changedM ((nodeOf g r.op).1) r.key r.val).2.1⟩ : Record).stamp).epoch), .int .i64 (((⟨((((nodeOf g r.op).1).outs)[k]'hi1), ((nextT r.stamp).1), (changedM ((nodeOf g r.op).1) r.key r.val).1, (changedM ((nodeOf g r.op).1) r.key r.val).2.1⟩ : Record).stamp).turn), .int .i64 ((⟨((((nodeOf g r.op).1).outs)[k]'hi1), ((nextT r.stamp).1), (changedM ((nodeOf g r.op).1) r.key r.val).1, (changedM ((nodeOf g r.op).1) r.key r.val).2.1⟩ : Record).key), .int .i64 ((⟨((((nodeOf g r.op).1).outs)[k]'hi1), ((nextT r.stamp).1), (changedM ((nodeOf g r.op).1) r.key r.val).1, (changedM ((nodeOf g r.op).1) r.key r.val).2.1⟩ : Record).val)]]) sl27 rfl rfl ⟨⟨rfl, rfl⟩, trivial⟩ rfl rfl (fun b8 w24 e16 s8 h8 => ?_)
        replace h8 : Blk w24 b8 [.int .i64 ((⟨((((nodeOf g r.op).1).outs)[k]'hi1), ((nextT r.stamp).1), (changedM ((nodeOf g r.op).1) r.key r.val).1, (changedM ((nodeOf g r.op).1) r.key r.val).2.1⟩ : Record).op), .int .i64 (((⟨((((nodeOf g r.op).1).outs)[k]'hi1), ((nextT r.stamp).1), (changedM ((nodeOf g r.op).1) r.key r.val).1, (changedM ((nodeOf g r.op).1) r.key r.val).2.1⟩ : Record).stamp).epoch), .int .i64 (((⟨((((nodeOf g r.op).1).outs)[k]'hi1), ((nextT r.stamp).1), (changedM ((nodeOf g r.op).1) r.key r.val).1, (changedM ((nodeOf g r.op).1) r.key r.val).2.1⟩ : Record).stamp).turn), .int .i64 ((⟨((((nodeOf g r.op).1).outs)[k]'hi1), ((nextT r.stamp).1), (changedM ((nodeOf g r.op).1) r.key r.val).1, (changedM ((nodeOf g r.op).1) r.key r.val).2.1⟩ : Record).key), .int .i64 ((⟨((((nodeOf g r.op).1).outs)[k]'hi1), ((nextT r.stamp).1), (changedM ((nodeOf g r.op).1) r.key r.val).1, (changedM ((nodeOf g r.op).1) r.key r.val).2.1⟩ : Record).val)] := h8
        have g_b8 : w.heap.size ≤ b8 := by have := E.size; omega
        have y_b8 := h8.lt
        replace E := E.trans e16; replace h1 := h1.ext e16; replace h2 := h2.ext e16; replace ho1 := ho1.ext e16; replace hw1 := hw1.ext e16; replace h5 := h5.ext e16; replace ho5 := ho5.ext e16; replace h6 := h6.ext e16; replace h7 := h7.ext e16; replace hvo := hvo.ext e16
        have z23 := e16.size
        refine JX_tail ?_
        refine J2_X rfl ?_
        refine J_appendB sl27 rfl rfl hvo (Src.ofBlk h8 rfl) rfl (by first | (simp only [sum_flat, List.length_nil, List.length_cons]; simp only [Enc.sz]; omega) | (have h := out_len g r k; rw [sum_flat]; simp only [show Enc.sz Record = 5 from rfl, List.length_cons, List.length_nil]; omega)) (by decide) (by omega) (by omega) rfl rfl (fun v3 w25 m6 ho6 hb1 => ?_)
        have hn1 : ∀ g, Value.ownBlock v3 = some g → g = b4 ∨ w21.heap.size ≤ g := fun g hg => (hb1 g hg).elim (fun h => hvn g h) (fun h => by omega)
        replace E := E.step m6 (fun g hg => by have := Own.blk hvo g hg; have := hvn g hg; omega); replace h1 := h1.mod m6 (fun g hg => by have := Own.blk hvo g hg; have := hvn g hg; omega); replace h2 := h2.mod m6 (fun g hg => by have := Own.blk hvo g hg; have := hvn g hg; omega); replace ho1 := ho1.mod m6 (fun g hg => by have := Own.blk hvo g hg; have := hvn g hg; omega); replace hw1 := hw1.mod m6 (fun g hg => by have := Own.blk hvo g hg; have := hvn g hg; omega); replace h5 := h5.mod m6 (fun g hg => by have := Own.blk hvo g hg; have := hvn g hg; omega); replace ho5 := ho5.mod m6 (fun g hg => by have := Own.blk hvo g hg; have := hvn g hg; omega); replace h6 := h6.mod m6 (fun g hg => by have := Own.blk hvo g hg; have := hvn g hg; omega); replace h7 := h7.mod m6 (fun g hg => by have := Own.blk hvo g hg; have := hvn g hg; omega)
        have z24 := m6.size
        refine JX_go ?_
        refine J_st (R_assign rfl) rfl (J_done ?_)
        refine S_nil (E_inB ?_)
        refine S_reg [true, true, true] rfl rfl ?_
        refine J_st (R_move rfl) rfl (J_st (R_add rfl rfl (add_one hc7n (Own.rd (by decide) hw1).1)) rfl (J_st (R_assign rfl) rfl (J_done ?_)))
        refine S_nil (E_again (k + 1, v3) (by dsimp only; omega) ⟨rfl, rfl, rfl, rfl, rfl, rfl, rfl, rfl, rfl, rfl, trivial⟩ ⟨E, (by omega), h1, h2, ho1, hw1, h5, ho5, h6, h7, (by omega), Own.fin ho6 (Nat.le_refl _) (by omega) (out_step (by rw [hstm]) (by rw [hstm]; exact not_f hc6) hx (by omega)), hn1⟩)
       ·have hc7n : ¬ k < (((nodeOf g r.op).1).outs).length := by first | (have h := of_decide_eq_false hc7; omega) | (have h := hc7; simp at h; omega)
        refine S_exit (E_lp_exit (E_inB_exit ?_))
        refine S_seq ?_
        refine S_reg [true, true, true, true, true] rfl rfl ?_
        refine J_st (R_move rfl) rfl (J_st (R_move rfl) rfl (J_st (R_assign rfl) rfl (J_st (R_assign rfl) rfl (J_st (R_assign rfl) rfl (J_done ?_)))))
        refine S_ret (E_doneN (l := [.tmp 6, .tmp 7, .tmp 8]) (vs := [v2, vo, .bool true]) rfl ⟨.tmp rfl, .tmp rfl, .tmp rfl, trivial⟩ rfl E ?_)
        rw [st_3 hc1 hx hc2 hc4]
        exact ⟨_, _, rfl, Own.fin ho5 (by omega) (by omega) (by first | rfl | (simp only [List.nil_append]; done)), Own.fin hvo (by omega) (by omega) (by rw [show ((nodeOf g r.op).1).outs.length = k from by omega]), ⟨⟨(fun g hg he => by have := Own.blk ho5 g hg; have := Own.blk hvo g he; have := hvn g he; omega), trivial⟩, ⟨trivial, trivial⟩⟩⟩
     ·have hstm := stamp_o hx hc5
      refine S_skip ?_
      refine S_seq ?_
      refine S_seq ?_
      refine S_reg [true] rfl rfl ?_
      refine J_st (R_assign rfl) rfl (J_done ?_)
      refine S_block ?_
      refine S_loop (fun (xq : Nat × Value) => let ⟨k, vo⟩ := xq; [(6, .slice none 0 0), (7, .slice none 0 0), (8, .bool false), (9, v2), (10, vo), (11, .pointer (some ⟨b5, 0, none⟩)), (13, .int .i64 ((changedM ((nodeOf g r.op).1) r.key r.val).1)), (14, .int .i64 ((changedM ((nodeOf g r.op).1) r.key r.val).2.1)), (18, .pointer (some ⟨b6, 0, none⟩)), (21, .int .i64 ((k : Nat) : Int))]) (fun (xq : Nat × Value) w' => let ⟨k, vo⟩ := xq; Ext w w' ∧ w17.heap.size ≤ w'.heap.size ∧ Blk w' b1 ([o1, .int .i64 g.workers, .int .i64 g.cap]) ∧ Blk w' b2 (Enc.enc r) ∧ Own w' b3 w4.heap.size 4 v1 ([] ++ List.flatMap (Enc.enc (α := Cell)) cs) ∧ Own w' w5.heap.size w6.heap.size 1 o2 (List.flatMap (Enc.enc (α := Int)) (((nodeOf g r.op).1).outs)) ∧ Blk w' b5 [.int .i64 (((nodeOf g r.op).1).kind), .int .i64 (((nodeOf g r.op).1).a), .int .i64 (((nodeOf g r.op).1).b), o2] ∧ Own w' w14.heap.size w15.heap.size 4 v2 (List.flatMap (Enc.enc (α := Cell)) ((recallM (((nodeOf g r.op).1).kind) cs (⟨r.op, r.stamp.epoch, r.key, r.val⟩ : Cell)).1)) ∧ Blk w' b6 [.int .i64 r.stamp.epoch, .int .i64 r.stamp.turn] ∧ k ≤ ((nodeOf g r.op).1).outs.length ∧ Own w' b4 w'.heap.size 5 vo (List.flatMap (Enc.enc (α := Record)) (stOut g r k)) ∧ (∀ g, Value.ownBlock vo = some g → g = b4 ∨ w17.heap.size ≤ g)) (fun (xq : Nat × Value) => let ⟨k, vo⟩ := xq; ((nodeOf g r.op).1).outs.length - k) (0, .slice (some ⟨b4, 0, none⟩) 0 0) ⟨rfl, rfl, rfl, rfl, rfl, rfl, rfl, rfl, rfl, rfl, trivial⟩ ⟨E, Nat.le_refl _, h1, h2, ho1, hw1, h5, ho5, h6, Nat.zero_le _, Own.fin (Own.ofBlk (lo := b4) (hi := b4 + 1) (sz := 5) h4 (Nat.le_refl _) (Nat.lt_succ_self _) (by simp) (by simp [maxLen])) (by omega) (by omega) out_zero.symm, (fun g hg => .inl (by cases hg; rfl))⟩ ?_
      clear E h1 h2 ho1 h4 hw1 h5 ho5 h6
      rintro ⟨k, vo⟩ w26 ⟨E, z25, h1, h2, ho1, hw1, h5, ho5, h6, hk, hvo, hvn⟩
      refine S_sub [(6, .slice none 0 0), (7, .slice none 0 0), (8, .bool false), (9, v2), (10, vo), (11, .pointer (some ⟨b5, 0, none⟩)), (13, .int .i64 ((changedM ((nodeOf g r.op).1) r.key r.val).1)), (14, .int .i64 ((changedM ((nodeOf g r.op).1) r.key r.val).2.1)), (18, .pointer (some ⟨b6, 0, none⟩)), (21, .int .i64 ((k : Nat) : Int))] ⟨rfl, rfl, rfl, rfl, rfl, rfl, rfl, rfl, rfl, rfl, trivial⟩ ?_
      refine S_seq ?_
      refine S_seq ?_
      refine S_reg [true, true, true, true, true] rfl rfl ?_
      refine J_st (R_move rfl) rfl (J_st (R_fieldAddr0 fl45_3 rfl) rfl (J_st (R_load sc29 rfl (h5.one 3 rfl)) rfl (J_st (R_len Try.underlying29 rfl (Own.len (by decide) hw1)) rfl (J_st (R_lss rfl rfl) rfl (J_done ?_)))))
      refine S_cond rfl (fun hc8 => ?_) (fun hc8 => ?_)
      ·have hc8n : k < (((nodeOf g r.op).1).outs).length := by first | (have h := of_decide_eq_true hc8; omega) | (have h := hc8; simp at h; omega)
       refine S_skip ?_
       refine S_seq ?_
       refine S_block ?_
       refine S_regX mixed [11] [(0, true), (1, true), (2, true), (3, true), (4, true), (5, true), (6, true), (7, true), (8, true), (9, true), (10, false)] [(11, false), (12, true)] (by decide +kernel) rfl rfl (fun w27 e17 => ?_)
       replace E := E.trans e17; replace h1 := h1.ext e17; replace h2 := h2.ext e17; replace ho1 := ho1.ext e17; replace hw1 := hw1.ext e17; replace h5 := h5.ext e17; replace ho5 := ho5.ext e17; replace h6 := h6.ext e17; replace hvo := hvo.ext e17
       have z26 := e17.size
       refine J_st (R_move rfl) rfl (J_st (R_fieldAddr0 fl45_3 rfl) rfl (J_st (R_load sc29 rfl (h5.one 3 rfl)) rfl (J_st (R_move rfl) rfl ?_)))
       have hi2 : k < (((nodeOf g r.op).1).outs).length := (by first | assumption | omega | (simp only [List.length_set]; first | assumption | omega) | (simp only [List.getElem_set_self, List.length_set]; first | assumption | omega) | (simp only [setW, setLk, List.length_set]; first | assumption | omega) | (simp; done))
       refine J_st (R_index (i := k) sl29 rfl rfl (Own.rd (by decide) hw1) hi2) rfl (J_st (R_load sc3 rfl (((Own.rd (by decide) hw1).get hi2).one 0 rfl)) rfl (J_st (R_loadS st41 rfl h6.at rfl) rfl (J_st (R_move rfl) rfl (J_st (R_move rfl) rfl (J_st (R_build (⟨((((nodeOf g r.op).1).outs)[k]'hi2), r.stamp, (changedM ((nodeOf g r.op).1) r.key r.val).1, (changedM ((nodeOf g r.op).1) r.key r.val).2.1⟩ : Record) rfl (fun _ => by kernel_rfl)) rfl ?_)))))
       refine J_buildSlice (vs := [.agg (Enc.enc (⟨((((nodeOf g r.op).1).outs)[k]'hi2), r.stamp, (changedM ((nodeOf g r.op).1) r.key r.val).1, (changedM ((nodeOf g r.op).1) r.key r.val).2.1⟩ : Record)).toArray]) (css := [[.int .i64 ((⟨((((nodeOf g r.op).1).outs)[k]'hi2), r.stamp, (changedM ((nodeOf g r.op).1) r.key r.val).1, (changedM ((nodeOf g r.op).1) r.key r.val).2.1⟩ : Record).op), .int .i64 (((⟨((((nodeOf g r.op).1).outs)[k]'hi2), r.stamp, (changedM ((nodeOf g r.op).1) r.key r.val).1, (changedM ((nodeOf g r.op).1) r.key r.val).2.1⟩ : Record).stamp).epoch), .int .i64 (((⟨((((nodeOf g r.op).1).outs)[k]'hi2), r.stamp, (changedM ((nodeOf g r.op).1) r.key r.val).1, (changedM ((nodeOf g r.op).1) r.key r.val).2.1⟩ : Record).stamp).turn), .int .i64 ((⟨((((nodeOf g r.op).1).outs)[k]'hi2), r.stamp, (changedM ((nodeOf g r.op).1) r.key r.val).1, (changedM ((nodeOf g r.op).1) r.key r.val).2.1⟩ : Record).key), .int .i64 ((⟨((((nodeOf g r.op).1).outs)[k]'hi2), r.stamp, (changedM ((nodeOf g r.op).1) r.key r.val).1, (changedM ((nodeOf g r.op).1) r.key r.val).2.1⟩ : Record).val)]]) sl27 rfl rfl ⟨⟨rfl, rfl⟩, trivial⟩ rfl rfl (fun b9 w28 e18 s9 h9 => ?_)
       replace h9 : Blk w28 b9 [.int .i64 ((⟨((((nodeOf g r.op).1).outs)[k]'hi2), r.stamp, (changedM ((nodeOf g r.op).1) r.key r.val).1, (changedM ((nodeOf g r.op).1) r.key r.val).2.1⟩ : Record).op), .int .i64 (((⟨((((nodeOf g r.op).1).outs)[k]'hi2), r.stamp, (changedM ((nodeOf g r.op).1) r.key r.val).1, (changedM ((nodeOf g r.op).1) r.key r.val).2.1⟩ : Record).stamp).epoch), .int .i64 (((⟨((((nodeOf g r.op).1).outs)[k]'hi2), r.stamp, (changedM ((nodeOf g r.op).1) r.key r.val).1, (changedM ((nodeOf g r.op).1) r.key r.val).2.1⟩ : Record).stamp).turn), .int .i64 ((⟨((((nodeOf g r.op).1).outs)[k]'hi2), r.stamp, (changedM ((nodeOf g r.op).1) r.key r.val).1, (changedM ((nodeOf g r.op).1) r.key r.val).2.1⟩ : Record).key), .int .i64 ((⟨((((nodeOf g r.op).1).outs)[k]'hi2), r.stamp, (changedM ((nodeOf g r.op).1) r.key r.val).1, (changedM ((nodeOf g r.op).1) r.key r.val).2.1⟩ : Record).val)] := h9
       have g_b9 : w.heap.size ≤ b9 := by have := E.size; omega
       have y_b9 := h9.lt
       replace E := E.trans e18; replace h1 := h1.ext e18; replace h2 := h2.ext e18; replace ho1 := ho1.ext e18; replace hw1 := hw1.ext e18; replace h5 := h5.ext e18; replace ho5 := ho5.ext e18; replace h6 := h6.ext e18; replace hvo := hvo.ext e18
       have z27 := e18.size
       refine JX_tail ?_
       refine J2_X rfl ?_
       refine J_appendB sl27 rfl rfl hvo (Src.ofBlk h9 rfl) rfl (by first | (simp only [sum_flat, List.length_nil, List.length_cons]; simp only [Enc.sz]; omega) | (have h := out_len g r k; rw [sum_flat]; simp only [show Enc.sz Record = 5 from rfl, List.length_cons, List.length_nil]; omega)) (by decide) (by omega) (by omega) rfl rfl (fun v4 w29 m7 ho7 hb2 => ?_)
       have hn2 : ∀ g, Value.ownBlock v4 = some g → g = b4 ∨ w17.heap.size ≤ g := fun g hg => (hb2 g hg).elim (fun h => hvn g h) (fun h => by omega)
       replace E := E.step m7 (fun g hg => by have := Own.blk hvo g hg; have := hvn g hg; omega); replace h1 := h1.mod m7 (fun g hg => by have := Own.blk hvo g hg; have := hvn g hg; omega); replace h2 := h2.mod m7 (fun g hg => by have := Own.blk hvo g hg; have := hvn g hg; omega); replace ho1 := ho1.mod m7 (fun g hg => by have := Own.blk hvo g hg; have := hvn g hg; omega); replace hw1 := hw1.mod m7 (fun g hg => by have := Own.blk hvo g hg; have := hvn g hg; omega); replace h5 := h5.mod m7 (fun g hg => by have := Own.blk hvo g hg; have := hvn g hg; omega); replace ho5 := ho5.mod m7 (fun g hg => by have := Own.blk hvo g hg; have := hvn g hg; omega); replace h6 := h6.mod m7 (fun g hg => by have := Own.blk hvo g hg; have := hvn g hg; omega)
       have z28 := m7.size
       refine JX_go ?_
       refine J_st (R_assign rfl) rfl (J_done ?_)
       refine S_nil (E_inB ?_)
       refine S_reg [true, true, true] rfl rfl ?_
       refine J_st (R_move rfl) rfl (J_st (R_add rfl rfl (add_one hc8n (Own.rd (by decide) hw1).1)) rfl (J_st (R_assign rfl) rfl (J_done ?_)))
       refine S_nil (E_again (k + 1, v4) (by dsimp only; omega) ⟨rfl, rfl, rfl, rfl, rfl, rfl, rfl, rfl, rfl, rfl, trivial⟩ ⟨E, (by omega), h1, h2, ho1, hw1, h5, ho5, h6, (by omega), Own.fin ho7 (Nat.le_refl _) (by omega) (out_step (by rw [hstm]) (by rw [hstm]) hx (by omega)), hn2⟩)
      ·have hc8n : ¬ k < (((nodeOf g r.op).1).outs).length := by first | (have h := of_decide_eq_false hc8; omega) | (have h := hc8; simp at h; omega)
       refine S_exit (E_lp_exit (E_inB_exit ?_))
       refine S_seq ?_
       refine S_reg [true, true, true, true, true] rfl rfl ?_
       refine J_st (R_move rfl) rfl (J_st (R_move rfl) rfl (J_st (R_assign rfl) rfl (J_st (R_assign rfl) rfl (J_st (R_assign rfl) rfl (J_done ?_)))))
       refine S_ret (E_doneN (l := [.tmp 6, .tmp 7, .tmp 8]) (vs := [v2, vo, .bool true]) rfl ⟨.tmp rfl, .tmp rfl, .tmp rfl, trivial⟩ rfl E ?_)
       rw [st_3 hc1 hx hc2 hc4]
       exact ⟨_, _, rfl, Own.fin ho5 (by omega) (by omega) (by first | rfl | (simp only [List.nil_append]; done)), Own.fin hvo (by omega) (by omega) (by rw [show ((nodeOf g r.op).1).outs.length = k from by omega]), ⟨⟨(fun g hg he => by have := Own.blk ho5 g hg; have := Own.blk hvo g he; have := hvn g he; omega), trivial⟩, ⟨trivial, trivial⟩⟩⟩
   ·refine S_skip ?_
    refine S_seq ?_
    refine S_reg [true, true, false, false] rfl rfl ?_
    refine J_st (R_fieldAddr0 fl43_1 rfl) rfl (J_st (R_loadS st41 rfl (h2.part 1 [.int .i64 r.stamp.epoch, .int .i64 r.stamp.turn] rfl) rfl) rfl ?_)
    refine J_alloc st41 rfl (fun b10 w30 e19 s10 h10 => ?_)
    have g_b10 : w.heap.size ≤ b10 := by have := E.size; omega
    have y_b10 := h10.lt
    replace E := E.trans e19; replace h1 := h1.ext e19; replace h2 := h2.ext e19; replace ho1 := ho1.ext e19; replace h4 := h4.ext e19; replace hw1 := hw1.ext e19; replace h5 := h5.ext e19
    have z29 := e19.size
    refine J_storeS' (cs' := [.int .i64 r.stamp.epoch, .int .i64 r.stamp.turn]) st41 rfl rfl rfl rfl h10 (Nat.le_of_ble_eq_true rfl) rfl (fun w31 m8 h10' => ?_)
    replace h10 := h10'
    replace E := E.step m8 (fun g hg => by cases hg; omega); replace h1 := h1.mod m8 (fun g hg => by cases hg; omega); replace h2 := h2.mod m8 (fun g hg => by cases hg; omega); replace ho1 := ho1.mod m8 (fun g hg => by cases hg; omega); replace h4 := h4.mod m8 (fun g hg => by cases hg; omega); replace hw1 := hw1.mod m8 (fun g hg => by cases hg; omega); replace h5 := h5.mod m8 (fun g hg => by cases hg; omega)
    have z30 := m8.size
    refine J_done ?_
    refine S_seq ?_
    refine S_seq ?_
    refine S_reg [true, true, true] rfl rfl ?_
    refine J_st (R_fieldAddr0 fl45_0 rfl) rfl (J_st (R_load sc3 rfl (h5.one 0 rfl)) rfl (J_st (R_eql rfl rfl) rfl (J_done ?_)))
    refine S_cond rfl (fun hc9 => ?_) (fun hc9 => ?_)
    ·have hstm := stamp_7 hx hc9
     refine S_seq ?_
     refine S_reg [true, false, true, true, true, false, false, true] rfl rfl ?_
     refine J_st (R_loadS st41 rfl h10.at rfl) rfl ?_
     refine J_call Try.call70 rfl (s_NextTurn r.stamp _ ) rfl (fun _ w32 e20 hv => ?_)
     subst hv
     replace E := E.trans e20; replace h1 := h1.ext e20; replace h2 := h2.ext e20; replace ho1 := ho1.ext e20; replace h4 := h4.ext e20; replace hw1 := hw1.ext e20; replace h5 := h5.ext e20; replace h10 := h10.ext e20
     have z31 := e20.size
     refine J_st (R_move rfl) rfl (J_st (R_extract rfl rfl) rfl (J_st (R_extract rfl rfl) rfl ?_))
     refine J_alloc st41 rfl (fun b11 w33 e21 s11 h11 => ?_)
     have g_b11 : w.heap.size ≤ b11 := by have := E.size; omega
     have y_b11 := h11.lt
     replace E := E.trans e21; replace h1 := h1.ext e21; replace h2 := h2.ext e21; replace ho1 := ho1.ext e21; replace h4 := h4.ext e21; replace hw1 := hw1.ext e21; replace h5 := h5.ext e21; replace h10 := h10.ext e21
     have z32 := e21.size
     refine J_storeS' (cs' := [.int .i64 (((nextT r.stamp).1).epoch), .int .i64 (((nextT r.stamp).1).turn)]) st41 rfl rfl rfl rfl h11 (Nat.le_of_ble_eq_true rfl) rfl (fun w34 m9 h11' => ?_)
     replace h11 := h11'
     replace E := E.step m9 (fun g hg => by cases hg; omega); replace h1 := h1.mod m9 (fun g hg => by cases hg; omega); replace h2 := h2.mod m9 (fun g hg => by cases hg; omega); replace ho1 := ho1.mod m9 (fun g hg => by cases hg; omega); replace h4 := h4.mod m9 (fun g hg => by cases hg; omega); replace hw1 := hw1.mod m9 (fun g hg => by cases hg; omega); replace h5 := h5.mod m9 (fun g hg => by cases hg; omega); replace h10 := h10.mod m9 (fun g hg => by cases hg; omega)
     have z33 := m9.size
     refine J_st (R_assign rfl) rfl (J_done ?_)
     refine S_seq ?_
     refine S_seq ?_
     refine S_reg [true, true] rfl rfl ?_
     refine J_st (R_move rfl) rfl (J_st (R_not rfl) rfl (J_done ?_))
     refine S_cond rfl (fun hc10 => ?_) (fun hc10 => ?_)
     ·refine S_seq ?_
      refine S_reg [true, true, true, true, true] rfl rfl ?_
      refine J_st (R_move rfl) rfl (J_st (R_move rfl) rfl (J_st (R_assign rfl) rfl (J_st (R_assign rfl) rfl (J_st (R_assign rfl) rfl (J_done ?_)))))
      refine S_ret (E_doneN (l := [.tmp 6, .tmp 7, .tmp 8]) (vs := [v1, .slice (some ⟨b4, 0, none⟩) 0 0, .bool true]) rfl ⟨.tmp rfl, .tmp rfl, .tmp rfl, trivial⟩ rfl E ?_)
      rw [st_3 hc1 hx hc2 (by rw [rec_no hc3]; rfl), rec_no hc3, out_no (by rw [hstm]; exact not_t hc10)]
      exact ⟨_, _, rfl, Own.fin ho1 (by omega) (by omega) (by first | rfl | (simp only [List.nil_append]; done)), Own.fin (Own.ofBlk (lo := b4) (hi := b4 + 1) (sz := 5) h4 (Nat.le_refl _) (Nat.lt_succ_self _) (by rfl) (by unfold maxLen; omega)) (by omega) (by omega) (by first | rfl | (simp only [List.nil_append]; done)), ⟨⟨(Own.sep ho1 (Own.ofBlk (lo := b4) (hi := b4 + 1) (sz := 5) h4 (Nat.le_refl _) (Nat.lt_succ_self _) (by rfl) (by unfold maxLen; omega)) (by omega)), trivial⟩, ⟨trivial, trivial⟩⟩⟩
     ·refine S_skip ?_
      refine S_reg [true, false] rfl rfl ?_
      refine J_st (R_loadS st41 rfl h11.at rfl) rfl ?_
      refine J_storeS' (cs' := [.int .i64 (((nextT r.stamp).1).epoch), .int .i64 (((nextT r.stamp).1).turn)]) st41 rfl rfl rfl rfl h10 (Nat.le_of_ble_eq_true rfl) rfl (fun w35 m10 h10' => ?_)
      replace h10 := h10'
      replace E := E.step m10 (fun g hg => by cases hg; omega); replace h1 := h1.mod m10 (fun g hg => by cases hg; omega); replace h2 := h2.mod m10 (fun g hg => by cases hg; omega); replace ho1 := ho1.mod m10 (fun g hg => by cases hg; omega); replace h4 := h4.mod m10 (fun g hg => by cases hg; omega); replace hw1 := hw1.mod m10 (fun g hg => by cases hg; omega); replace h5 := h5.mod m10 (fun g hg => by cases hg; omega); replace h11 := h11.mod m10 (fun g hg => by cases hg; omega)
      have z34 := m10.size
      refine J_done ?_
      refine S_seq ?_
      refine S_seq ?_
      refine S_reg [true] rfl rfl ?_
      refine J_st (R_assign rfl) rfl (J_done ?_)
      refine S_block ?_
      refine S_loop (fun (xq : Nat × Value) => let ⟨k, vo⟩ := xq; [(6, .slice none 0 0), (7, .slice none 0 0), (8, .bool false), (9, v1), (10, vo), (11, .pointer (some ⟨b5, 0, none⟩)), (13, .int .i64 ((changedM ((nodeOf g r.op).1) r.key r.val).1)), (14, .int .i64 ((changedM ((nodeOf g r.op).1) r.key r.val).2.1)), (18, .pointer (some ⟨b10, 0, none⟩)), (21, .int .i64 ((k : Nat) : Int))]) (fun (xq : Nat × Value) w' => let ⟨k, vo⟩ := xq; Ext w w' ∧ w35.heap.size ≤ w'.heap.size ∧ Blk w' b1 ([o1, .int .i64 g.workers, .int .i64 g.cap]) ∧ Blk w' b2 (Enc.enc r) ∧ Own w' b3 w4.heap.size 4 v1 ([] ++ List.flatMap (Enc.enc (α := Cell)) cs) ∧ Own w' w5.heap.size w6.heap.size 1 o2 (List.flatMap (Enc.enc (α := Int)) (((nodeOf g r.op).1).outs)) ∧ Blk w' b5 [.int .i64 (((nodeOf g r.op).1).kind), .int .i64 (((nodeOf g r.op).1).a), .int .i64 (((nodeOf g r.op).1).b), o2] ∧ Blk w' b10 [.int .i64 (((nextT r.stamp).1).epoch), .int .i64 (((nextT r.stamp).1).turn)] ∧ Blk w' b11 [.int .i64 (((nextT r.stamp).1).epoch), .int .i64 (((nextT r.stamp).1).turn)] ∧ k ≤ ((nodeOf g r.op).1).outs.length ∧ Own w' b4 w'.heap.size 5 vo (List.flatMap (Enc.enc (α := Record)) (stOut g r k)) ∧ (∀ g, Value.ownBlock vo = some g → g = b4 ∨ w35.heap.size ≤ g)) (fun (xq : Nat × Value) => let ⟨k, vo⟩ := xq; ((nodeOf g r.op).1).outs.length - k) (0, .slice (some ⟨b4, 0, none⟩) 0 0) ⟨rfl, rfl, rfl, rfl, rfl, rfl, rfl, rfl, rfl, rfl, trivial⟩ ⟨E, Nat.le_refl _, h1, h2, ho1, hw1, h5, h10, h11, Nat.zero_le _, Own.fin (Own.ofBlk (lo := b4) (hi := b4 + 1) (sz := 5) h4 (Nat.le_refl _) (Nat.lt_succ_self _) (by simp) (by simp [maxLen])) (by omega) (by omega) out_zero.symm, (fun g hg => .inl (by cases hg; rfl))⟩ ?_
      clear E h1 h2 ho1 h4 hw1 h5 h10 h11
      rintro ⟨k, vo⟩ w36 ⟨E, z35, h1, h2, ho1, hw1, h5, h10, h11, hk, hvo, hvn⟩
      refine S_sub [(6, .slice none 0 0), (7, .slice none 0 0), (8, .bool false), (9, v1), (10, vo), (11, .pointer (some ⟨b5, 0, none⟩)), (13, .int .i64 ((changedM ((nodeOf g r.op).1) r.key r.val).1)), (14, .int .i64 ((changedM ((nodeOf g r.op).1) r.key r.val).2.1)), (18, .pointer (some ⟨b10, 0, none⟩)), (21, .int .i64 ((k : Nat) : Int))] ⟨rfl, rfl, rfl, rfl, rfl, rfl, rfl, rfl, rfl, rfl, trivial⟩ ?_
      refine S_seq ?_
      refine S_seq ?_
      refine S_reg [true, true, true, true, true] rfl rfl ?_
      refine J_st (R_move rfl) rfl (J_st (R_fieldAddr0 fl45_3 rfl) rfl (J_st (R_load sc29 rfl (h5.one 3 rfl)) rfl (J_st (R_len Try.underlying29 rfl (Own.len (by decide) hw1)) rfl (J_st (R_lss rfl rfl) rfl (J_done ?_)))))
      refine S_cond rfl (fun hc11 => ?_) (fun hc11 => ?_)
      ·have hc11n : k < (((nodeOf g r.op).1).outs).length := by first | (have h := of_decide_eq_true hc11; omega) | (have h := hc11; simp at h; omega)
       refine S_skip ?_
       refine S_seq ?_
       refine S_block ?_
       refine S_regX mixed [11] [(0, true), (1, true), (2, true), (3, true), (4, true), (5, true), (6, true), (7, true), (8, true), (9, true), (10, false)] [(11, false), (12, true)] (by decide +kernel) rfl rfl (fun w37 e22 => ?_)
       replace E := E.trans e22; replace h1 := h1.ext e22; replace h2 := h2.ext e22; replace ho1 := ho1.ext e22; replace hw1 := hw1.ext e22; replace h5 := h5.ext e22; replace h10 := h10.ext e22; replace h11 := h11.ext e22; replace hvo := hvo.ext e22
       have z36 := e22.size
       refine J_st (R_move rfl) rfl (J_st (R_fieldAddr0 fl45_3 rfl) rfl (J_st (R_load sc29 rfl (h5.one 3 rfl)) rfl (J_st (R_move rfl) rfl ?_)))
       have hi3 : k < (((nodeOf g r.op).1).outs).length := (by first | assumption | omega | (simp only [List.length_set]; first | assumption | omega) | (simp only [List.getElem_set_self, List.length_set]; first | assumption | omega) | (simp only [setW, setLk, List.length_set]; first | assumption | omega) | (simp; done))
       refine J_st (R_index (i := k) sl29 rfl rfl (Own.rd (by decide) hw1) hi3) rfl (J_st (R_load sc3 rfl (((Own.rd (by decide) hw1).get hi3).one 0 rfl)) rfl (J_st (R_loadS st41 rfl h10.at rfl) rfl (J_st (R_move rfl) rfl (J_st (R_move rfl) rfl (J_st (R_build (⟨((((nodeOf g r.op).1).outs)[k]'hi3), ((nextT r.stamp).1), (changedM ((nodeOf g r.op).1) r.key r.val).1, (changedM ((nodeOf g r.op).1) r.key r.val).2.1⟩ : Record) rfl (fun _ => by kernel_rfl)) rfl ?_)))))
       refine J_buildSlice (vs := [.agg (Enc.enc (⟨((((nodeOf g r.op).1).outs)[k]'hi3), ((nextT r.stamp).1), (changedM ((nodeOf g r.op).1) r.key r.val).1, (changedM ((nodeOf g r.op).1) r.key r.val).2.1⟩ : Record)).toArray]) (css := [[.int .i64 ((⟨((((nodeOf g r.op).1).outs)[k]'hi3), ((nextT r.stamp).1), (changedM ((nodeOf g r.op).1) r.key r.val).1, (changedM ((nodeOf g r.op).1) r.key r.val).2.1⟩ : Record).op), .int .i64 (((⟨((((nodeOf g r.op).1).outs)[k]'hi3), ((nextT r.stamp).1), (changedM ((nodeOf g r.op).1) r.key r.val).1, (changedM ((nodeOf g r.op).1) r.key r.val).2.1⟩ : Record).stamp).epoch), .int .i64 (((⟨((((nodeOf g r.op).1).outs)[k]'hi3), ((nextT r.stamp).1), (changedM ((nodeOf g r.op).1) r.key r.val).1, (changedM ((nodeOf g r.op).1) r.key r.val).2.1⟩ : Record).stamp).turn), .int .i64 ((⟨((((nodeOf g r.op).1).outs)[k]'hi3), ((nextT r.stamp).1), (changedM ((nodeOf g r.op).1) r.key r.val).1, (changedM ((nodeOf g r.op).1) r.key r.val).2.1⟩ : Record).key), .int .i64 ((⟨((((nodeOf g r.op).1).outs)[k]'hi3), ((nextT r.stamp).1), (changedM ((nodeOf g r.op).1) r.key r.val).1, (changedM ((nodeOf g r.op).1) r.key r.val).2.1⟩ : Record).val)]]) sl27 rfl rfl ⟨⟨rfl, rfl⟩, trivial⟩ rfl rfl (fun b12 w38 e23 s12 h12 => ?_)
       replace h12 : Blk w38 b12 [.int .i64 ((⟨((((nodeOf g r.op).1).outs)[k]'hi3), ((nextT r.stamp).1), (changedM ((nodeOf g r.op).1) r.key r.val).1, (changedM ((nodeOf g r.op).1) r.key r.val).2.1⟩ : Record).op), .int .i64 (((⟨((((nodeOf g r.op).1).outs)[k]'hi3), ((nextT r.stamp).1), (changedM ((nodeOf g r.op).1) r.key r.val).1, (changedM ((nodeOf g r.op).1) r.key r.val).2.1⟩ : Record).stamp).epoch), .int .i64 (((⟨((((nodeOf g r.op).1).outs)[k]'hi3), ((nextT r.stamp).1), (changedM ((nodeOf g r.op).1) r.key r.val).1, (changedM ((nodeOf g r.op).1) r.key r.val).2.1⟩ : Record).stamp).turn), .int .i64 ((⟨((((nodeOf g r.op).1).outs)[k]'hi3), ((nextT r.stamp).1), (changedM ((nodeOf g r.op).1) r.key r.val).1, (changedM ((nodeOf g r.op).1) r.key r.val).2.1⟩ : Record).key), .int .i64 ((⟨((((nodeOf g r.op).1).outs)[k]'hi3), ((nextT r.stamp).1), (changedM ((nodeOf g r.op).1) r.key r.val).1, (changedM ((nodeOf g r.op).1) r.key r.val).2.1⟩ : Record).val)] := h12
       have g_b12 : w.heap.size ≤ b12 := by have := E.size; omega
       have y_b12 := h12.lt
       replace E := E.trans e23; replace h1 := h1.ext e23; replace h2 := h2.ext e23; replace ho1 := ho1.ext e23; replace hw1 := hw1.ext e23; replace h5 := h5.ext e23; replace h10 := h10.ext e23; replace h11 := h11.ext e23; replace hvo := hvo.ext e23
       have z37 := e23.size
       refine JX_tail ?_
       refine J2_X rfl ?_
       refine J_appendB sl27 rfl rfl hvo (Src.ofBlk h12 rfl) rfl (by first | (simp only [sum_flat, List.length_nil, List.length_cons]; simp only [Enc.sz]; omega) | (have h := out_len g r k; rw [sum_flat]; simp only [show Enc.sz Record = 5 from rfl, List.length_cons, List.length_nil]; omega)) (by decide) (by omega) (by omega) rfl rfl (fun v5 w39 m11 ho8 hb3 => ?_)
       have hn3 : ∀ g, Value.ownBlock v5 = some g → g = b4 ∨ w35.heap.size ≤ g := fun g hg => (hb3 g hg).elim (fun h => hvn g h) (fun h => by omega)
       replace E := E.step m11 (fun g hg => by have := Own.blk hvo g hg; have := hvn g hg; omega); replace h1 := h1.mod m11 (fun g hg => by have := Own.blk hvo g hg; have := hvn g hg; omega); replace h2 := h2.mod m11 (fun g hg => by have := Own.blk hvo g hg; have := hvn g hg; omega); replace ho1 := ho1.mod m11 (fun g hg => by have := Own.blk hvo g hg; have := hvn g hg; omega); replace hw1 := hw1.mod m11 (fun g hg => by have := Own.blk hvo g hg; have := hvn g hg; omega); replace h5 := h5.mod m11 (fun g hg => by have := Own.blk hvo g hg; have := hvn g hg; omega); replace h10 := h10.mod m11 (fun g hg => by have := Own.blk hvo g hg; have := hvn g hg; omega); replace h11 := h11.mod m11 (fun g hg => by have := Own.blk hvo g hg; have := hvn g hg; omega)
       have z38 := m11.size
       refine JX_go ?_
       refine J_st (R_assign rfl) rfl (J_done ?_)
       refine S_nil (E_inB ?_)
       refine S_reg [true, true, true] rfl rfl ?_
       refine J_st (R_move rfl) rfl (J_st (R_add rfl rfl (add_one hc11n (Own.rd (by decide) hw1).1)) rfl (J_st (R_assign rfl) rfl (J_done ?_)))
       refine S_nil (E_again (k + 1, v5) (by dsimp only; omega) ⟨rfl, rfl, rfl, rfl, rfl, rfl, rfl, rfl, rfl, rfl, trivial⟩ ⟨E, (by omega), h1, h2, ho1, hw1, h5, h10, h11, (by omega), Own.fin ho8 (Nat.le_refl _) (by omega) (out_step (by rw [hstm]) (by rw [hstm]; exact not_f hc10) hx (by omega)), hn3⟩)
      ·have hc11n : ¬ k < (((nodeOf g r.op).1).outs).length := by first | (have h := of_decide_eq_false hc11; omega) | (have h := hc11; simp at h; omega)
       refine S_exit (E_lp_exit (E_inB_exit ?_))
       refine S_seq ?_
       refine S_reg [true, true, true, true, true] rfl rfl ?_
       refine J_st (R_move rfl) rfl (J_st (R_move rfl) rfl (J_st (R_assign rfl) rfl (J_st (R_assign rfl) rfl (J_st (R_assign rfl) rfl (J_done ?_)))))
       refine S_ret (E_doneN (l := [.tmp 6, .tmp 7, .tmp 8]) (vs := [v1, vo, .bool true]) rfl ⟨.tmp rfl, .tmp rfl, .tmp rfl, trivial⟩ rfl E ?_)
       rw [st_3 hc1 hx hc2 (by rw [rec_no hc3]; rfl), rec_no hc3]
       exact ⟨_, _, rfl, Own.fin ho1 (by omega) (by omega) (by first | rfl | (simp only [List.nil_append]; done)), Own.fin hvo (by omega) (by omega) (by rw [show ((nodeOf g r.op).1).outs.length = k from by omega]), ⟨⟨(fun g hg he => by have := Own.blk ho1 g hg; have := Own.blk hvo g he; have := hvn g he; omega), trivial⟩, ⟨trivial, trivial⟩⟩⟩
    ·have hstm := stamp_o hx hc9
     refine S_skip ?_
     refine S_seq ?_
     refine S_seq ?_
     refine S_reg [true] rfl rfl ?_
     refine J_st (R_assign rfl) rfl (J_done ?_)
     refine S_block ?_
     refine S_loop (fun (xq : Nat × Value) => let ⟨k, vo⟩ := xq; [(6, .slice none 0 0), (7, .slice none 0 0), (8, .bool false), (9, v1), (10, vo), (11, .pointer (some ⟨b5, 0, none⟩)), (13, .int .i64 ((changedM ((nodeOf g r.op).1) r.key r.val).1)), (14, .int .i64 ((changedM ((nodeOf g r.op).1) r.key r.val).2.1)), (18, .pointer (some ⟨b10, 0, none⟩)), (21, .int .i64 ((k : Nat) : Int))]) (fun (xq : Nat × Value) w' => let ⟨k, vo⟩ := xq; Ext w w' ∧ w31.heap.size ≤ w'.heap.size ∧ Blk w' b1 ([o1, .int .i64 g.workers, .int .i64 g.cap]) ∧ Blk w' b2 (Enc.enc r) ∧ Own w' b3 w4.heap.size 4 v1 ([] ++ List.flatMap (Enc.enc (α := Cell)) cs) ∧ Own w' w5.heap.size w6.heap.size 1 o2 (List.flatMap (Enc.enc (α := Int)) (((nodeOf g r.op).1).outs)) ∧ Blk w' b5 [.int .i64 (((nodeOf g r.op).1).kind), .int .i64 (((nodeOf g r.op).1).a), .int .i64 (((nodeOf g r.op).1).b), o2] ∧ Blk w' b10 [.int .i64 r.stamp.epoch, .int .i64 r.stamp.turn] ∧ k ≤ ((nodeOf g r.op).1).outs.length ∧ Own w' b4 w'.heap.size 5 vo (List.flatMap (Enc.enc (α := Record)) (stOut g r k)) ∧ (∀ g, Value.ownBlock vo = some g → g = b4 ∨ w31.heap.size ≤ g)) (fun (xq : Nat × Value) => let ⟨k, vo⟩ := xq; ((nodeOf g r.op).1).outs.length - k) (0, .slice (some ⟨b4, 0, none⟩) 0 0) ⟨rfl, rfl, rfl, rfl, rfl, rfl, rfl, rfl, rfl, rfl, trivial⟩ ⟨E, Nat.le_refl _, h1, h2, ho1, hw1, h5, h10, Nat.zero_le _, Own.fin (Own.ofBlk (lo := b4) (hi := b4 + 1) (sz := 5) h4 (Nat.le_refl _) (Nat.lt_succ_self _) (by simp) (by simp [maxLen])) (by omega) (by omega) out_zero.symm, (fun g hg => .inl (by cases hg; rfl))⟩ ?_
     clear E h1 h2 ho1 h4 hw1 h5 h10
     rintro ⟨k, vo⟩ w40 ⟨E, z39, h1, h2, ho1, hw1, h5, h10, hk, hvo, hvn⟩
     refine S_sub [(6, .slice none 0 0), (7, .slice none 0 0), (8, .bool false), (9, v1), (10, vo), (11, .pointer (some ⟨b5, 0, none⟩)), (13, .int .i64 ((changedM ((nodeOf g r.op).1) r.key r.val).1)), (14, .int .i64 ((changedM ((nodeOf g r.op).1) r.key r.val).2.1)), (18, .pointer (some ⟨b10, 0, none⟩)), (21, .int .i64 ((k : Nat) : Int))] ⟨rfl, rfl, rfl, rfl, rfl, rfl, rfl, rfl, rfl, rfl, trivial⟩ ?_
     refine S_seq ?_
     refine S_seq ?_
     refine S_reg [true, true, true, true, true] rfl rfl ?_
     refine J_st (R_move rfl) rfl (J_st (R_fieldAddr0 fl45_3 rfl) rfl (J_st (R_load sc29 rfl (h5.one 3 rfl)) rfl (J_st (R_len Try.underlying29 rfl (Own.len (by decide) hw1)) rfl (J_st (R_lss rfl rfl) rfl (J_done ?_)))))
     refine S_cond rfl (fun hc12 => ?_) (fun hc12 => ?_)
     ·have hc12n : k < (((nodeOf g r.op).1).outs).length := by first | (have h := of_decide_eq_true hc12; omega) | (have h := hc12; simp at h; omega)
      refine S_skip ?_
      refine S_seq ?_
      refine S_block ?_
      refine S_regX mixed [11] [(0, true), (1, true), (2, true), (3, true), (4, true), (5, true), (6, true), (7, true), (8, true), (9, true), (10, false)] [(11, false), (12, true)] (by decide +kernel) rfl rfl (fun w41 e24 => ?_)
      replace E := E.trans e24; replace h1 := h1.ext e24; replace h2 := h2.ext e24; replace ho1 := ho1.ext e24; replace hw1 := hw1.ext e24; replace h5 := h5.ext e24; replace h10 := h10.ext e24; replace hvo := hvo.ext e24
      have z40 := e24.size
      refine J_st (R_move rfl) rfl (J_st (R_fieldAddr0 fl45_3 rfl) rfl (J_st (R_load sc29 rfl (h5.one 3 rfl)) rfl (J_st (R_move rfl) rfl ?_)))
      have hi4 : k < (((nodeOf g r.op).1).outs).length := (by first | assumption | omega | (simp only [List.length_set]; first | assumption | omega) | (simp only [List.getElem_set_self, List.length_set]; first | assumption | omega) | (simp only [setW, setLk, List.length_set]; first | assumption | omega) | (simp; done))
      refine J_st (R_index (i := k) sl29 rfl rfl (Own.rd (by decide) hw1) hi4) rfl (J_st (R_load sc3 rfl (((Own.rd (by decide) hw1).get hi4).one 0 rfl)) rfl (J_st (R_loadS st41 rfl h10.at rfl) rfl (J_st (R_move rfl) rfl (J_st (R_move rfl) rfl (J_st (R_build (⟨((((nodeOf g r.op).1).outs)[k]'hi4), r.stamp, (changedM ((nodeOf g r.op).1) r.key r.val).1, (changedM ((nodeOf g r.op).1) r.key r.val).2.1⟩ : Record) rfl (fun _ => by kernel_rfl)) rfl ?_)))))
      refine J_buildSlice (vs := [.agg (Enc.enc (⟨((((nodeOf g r.op).1).outs)[k]'hi4), r.stamp, (changedM ((nodeOf g r.op).1) r.key r.val).1, (changedM ((nodeOf g r.op).1) r.key r.val).2.1⟩ : Record)).toArray]) (css := [[.int .i64 ((⟨((((nodeOf g r.op).1).outs)[k]'hi4), r.stamp, (changedM ((nodeOf g r.op).1) r.key r.val).1, (changedM ((nodeOf g r.op).1) r.key r.val).2.1⟩ : Record).op), .int .i64 (((⟨((((nodeOf g r.op).1).outs)[k]'hi4), r.stamp, (changedM ((nodeOf g r.op).1) r.key r.val).1, (changedM ((nodeOf g r.op).1) r.key r.val).2.1⟩ : Record).stamp).epoch), .int .i64 (((⟨((((nodeOf g r.op).1).outs)[k]'hi4), r.stamp, (changedM ((nodeOf g r.op).1) r.key r.val).1, (changedM ((nodeOf g r.op).1) r.key r.val).2.1⟩ : Record).stamp).turn), .int .i64 ((⟨((((nodeOf g r.op).1).outs)[k]'hi4), r.stamp, (changedM ((nodeOf g r.op).1) r.key r.val).1, (changedM ((nodeOf g r.op).1) r.key r.val).2.1⟩ : Record).key), .int .i64 ((⟨((((nodeOf g r.op).1).outs)[k]'hi4), r.stamp, (changedM ((nodeOf g r.op).1) r.key r.val).1, (changedM ((nodeOf g r.op).1) r.key r.val).2.1⟩ : Record).val)]]) sl27 rfl rfl ⟨⟨rfl, rfl⟩, trivial⟩ rfl rfl (fun b13 w42 e25 s13 h13 => ?_)
      replace h13 : Blk w42 b13 [.int .i64 ((⟨((((nodeOf g r.op).1).outs)[k]'hi4), r.stamp, (changedM ((nodeOf g r.op).1) r.key r.val).1, (changedM ((nodeOf g r.op).1) r.key r.val).2.1⟩ : Record).op), .int .i64 (((⟨((((nodeOf g r.op).1).outs)[k]'hi4), r.stamp, (changedM ((nodeOf g r.op).1) r.key r.val).1, (changedM ((nodeOf g r.op).1) r.key r.val).2.1⟩ : Record).stamp).epoch), .int .i64 (((⟨((((nodeOf g r.op).1).outs)[k]'hi4), r.stamp, (changedM ((nodeOf g r.op).1) r.key r.val).1, (changedM ((nodeOf g r.op).1) r.key r.val).2.1⟩ : Record).stamp).turn), .int .i64 ((⟨((((nodeOf g r.op).1).outs)[k]'hi4), r.stamp, (changedM ((nodeOf g r.op).1) r.key r.val).1, (changedM ((nodeOf g r.op).1) r.key r.val).2.1⟩ : Record).key), .int .i64 ((⟨((((nodeOf g r.op).1).outs)[k]'hi4), r.stamp, (changedM ((nodeOf g r.op).1) r.key r.val).1, (changedM ((nodeOf g r.op).1) r.key r.val).2.1⟩ : Record).val)] := h13
      have g_b13 : w.heap.size ≤ b13 := by have := E.size; omega
      have y_b13 := h13.lt
      replace E := E.trans e25; replace h1 := h1.ext e25; replace h2 := h2.ext e25; replace ho1 := ho1.ext e25; replace hw1 := hw1.ext e25; replace h5 := h5.ext e25; replace h10 := h10.ext e25; replace hvo := hvo.ext e25
      have z41 := e25.size
      refine JX_tail ?_
      refine J2_X rfl ?_
      refine J_appendB sl27 rfl rfl hvo (Src.ofBlk h13 rfl) rfl (by first | (simp only [sum_flat, List.length_nil, List.length_cons]; simp only [Enc.sz]; omega) | (have h := out_len g r k; rw [sum_flat]; simp only [show Enc.sz Record = 5 from rfl, List.length_cons, List.length_nil]; omega)) (by decide) (by omega) (by omega) rfl rfl (fun v6 w43 m12 ho9 hb4 => ?_)
      have hn4 : ∀ g, Value.ownBlock v6 = some g → g = b4 ∨ w31.heap.size ≤ g := fun g hg => (hb4 g hg).elim (fun h => hvn g h) (fun h => by omega)
      replace E := E.step m12 (fun g hg => by have := Own.blk hvo g hg; have := hvn g hg; omega); replace h1 := h1.mod m12 (fun g hg => by have := Own.blk hvo g hg; have := hvn g hg; omega); replace h2 := h2.mod m12 (fun g hg => by have := Own.blk hvo g hg; have := hvn g hg; omega); replace ho1 := ho1.mod m12 (fun g hg => by have := Own.blk hvo g hg; have := hvn g hg; omega); replace hw1 := hw1.mod m12 (fun g hg => by have := Own.blk hvo g hg; have := hvn g hg; omega); replace h5 := h5.mod m12 (fun g hg => by have := Own.blk hvo g hg; have := hvn g hg; omega); replace h10 := h10.mod m12 (fun g hg => by have := Own.blk hvo g hg; have := hvn g hg; omega)
      have z42 := m12.size
      refine JX_go ?_
      refine J_st (R_assign rfl) rfl (J_done ?_)
      refine S_nil (E_inB ?_)
      refine S_reg [true, true, true] rfl rfl ?_
      refine J_st (R_move rfl) rfl (J_st (R_add rfl rfl (add_one hc12n (Own.rd (by decide) hw1).1)) rfl (J_st (R_assign rfl) rfl (J_done ?_)))
      refine S_nil (E_again (k + 1, v6) (by dsimp only; omega) ⟨rfl, rfl, rfl, rfl, rfl, rfl, rfl, rfl, rfl, rfl, trivial⟩ ⟨E, (by omega), h1, h2, ho1, hw1, h5, h10, (by omega), Own.fin ho9 (Nat.le_refl _) (by omega) (out_step (by rw [hstm]) (by rw [hstm]) hx (by omega)), hn4⟩)
     ·have hc12n : ¬ k < (((nodeOf g r.op).1).outs).length := by first | (have h := of_decide_eq_false hc12; omega) | (have h := hc12; simp at h; omega)
      refine S_exit (E_lp_exit (E_inB_exit ?_))
      refine S_seq ?_
      refine S_reg [true, true, true, true, true] rfl rfl ?_
      refine J_st (R_move rfl) rfl (J_st (R_move rfl) rfl (J_st (R_assign rfl) rfl (J_st (R_assign rfl) rfl (J_st (R_assign rfl) rfl (J_done ?_)))))
      refine S_ret (E_doneN (l := [.tmp 6, .tmp 7, .tmp 8]) (vs := [v1, vo, .bool true]) rfl ⟨.tmp rfl, .tmp rfl, .tmp rfl, trivial⟩ rfl E ?_)
      rw [st_3 hc1 hx hc2 (by rw [rec_no hc3]; rfl), rec_no hc3]
      exact ⟨_, _, rfl, Own.fin ho1 (by omega) (by omega) (by first | rfl | (simp only [List.nil_append]; done)), Own.fin hvo (by omega) (by omega) (by rw [show ((nodeOf g r.op).1).outs.length = k from by omega]), ⟨⟨(fun g hg he => by have := Own.blk ho1 g hg; have := Own.blk hvo g he; have := hvn g he; omega), trivial⟩, ⟨trivial, trivial⟩⟩⟩

set_option maxHeartbeats 4000000 in
set_option maxRecDepth 20000 in
theorem s_WorkOn (cg : List Value) (g : Graph) (cx : List Value) (x : Worker) (w : World) (hg : Dat.R w 0 w.heap.size cg g) (hx : Dat.R w 0 w.heap.size cx x) (hb : cntWorker x ≤ 1048576) (hcg : cntGraph g ≤ 1048576) : Ct Try.prog 48 [.agg cg.toArray, .agg cx.toArray] w (fun v w' => ∃ c0, v = .tuple [.agg c0.toArray, .bool ((workM g x).2)].toArray ∧ Own1.O w' w.heap.size w'.heap.size c0 ((workM g x).1)) := by
 have hb2 := hb
 unfold cntWorker at hb2
 refine ct_of Try.func48 rfl Try.ntmps48 rfl ?_
 obtain ⟨o1, rfl, hd1⟩ := Graph.op hg
 obtain ⟨o2, o3, o4, o5, o6, o7, o8, o9, rfl, hd2, hd3, hd4, hd5, hd6, hd7, hd8, hd9⟩ := Worker.op hx
 refine S_sub [(0, .agg [o1, .int .i64 g.workers, .int .i64 g.cap].toArray), (1, .agg [o2, o3, o4, o5, o6, o7, o8, o9].toArray)] ⟨rfl, rfl, trivial⟩ ?_
 have E : Ext w w := Ext.refl w
 refine S_seq ?_
 refine S_reg [false, false, false, true] rfl rfl ?_
 refine J_box rfl rfl (fun b1 w1 e1 s1 h1 => ?_)
 have g_b1 : w.heap.size ≤ b1 := by have := E.size; omega
 have y_b1 := h1.lt
 replace E := E.trans e1
 have z1 := e1.size
 refine J_box rfl rfl (fun b2 w2 e2 s2 h2 => ?_)
 have g_b2 : w.heap.size ≤ b2 := by have := E.size; omega
 have y_b2 := h2.lt
 replace E := E.trans e2; replace h1 := h1.ext e2
 have z2 := e2.size
 refine J_alloc st33 rfl (fun b3 w3 e3 s3 h3 => ?_)
 have g_b3 : w.heap.size ≤ b3 := by have := E.size; omega
 have y_b3 := h3.lt
 replace E := E.trans e3; replace h1 := h1.ext e3; replace h2 := h2.ext e3
 have z3 := e3.size
 refine J_st (R_assign rfl) rfl (J_done ?_)
 refine S_seq ?_
 refine S_reg [true, false, false] rfl rfl ?_
 refine J_st (R_loadS st33 rfl h2.at rfl) rfl ?_
 refine J_call Try.call17 rfl (s_l12Copy [o2, o3, o4, o5, o6, o7, o8, o9] x _ (Worker.mkR x (RdD.any (hd2.ext E)) (RdD.any (hd3.ext E)) (RdD.any (hd4.ext E)) (RdD.any (hd5.ext E)) (RdD.any (hd6.ext E)) (RdD.any (hd7.ext E)) (RdD.any (hd8.ext E)) (RdD.any (hd9.ext E))) (by first | omega | (simp only [mkL_length]; omega) | (rw [mkL_length]; done) | (simp only [mkL_length]; done))) rfl (fun _ w4 e4 ho1 => ?_)
 obtain ⟨_, rfl, ho1⟩ := ho1
 have g_ho1 : w.heap.size ≤ w3.heap.size := E.size
 replace E := E.trans e4; replace h1 := h1.ext e4; replace h2 := h2.ext e4; replace h3 := h3.ext e4
 have z4 := e4.size
 obtain ⟨o10, o11, o12, o13, o14, o15, o16, o17, rfl, sp1, hw1, hw2, hw3, hw4, hw5, hw6, hw7, hw8⟩ := Worker.opO ho1
 refine J_storeS' (cs' := [o10, o11, o12, o13, o14, o15, o16, o17]) st33 rfl rfl rfl (all_cons hw1.one (all_cons hw2.one (all_cons hw3.one (all_cons hw4.one (all_cons hw5.one (all_cons hw6.one (all_cons hw7.one (all_cons hw8.one rfl)))))))) h2 (Nat.le_of_ble_eq_true rfl) rfl (fun w5 m1 h2' => ?_)
 replace h2 := h2'
 replace E := E.step m1 (fun g hg => by cases hg; omega); replace h1 := h1.mod m1 (fun g hg => by cases hg; omega); replace h3 := h3.mod m1 (fun g hg => by cases hg; omega); replace hw1 := hw1.mod m1 (fun g hg => by cases hg; omega); replace hw2 := hw2.mod m1 (fun g hg => by cases hg; omega); replace hw3 := hw3.mod m1 (fun g hg => by cases hg; omega); replace hw4 := hw4.mod m1 (fun g hg => by cases hg; omega); replace hw5 := hw5.mod m1 (fun g hg => by cases hg; omega); replace hw6 := hw6.mod m1 (fun g hg => by cases hg; omega); replace hw7 := hw7.mod m1 (fun g hg => by cases hg; omega); replace hw8 := hw8.mod m1 (fun g hg => by cases hg; omega)
 have z5 := m1.size
 refine J_done ?_
 refine S_seq ?_
 refine S_seq ?_
 refine S_reg [true, false, true, true, true, true, false, true, true, true, true, true, true, true, true, true, true, true, true, true, true] rfl rfl ?_
 refine J_st (R_loadS st26 rfl h1.at rfl) rfl ?_
 refine J_call Try.call56 rfl (s_GraphOk [o1, .int .i64 g.workers, .int .i64 g.cap] g _ (Graph.mkR g (RdD.any (hd1.ext E)))) rfl (fun _ w6 e5 hv => ?_)
 subst hv
 replace E := E.trans e5; replace h1 := h1.ext e5; replace h2 := h2.ext e5; replace h3 := h3.ext e5; replace hw1 := hw1.ext e5; replace hw2 := hw2.ext e5; replace hw3 := hw3.ext e5; replace hw4 := hw4.ext e5; replace hw5 := hw5.ext e5; replace hw6 := hw6.ext e5; replace hw7 := hw7.ext e5; replace hw8 := hw8.ext e5
 have z6 := e5.size
 refine J_st (R_not rfl) rfl (J_st (R_move rfl) rfl ?_)
 refine J_cut 17 [(0, .agg [o1, .int .i64 g.workers, .int .i64 g.cap].toArray), (1, .agg [o2, o3, o4, o5, o6, o7, o8, o9].toArray), (2, .pointer (some ⟨b1, 0, none⟩)), (3, .pointer (some ⟨b2, 0, none⟩)), (4, .pointer (some ⟨b3, 0, none⟩)), (5, .bool false), (10, .agg [o2, o3, o4, o5, o6, o7, o8, o9].toArray), (11, .agg [o10, o11, o12, o13, o14, o15, o16, o17].toArray), (32, .bool ((((!(graphOk g)) || (!(workerOk g x))) || (decide (0 < ((x.staged.length : Nat) : Int)))) || (((x.queue.length : Nat) : Int) == 0)))] (fun w' => Ext w w' ∧ w6.heap.size ≤ w'.heap.size ∧ Blk w' b1 ([o1, .int .i64 g.workers, .int .i64 g.cap]) ∧ Blk w' b2 [o10, o11, o12, o13, o14, o15, o16, o17] ∧ Blk w' b3 [.slice none 0 0, .slice none 0 0, .slice none 0 0, .slice none 0 0, .slice none 0 0, .slice none 0 0, .slice none 0 0, .slice none 0 0] ∧ Own w' w3.heap.size w4.heap.size 5 o10 (List.flatMap (Enc.enc (α := Record)) x.queue) ∧ Own w' w3.heap.size w4.heap.size 5 o11 (List.flatMap (Enc.enc (α := Record)) x.staged) ∧ Own w' w3.heap.size w4.heap.size 5 o12 (List.flatMap (Enc.enc (α := Record)) x.inputs) ∧ Own w' w3.heap.size w4.heap.size 4 o13 (List.flatMap (Enc.enc (α := Cell)) x.cells) ∧ Own w' w3.heap.size w4.heap.size 1 o14 (List.flatMap (Enc.enc (α := Int)) x.sums) ∧ Own w' w3.heap.size w4.heap.size 1 o15 (List.flatMap (Enc.enc (α := Bool)) x.black) ∧ Own w' w3.heap.size w4.heap.size 1 o16 (List.flatMap (Enc.enc (α := Bool)) x.caps) ∧ Own w' w3.heap.size w4.heap.size 2 o17 (List.flatMap (Enc.enc (α := Done)) x.dones)) ?_ ?_
 ·refine J_if (gd := 15) rfl rfl (fun hg1 => ?_) (fun hg1 => ?_)
  ·refine J_gdno rfl rfl rfl rfl (J_gdno rfl rfl rfl rfl ?_)
   refine J_ungno rfl rfl rfl rfl ?_
   refine J_gdno rfl rfl rfl rfl (J_st (R_pickT rfl rfl) rfl (J_st (R_move rfl) rfl (J_gdno rfl rfl rfl rfl (J_gdno rfl rfl rfl rfl (J_gdno rfl rfl rfl rfl (J_gdno rfl rfl rfl rfl (J_st (R_pickT rfl rfl) rfl (J_st (R_move rfl) rfl (J_gdno rfl rfl rfl rfl (J_gdno rfl rfl rfl rfl (J_gdno rfl rfl rfl rfl (J_gdno rfl rfl rfl rfl (J_st (R_pickT rfl rfl) rfl (J_cutEnd ⟨rfl, rfl, rfl, rfl, rfl, rfl, rfl, rfl, congrArg (fun b => some (Value.bool b)) (show true = ((((!(graphOk g)) || (!(workerOk g x))) || (decide (0 < ((x.staged.length : Nat) : Int)))) || (((x.queue.length : Nat) : Int) == 0)) by first | (rw [hg1] <;> rfl) | (simp [hg1]; done) | (simp only [nat_nlt] <;> simp)), trivial⟩ ⟨E, (by omega), h1, h2, h3, hw1, hw2, hw3, hw4, hw5, hw6, hw7, hw8⟩))))))))))))))
  ·refine J_gd rfl rfl (R_loadS st26 rfl h1.at rfl) rfl (J_gd rfl rfl (R_loadS st33 rfl h2.at rfl) rfl ?_)
   refine J_ung rfl rfl ?_
   refine J_call Try.call57 rfl (s_WorkerOk [o1, .int .i64 g.workers, .int .i64 g.cap] g [o10, o11, o12, o13, o14, o15, o16, o17] x _ (Graph.mkR g (RdD.any (hd1.ext E))) (Worker.mkR x (RdD.any (Own.rdD hw1)) (RdD.any (Own.rdD hw2)) (RdD.any (Own.rdD hw3)) (RdD.any (Own.rdD hw4)) (RdD.any (Own.rdD hw5)) (RdD.any (Own.rdD hw6)) (RdD.any (Own.rdD hw7)) (RdD.any (Own.rdD hw8)))) rfl (fun _ w8 e6 hv => ?_)
   subst hv
   replace E := E.trans e6; replace h1 := h1.ext e6; replace h2 := h2.ext e6; replace h3 := h3.ext e6; replace hw1 := hw1.ext e6; replace hw2 := hw2.ext e6; replace hw3 := hw3.ext e6; replace hw4 := hw4.ext e6; replace hw5 := hw5.ext e6; replace hw6 := hw6.ext e6; replace hw7 := hw7.ext e6; replace hw8 := hw8.ext e6
   have z7 := e6.size
   refine J_gd rfl rfl (R_not rfl) rfl (J_st (R_pickF rfl rfl) rfl (J_st (R_move rfl) rfl ?_))
   refine J_if (gd := 21) rfl rfl (fun hg2 => ?_) (fun hg2 => ?_)
   ·refine J_gdno rfl rfl rfl rfl (J_gdno rfl rfl rfl rfl (J_gdno rfl rfl rfl rfl (J_gdno rfl rfl rfl rfl (J_st (R_pickT rfl rfl) rfl (J_st (R_move rfl) rfl (J_gdno rfl rfl rfl rfl (J_gdno rfl rfl rfl rfl (J_gdno rfl rfl rfl rfl (J_gdno rfl rfl rfl rfl (J_st (R_pickT rfl rfl) rfl (J_cutEnd ⟨rfl, rfl, rfl, rfl, rfl, rfl, rfl, rfl, congrArg (fun b => some (Value.bool b)) (show true = ((((!(graphOk g)) || (!(workerOk g x))) || (decide (0 < ((x.staged.length : Nat) : Int)))) || (((x.queue.length : Nat) : Int) == 0)) by first | (rw [hg1, hg2] <;> rfl) | (simp [hg1, hg2]; done) | (simp only [nat_nlt] <;> simp)), trivial⟩ ⟨E, (by omega), h1, h2, h3, hw1, hw2, hw3, hw4, hw5, hw6, hw7, hw8⟩)))))))))))
   ·refine J_gd rfl rfl (R_fieldAddr0 fl33_1 rfl) rfl (J_gd rfl rfl (R_load sc27 rfl (h2.one 1 rfl)) rfl (J_gd rfl rfl (R_len Try.underlying27 rfl (Own.len (by decide) hw2)) rfl (J_gd rfl rfl (R_gtr rfl rfl) rfl (J_st (R_pickF rfl rfl) rfl (J_st (R_move rfl) rfl ?_)))))
    refine J_if (gd := 27) rfl rfl (fun hg3 => ?_) (fun hg3 => ?_)
    ·have hg3n : x.staged.length > 0 := by first | (have h := of_decide_eq_true hg3; omega) | (have h := hg3; simp at h; omega)
     refine J_gdno rfl rfl rfl rfl (J_gdno rfl rfl rfl rfl (J_gdno rfl rfl rfl rfl (J_gdno rfl rfl rfl rfl (J_st (R_pickT rfl rfl) rfl (J_cutEnd ⟨rfl, rfl, rfl, rfl, rfl, rfl, rfl, rfl, congrArg (fun b => some (Value.bool b)) (show true = ((((!(graphOk g)) || (!(workerOk g x))) || (decide (0 < ((x.staged.length : Nat) : Int)))) || (((x.queue.length : Nat) : Int) == 0)) by first | (rw [hg1, hg2, hg3] <;> rfl) | (simp [hg1, hg2, hg3]; done) | (simp only [nat_nlt] <;> simp)), trivial⟩ ⟨E, (by omega), h1, h2, h3, hw1, hw2, hw3, hw4, hw5, hw6, hw7, hw8⟩)))))
    ·have hg3n : ¬ x.staged.length > 0 := by first | (have h := of_decide_eq_false hg3; omega) | (have h := hg3; simp at h; omega)
     refine J_gd rfl rfl (R_fieldAddr0 fl33_0 rfl) rfl (J_gd rfl rfl (R_load sc27 rfl (h2.one 0 rfl)) rfl (J_gd rfl rfl (R_len Try.underlying27 rfl (Own.len (by decide) hw1)) rfl (J_gd rfl rfl (R_eql rfl rfl) rfl (J_st (R_pickF rfl rfl) rfl (J_cutEnd ⟨rfl, rfl, rfl, rfl, rfl, rfl, rfl, rfl, congrArg (fun b => some (Value.bool b)) (show (((x.queue.length : Nat) : Int) == 0) = ((((!(graphOk g)) || (!(workerOk g x))) || (decide (0 < ((x.staged.length : Nat) : Int)))) || (((x.queue.length : Nat) : Int) == 0)) by first | (rw [hg1, hg2, hg3] <;> rfl) | (simp [hg1, hg2, hg3]; done) | (simp only [nat_nlt] <;> simp)), trivial⟩ ⟨E, (by omega), h1, h2, h3, hw1, hw2, hw3, hw4, hw5, hw6, hw7, hw8⟩)))))
 clear E h1 h2 h3 hw1 hw2 hw3 hw4 hw5 hw6 hw7 hw8
 rintro w7 ⟨E, z8, h1, h2, h3, hw1, hw2, hw3, hw4, hw5, hw6, hw7, hw8⟩
 refine J_done ?_
 refine S_cond rfl (fun hc1 => ?_) (fun hc1 => ?_)
 ·refine S_seq ?_
  refine S_reg [true, false, true] rfl rfl ?_
  refine J_st (R_loadS st33 rfl h2.at rfl) rfl ?_
  refine J_storeS' (cs' := [o10, o11, o12, o13, o14, o15, o16, o17]) st33 rfl rfl rfl (all_cons hw1.one (all_cons hw2.one (all_cons hw3.one (all_cons hw4.one (all_cons hw5.one (all_cons hw6.one (all_cons hw7.one (all_cons hw8.one rfl)))))))) h3 (Nat.le_of_ble_eq_true rfl) rfl (fun w9 m2 h3' => ?_)
  replace h3 := h3'
  replace E := E.step m2 (fun g hg => by cases hg; omega); replace h1 := h1.mod m2 (fun g hg => by cases hg; omega); replace h2 := h2.mod m2 (fun g hg => by cases hg; omega); replace hw1 := hw1.mod m2 (fun g hg => by cases hg; omega); replace hw2 := hw2.mod m2 (fun g hg => by cases hg; omega); replace hw3 := hw3.mod m2 (fun g hg => by cases hg; omega); replace hw4 := hw4.mod m2 (fun g hg => by cases hg; omega); replace hw5 := hw5.mod m2 (fun g hg => by cases hg; omega); replace hw6 := hw6.mod m2 (fun g hg => by cases hg; omega); replace hw7 := hw7.mod m2 (fun g hg => by cases hg; omega); replace hw8 := hw8.mod m2 (fun g hg => by cases hg; omega)
  have z9 := m2.size
  refine J_st (R_assign rfl) rfl (J_done ?_)
  refine S_ret (E_doneN (l := [.cell 4 33, .tmp 5]) (vs := [.agg [o10, o11, o12, o13, o14, o15, o16, o17].toArray, .bool false]) rfl ⟨.cell rfl (run_loadVar_st st33 h3.at rfl), .tmp rfl, trivial⟩ rfl E ?_)
  rw [work_no hc1]
  exact ⟨_, rfl, (Worker.mkO x sp1 (Own.widen hw1 (by omega) (by omega)) (Own.widen hw2 (by omega) (by omega)) (Own.widen hw3 (by omega) (by omega)) (Own.widen hw4 (by omega) (by omega)) (Own.widen hw5 (by omega) (by omega)) (Own.widen hw6 (by omega) (by omega)) (Own.widen hw7 (by omega) (by omega)) (Own.widen hw8 (by omega) (by omega)))⟩
 ·have hwl := work_lt hc1
  refine S_skip ?_
  refine S_seq ?_
  refine S_reg [true, true, true, true, false, false] rfl rfl ?_
  refine J_st (R_fieldAddr0 fl33_0 rfl) rfl (J_st (R_load sc27 rfl (h2.one 0 rfl)) rfl ?_)
  have hi1 : 0 < x.queue.length := (by first | assumption | omega | (simp only [List.length_set]; first | assumption | omega) | (simp only [List.getElem_set_self, List.length_set]; first | assumption | omega) | (simp only [setW, setLk, List.length_set]; first | assumption | omega) | (simp; done))
  refine J_st (R_index (i := 0) sl27 rfl rfl (Own.rd (by decide) hw1) hi1) rfl (J_st (R_loadS st43 rfl ((Own.rd (by decide) hw1).get hi1) rfl) rfl ?_)
  refine J_alloc st43 rfl (fun b4 w10 e7 s4 h4 => ?_)
  have g_b4 : w.heap.size ≤ b4 := by have := E.size; omega
  have y_b4 := h4.lt
  replace E := E.trans e7; replace h1 := h1.ext e7; replace h2 := h2.ext e7; replace h3 := h3.ext e7; replace hw1 := hw1.ext e7; replace hw2 := hw2.ext e7; replace hw3 := hw3.ext e7; replace hw4 := hw4.ext e7; replace hw5 := hw5.ext e7; replace hw6 := hw6.ext e7; replace hw7 := hw7.ext e7; replace hw8 := hw8.ext e7
  have z10 := e7.size
  refine J_storeS' (cs' := [.int .i64 ((x.queue[0]'hi1).op), .int .i64 (((x.queue[0]'hi1).stamp).epoch), .int .i64 (((x.queue[0]'hi1).stamp).turn), .int .i64 ((x.queue[0]'hi1).key), .int .i64 ((x.queue[0]'hi1).val)]) st43 rfl rfl rfl rfl h4 (Nat.le_of_ble_eq_true rfl) rfl (fun w11 m3 h4' => ?_)
  replace h4 := h4'
  replace E := E.step m3 (fun g hg => by cases hg; omega); replace h1 := h1.mod m3 (fun g hg => by cases hg; omega); replace h2 := h2.mod m3 (fun g hg => by cases hg; omega); replace h3 := h3.mod m3 (fun g hg => by cases hg; omega); replace hw1 := hw1.mod m3 (fun g hg => by cases hg; omega); replace hw2 := hw2.mod m3 (fun g hg => by cases hg; omega); replace hw3 := hw3.mod m3 (fun g hg => by cases hg; omega); replace hw4 := hw4.mod m3 (fun g hg => by cases hg; omega); replace hw5 := hw5.mod m3 (fun g hg => by cases hg; omega); replace hw6 := hw6.mod m3 (fun g hg => by cases hg; omega); replace hw7 := hw7.mod m3 (fun g hg => by cases hg; omega); replace hw8 := hw8.mod m3 (fun g hg => by cases hg; omega)
  have z11 := m3.size
  refine J_done ?_
  refine S_seq ?_
  refine S_reg [true, true, true, true, false, true, true, true, true, true, true, true] rfl rfl ?_
  refine J_st (R_loadS st26 rfl h1.at rfl) rfl (J_st (R_fieldAddr0 fl33_3 rfl) rfl (J_st (R_load sc28 rfl (h2.one 3 rfl)) rfl (J_st (R_loadS st43 rfl h4.at rfl) rfl ?_)))
  refine J_call Try.call59 rfl (s_StepOp [o1, .int .i64 g.workers, .int .i64 g.cap] g o13 x.cells (x.queue[0]'hi1) _ (Graph.mkR g (RdD.any (hd1.ext E))) (Own.rd (by decide) hw4) (by first | omega | (simp only [mkL_length]; omega) | (rw [mkL_length]; done) | (simp only [mkL_length]; done)) (by first | omega | (simp only [mkL_length]; omega) | (rw [mkL_length]; done) | (simp only [mkL_length]; done))) rfl (fun _ w12 e8 ho2 => ?_)
  obtain ⟨v1, v2, rfl, ho3, ho4, sp2⟩ := ho2
  have g_ho2 : w.heap.size ≤ w11.heap.size := E.size
  replace E := E.trans e8; replace h1 := h1.ext e8; replace h2 := h2.ext e8; replace h3 := h3.ext e8; replace hw1 := hw1.ext e8; replace hw2 := hw2.ext e8; replace hw3 := hw3.ext e8; replace hw4 := hw4.ext e8; replace hw5 := hw5.ext e8; replace hw6 := hw6.ext e8; replace hw7 := hw7.ext e8; replace hw8 := hw8.ext e8; replace h4 := h4.ext e8
  have z12 := e8.size
  refine J_st (R_move rfl) rfl (J_st (R_extract rfl rfl) rfl (J_st (R_extract rfl rfl) rfl (J_st (R_extract rfl rfl) rfl (J_st (R_assign rfl) rfl (J_st (R_assign rfl) rfl (J_st (R_assign rfl) rfl (J_done ?_)))))))
  refine S_seq ?_
  refine S_reg [false, true, true, true, false, true, false] rfl rfl ?_
  refine J_buildSlice (vs := []) (css := []) sl27 rfl rfl trivial rfl rfl (fun b5 w13 e9 s5 h5 => ?_)
  replace h5 : Blk w13 b5 [] := h5
  have g_b5 : w.heap.size ≤ b5 := by have := E.size; omega
  have y_b5 := h5.lt
  replace E := E.trans e9; replace h1 := h1.ext e9; replace h2 := h2.ext e9; replace h3 := h3.ext e9; replace hw1 := hw1.ext e9; replace hw2 := hw2.ext e9; replace hw3 := hw3.ext e9; replace hw4 := hw4.ext e9; replace hw5 := hw5.ext e9; replace hw6 := hw6.ext e9; replace hw7 := hw7.ext e9; replace hw8 := hw8.ext e9; replace h4 := h4.ext e9; replace ho3 := ho3.ext e9; replace ho4 := ho4.ext e9
  have z13 := e9.size
  refine J_st (R_fieldAddr0 fl33_0 rfl) rfl (J_st (R_load sc27 rfl (h2.one 0 rfl)) rfl ?_)
  have hk1 : 1 ≤ x.queue.length := by first | assumption | omega
  have hs1 := Own.slFromE (α := Record) hw1 hk1
  replace hs1 : Own w13 w3.heap.size w4.heap.size 5 (slFrom o10 1 5) (List.flatMap (Enc.enc (α := Record)) (List.drop 1 x.queue)) := hs1
  have hb1 : Become w13 o10 (slFrom o10 1 5) := fun g hg => .inl (by rwa [slFrom_blk] at hg)
  replace sp1 := SepL.set hb1 0 rfl sp1 ⟨(Own.lt hw1), (Own.lt hw2), (Own.lt hw3), (Own.lt hw4), (Own.lt hw5), (Own.lt hw6), (Own.lt hw7), (Own.lt hw8), trivial⟩
  replace sp1 : SepL [slFrom o10 1 5, o11, o12, o13, o14, o15, o16, o17] := sp1
  refine J_st (R_sliceFrom sl27 rfl rfl (Own.roomE (α := Record) hw1) hk1) rfl ?_
  refine J_append sl27 rfl rfl (Own.ofBlk (lo := b5) (hi := b5 + 1) (sz := 5) h5 (Nat.le_refl _) (Nat.lt_succ_self _) (by simp) (by simp [maxLen])) (Own.src hs1) (flat_one _) (by simp only [sum_flat, List.length_nil, List.length_cons, List.length_drop]; simp only [Enc.sz]; omega) (by decide) (by omega) (by omega) rfl rfl (fun v3 w14 m4 ho5 => ?_)
  replace E := E.step m4 (fun g hg => by have := Own.blk (Own.ofBlk (lo := b5) (hi := b5 + 1) (sz := 5) h5 (Nat.le_refl _) (Nat.lt_succ_self _) (by simp) (by simp [maxLen])) g hg; omega); replace h1 := h1.mod m4 (fun g hg => by have := Own.blk (Own.ofBlk (lo := b5) (hi := b5 + 1) (sz := 5) h5 (Nat.le_refl _) (Nat.lt_succ_self _) (by simp) (by simp [maxLen])) g hg; omega); replace h2 := h2.mod m4 (fun g hg => by have := Own.blk (Own.ofBlk (lo := b5) (hi := b5 + 1) (sz := 5) h5 (Nat.le_refl _) (Nat.lt_succ_self _) (by simp) (by simp [maxLen])) g hg; omega); replace h3 := h3.mod m4 (fun g hg => by have := Own.blk (Own.ofBlk (lo := b5) (hi := b5 + 1) (sz := 5) h5 (Nat.le_refl _) (Nat.lt_succ_self _) (by simp) (by simp [maxLen])) g hg; omega); replace hw2 := hw2.mod m4 (fun g hg => by have := Own.blk (Own.ofBlk (lo := b5) (hi := b5 + 1) (sz := 5) h5 (Nat.le_refl _) (Nat.lt_succ_self _) (by simp) (by simp [maxLen])) g hg; omega); replace hw3 := hw3.mod m4 (fun g hg => by have := Own.blk (Own.ofBlk (lo := b5) (hi := b5 + 1) (sz := 5) h5 (Nat.le_refl _) (Nat.lt_succ_self _) (by simp) (by simp [maxLen])) g hg; omega); replace hw4 := hw4.mod m4 (fun g hg => by have := Own.blk (Own.ofBlk (lo := b5) (hi := b5 + 1) (sz := 5) h5 (Nat.le_refl _) (Nat.lt_succ_self _) (by simp) (by simp [maxLen])) g hg; omega); replace hw5 := hw5.mod m4 (fun g hg => by have := Own.blk (Own.ofBlk (lo := b5) (hi := b5 + 1) (sz := 5) h5 (Nat.le_refl _) (Nat.lt_succ_self _) (by simp) (by simp [maxLen])) g hg; omega); replace hw6 := hw6.mod m4 (fun g hg => by have := Own.blk (Own.ofBlk (lo := b5) (hi := b5 + 1) (sz := 5) h5 (Nat.le_refl _) (Nat.lt_succ_self _) (by simp) (by simp [maxLen])) g hg; omega); replace hw7 := hw7.mod m4 (fun g hg => by have := Own.blk (Own.ofBlk (lo := b5) (hi := b5 + 1) (sz := 5) h5 (Nat.le_refl _) (Nat.lt_succ_self _) (by simp) (by simp [maxLen])) g hg; omega); replace hw8 := hw8.mod m4 (fun g hg => by have := Own.blk (Own.ofBlk (lo := b5) (hi := b5 + 1) (sz := 5) h5 (Nat.le_refl _) (Nat.lt_succ_self _) (by simp) (by simp [maxLen])) g hg; omega); replace h4 := h4.mod m4 (fun g hg => by have := Own.blk (Own.ofBlk (lo := b5) (hi := b5 + 1) (sz := 5) h5 (Nat.le_refl _) (Nat.lt_succ_self _) (by simp) (by simp [maxLen])) g hg; omega); replace ho3 := ho3.mod m4 (fun g hg => by have := Own.blk (Own.ofBlk (lo := b5) (hi := b5 + 1) (sz := 5) h5 (Nat.le_refl _) (Nat.lt_succ_self _) (by simp) (by simp [maxLen])) g hg; omega); replace ho4 := ho4.mod m4 (fun g hg => by have := Own.blk (Own.ofBlk (lo := b5) (hi := b5 + 1) (sz := 5) h5 (Nat.le_refl _) (Nat.lt_succ_self _) (by simp) (by simp [maxLen])) g hg; omega); replace hs1 := hs1.mod m4 (fun g hg => by have := Own.blk (Own.ofBlk (lo := b5) (hi := b5 + 1) (sz := 5) h5 (Nat.le_refl _) (Nat.lt_succ_self _) (by simp) (by simp [maxLen])) g hg; omega)
  have z14 := m4.size
  refine J_st (R_fieldAddr0 fl33_0 rfl) rfl ?_
  refine J_store' (cs' := [v3, o11, o12, o13, o14, o15, o16, o17]) sc27 rfl rfl ho5.one h2 (Nat.le_of_ble_eq_true rfl) rfl (fun w15 m5 h2' => ?_)
  replace h2 := h2'
  replace E := E.step m5 (fun g hg => by cases hg; omega); replace h1 := h1.mod m5 (fun g hg => by cases hg; omega); replace h3 := h3.mod m5 (fun g hg => by cases hg; omega); replace hw2 := hw2.mod m5 (fun g hg => by cases hg; omega); replace hw3 := hw3.mod m5 (fun g hg => by cases hg; omega); replace hw4 := hw4.mod m5 (fun g hg => by cases hg; omega); replace hw5 := hw5.mod m5 (fun g hg => by cases hg; omega); replace hw6 := hw6.mod m5 (fun g hg => by cases hg; omega); replace hw7 := hw7.mod m5 (fun g hg => by cases hg; omega); replace hw8 := hw8.mod m5 (fun g hg => by cases hg; omega); replace h4 := h4.mod m5 (fun g hg => by cases hg; omega); replace ho3 := ho3.mod m5 (fun g hg => by cases hg; omega); replace ho4 := ho4.mod m5 (fun g hg => by cases hg; omega); replace hs1 := hs1.mod m5 (fun g hg => by cases hg; omega); replace ho5 := ho5.mod m5 (fun g hg => by cases hg; omega)
  have z15 := m5.size
  refine J_done ?_
  refine S_seq ?_
  refine S_reg [true, true, false] rfl rfl ?_
  refine J_st (R_move rfl) rfl (J_st (R_fieldAddr0 fl33_3 rfl) rfl ?_)
  refine J_store' (cs' := [v3, o11, o12, v1, o14, o15, o16, o17]) sc28 rfl rfl ho3.one h2 (Nat.le_of_ble_eq_true rfl) rfl (fun w16 m6 h2' => ?_)
  replace h2 := h2'
  replace E := E.step m6 (fun g hg => by cases hg; omega); replace h1 := h1.mod m6 (fun g hg => by cases hg; omega); replace h3 := h3.mod m6 (fun g hg => by cases hg; omega); replace hw2 := hw2.mod m6 (fun g hg => by cases hg; omega); replace hw3 := hw3.mod m6 (fun g hg => by cases hg; omega); replace hw4 := hw4.mod m6 (fun g hg => by cases hg; omega); replace hw5 := hw5.mod m6 (fun g hg => by cases hg; omega); replace hw6 := hw6.mod m6 (fun g hg => by cases hg; omega); replace hw7 := hw7.mod m6 (fun g hg => by cases hg; omega); replace hw8 := hw8.mod m6 (fun g hg => by cases hg; omega); replace h4 := h4.mod m6 (fun g hg => by cases hg; omega); replace ho3 := ho3.mod m6 (fun g hg => by cases hg; omega); replace ho4 := ho4.mod m6 (fun g hg => by cases hg; omega); replace hs1 := hs1.mod m6 (fun g hg => by cases hg; omega); replace ho5 := ho5.mod m6 (fun g hg => by cases hg; omega)
  have z16 := m6.size
  refine J_done ?_
  refine S_seq ?_
  refine S_reg [true, true, false] rfl rfl ?_
  refine J_st (R_move rfl) rfl (J_st (R_fieldAddr0 fl33_1 rfl) rfl ?_)
  refine J_store' (cs' := [v3, v2, o12, v1, o14, o15, o16, o17]) sc27 rfl rfl ho4.one h2 (Nat.le_of_ble_eq_true rfl) rfl (fun w17 m7 h2' => ?_)
  replace h2 := h2'
  replace E := E.step m7 (fun g hg => by cases hg; omega); replace h1 := h1.mod m7 (fun g hg => by cases hg; omega); replace h3 := h3.mod m7 (fun g hg => by cases hg; omega); replace hw2 := hw2.mod m7 (fun g hg => by cases hg; omega); replace hw3 := hw3.mod m7 (fun g hg => by cases hg; omega); replace hw4 := hw4.mod m7 (fun g hg => by cases hg; omega); replace hw5 := hw5.mod m7 (fun g hg => by cases hg; omega); replace hw6 := hw6.mod m7 (fun g hg => by cases hg; omega); replace hw7 := hw7.mod m7 (fun g hg => by cases hg; omega); replace hw8 := hw8.mod m7 (fun g hg => by cases hg; omega); replace h4 := h4.mod m7 (fun g hg => by cases hg; omega); replace ho3 := ho3.mod m7 (fun g hg => by cases hg; omega); replace ho4 := ho4.mod m7 (fun g hg => by cases hg; omega); replace hs1 := hs1.mod m7 (fun g hg => by cases hg; omega); replace ho5 := ho5.mod m7 (fun g hg => by cases hg; omega)
  have z17 := m7.size
  refine J_done ?_
  refine S_seq ?_
  refine S_seq ?_
  refine S_reg [true, true, false] rfl rfl ?_
  refine J_st (R_loadS st26 rfl h1.at rfl) rfl (J_st (R_loadS st43 rfl h4.at rfl) rfl ?_)
  refine J_call Try.call60 rfl (s_Capped [o1, .int .i64 g.workers, .int .i64 g.cap] g (x.queue[0]'hi1) _ (Graph.mkR g (RdD.any (hd1.ext E))) (by first | omega | (simp only [mkL_length]; omega) | (rw [mkL_length]; done) | (simp only [mkL_length]; done))) rfl (fun _ w18 e10 hv => ?_)
  subst hv
  replace E := E.trans e10; replace h1 := h1.ext e10; replace h2 := h2.ext e10; replace h3 := h3.ext e10; replace hw2 := hw2.ext e10; replace hw3 := hw3.ext e10; replace hw4 := hw4.ext e10; replace hw5 := hw5.ext e10; replace hw6 := hw6.ext e10; replace hw7 := hw7.ext e10; replace hw8 := hw8.ext e10; replace h4 := h4.ext e10; replace ho3 := ho3.ext e10; replace ho4 := ho4.ext e10; replace hs1 := hs1.ext e10; replace ho5 := ho5.ext e10
  have z18 := e10.size
  refine J_done ?_
  refine S_cond rfl (fun hc2 => ?_) (fun hc2 => ?_)
  ·have hwc := work_cap hc1 hwl hc2
   refine S_reg [true, true, true, true, true, true, false] rfl rfl ?_
   refine J_st (R_fieldAddr0 fl33_6 rfl) rfl (J_st (R_load sc30 rfl (h2.one 6 rfl)) rfl (J_st (R_fieldAddr0 fl43_1 rfl) rfl (J_st (R_fieldAddr fl41_0 rfl) rfl (J_st (R_load sc3 rfl (h4.one 1 rfl)) rfl ?_))))
   have hi2 : (Int.toNat (((x.queue[0]'hi1).stamp).epoch)) < x.caps.length := (by first | assumption | omega | (simp only [List.length_set]; first | assumption | omega) | (simp only [List.getElem_set_self, List.length_set]; first | assumption | omega) | (simp only [setW, setLk, List.length_set]; first | assumption | omega) | (simp; done))
   refine J_st (R_indexZ (i := (Int.toNat (((x.queue[0]'hi1).stamp).epoch))) sl30 rfl rfl (Own.rd (by decide) hw7) (by omega) hi2) rfl ?_
   refine J_storeSet (α := Bool) (i := (Int.toNat (((x.queue[0]'hi1).stamp).epoch))) (f := 0) true sc4 rfl rfl rfl rfl hw7 hi2 (by decide) rfl (fun w19 m8 hw7' => ?_)
   have hq := Own.blk hw7
   replace hw7 := hw7'
   replace E := E.step m8 (fun g hg => by have := hq g hg; omega); replace h1 := h1.mod m8 (fun g hg => by have := hq g hg; omega); replace h2 := h2.mod m8 (fun g hg => by have := hq g hg; omega); replace h3 := h3.mod m8 (fun g hg => by have := hq g hg; omega); replace hw2 := Own.modS hw2 m8 (sp1.2.1.2.2.2.2.1).symm; replace hw3 := Own.modS hw3 m8 (sp1.2.2.1.2.2.2.1).symm; replace hw4 := Own.modS hw4 m8 (sp1.2.2.2.1.2.2.1).symm; replace hw5 := Own.modS hw5 m8 (sp1.2.2.2.2.1.2.1).symm; replace hw6 := Own.modS hw6 m8 (sp1.2.2.2.2.2.1.1).symm; replace hw8 := Own.modS hw8 m8 sp1.2.2.2.2.2.2.1.1; replace h4 := h4.mod m8 (fun g hg => by have := hq g hg; omega); replace ho3 := ho3.mod m8 (fun g hg => by have := hq g hg; omega); replace ho4 := ho4.mod m8 (fun g hg => by have := hq g hg; omega); replace hs1 := Own.modS hs1 m8 (sp1.1.2.2.2.2.2.1).symm; replace ho5 := ho5.mod m8 (fun g hg => by have := hq g hg; omega)
   have z19 := m8.size
   clear hq
   refine J_done ?_
   refine S_seq ?_
   refine S_reg [true, false, true] rfl rfl ?_
   refine J_st (R_loadS st33 rfl h2.at rfl) rfl ?_
   refine J_storeS' (cs' := [v3, v2, o12, v1, o14, o15, o16, o17]) st33 rfl rfl rfl (all_cons ho5.one (all_cons ho4.one (all_cons hw3.one (all_cons ho3.one (all_cons hw5.one (all_cons hw6.one (all_cons hw7.one (all_cons hw8.one rfl)))))))) h3 (Nat.le_of_ble_eq_true rfl) rfl (fun w20 m9 h3' => ?_)
   replace h3 := h3'
   replace E := E.step m9 (fun g hg => by cases hg; omega); replace h1 := h1.mod m9 (fun g hg => by cases hg; omega); replace h2 := h2.mod m9 (fun g hg => by cases hg; omega); replace hw2 := hw2.mod m9 (fun g hg => by cases hg; omega); replace hw3 := hw3.mod m9 (fun g hg => by cases hg; omega); replace hw4 := hw4.mod m9 (fun g hg => by cases hg; omega); replace hw5 := hw5.mod m9 (fun g hg => by cases hg; omega); replace hw6 := hw6.mod m9 (fun g hg => by cases hg; omega); replace hw8 := hw8.mod m9 (fun g hg => by cases hg; omega); replace h4 := h4.mod m9 (fun g hg => by cases hg; omega); replace ho3 := ho3.mod m9 (fun g hg => by cases hg; omega); replace ho4 := ho4.mod m9 (fun g hg => by cases hg; omega); replace hs1 := hs1.mod m9 (fun g hg => by cases hg; omega); replace ho5 := ho5.mod m9 (fun g hg => by cases hg; omega); replace hw7 := hw7.mod m9 (fun g hg => by cases hg; omega)
   have z20 := m9.size
   refine J_st (R_assign rfl) rfl (J_done ?_)
   refine S_ret (E_doneN (l := [.cell 4 33, .tmp 5]) (vs := [.agg [v3, v2, o12, v1, o14, o15, o16, o17].toArray, .bool true]) rfl ⟨.cell rfl (run_loadVar_st st33 h3.at rfl), .tmp rfl, trivial⟩ rfl E ?_)
   rw [work_c hc1 hwl hc2]
   exact ⟨_, rfl, (Worker.mkO (⟨[] ++ (List.drop 1 x.queue), (stepM g x.cells (x.queue[0]'hi1)).2.1, x.inputs, (stepM g x.cells (x.queue[0]'hi1)).1, x.sums, x.black, List.set x.caps (Int.toNat (((x.queue[0]'hi1).stamp).epoch)) true, x.dones⟩ : Worker) ⟨⟨(Own.sep ho5 ho4 (by omega)), ⟨(Own.sep ho5 hw3 (by omega)), ⟨(Own.sep ho5 ho3 (by omega)), ⟨(Own.sep ho5 hw5 (by omega)), ⟨(Own.sep ho5 hw6 (by omega)), ⟨(Own.sep ho5 hw7 (by omega)), ⟨(Own.sep ho5 hw8 (by omega)), trivial⟩⟩⟩⟩⟩⟩⟩, ⟨⟨(Own.sep ho4 hw3 (by omega)), ⟨(sp2.1.1).symm, ⟨(Own.sep ho4 hw5 (by omega)), ⟨(Own.sep ho4 hw6 (by omega)), ⟨(Own.sep ho4 hw7 (by omega)), ⟨(Own.sep ho4 hw8 (by omega)), trivial⟩⟩⟩⟩⟩⟩, ⟨⟨(Own.sep hw3 ho3 (by omega)), ⟨sp1.2.2.1.2.1, ⟨sp1.2.2.1.2.2.1, ⟨sp1.2.2.1.2.2.2.1, ⟨sp1.2.2.1.2.2.2.2.1, trivial⟩⟩⟩⟩⟩, ⟨⟨(Own.sep ho3 hw5 (by omega)), ⟨(Own.sep ho3 hw6 (by omega)), ⟨(Own.sep ho3 hw7 (by omega)), ⟨(Own.sep ho3 hw8 (by omega)), trivial⟩⟩⟩⟩, ⟨⟨sp1.2.2.2.2.1.1, ⟨sp1.2.2.2.2.1.2.1, ⟨sp1.2.2.2.2.1.2.2.1, trivial⟩⟩⟩, ⟨⟨sp1.2.2.2.2.2.1.1, ⟨sp1.2.2.2.2.2.1.2.1, trivial⟩⟩, ⟨⟨sp1.2.2.2.2.2.2.1.1, trivial⟩, ⟨trivial, trivial⟩⟩⟩⟩⟩⟩⟩⟩ (Own.widen ho5 (by omega) (by omega)) (Own.widen ho4 (by omega) (by omega)) (Own.widen hw3 (by omega) (by omega)) (Own.widen ho3 (by omega) (by omega)) (Own.widen hw5 (by omega) (by omega)) (Own.widen hw6 (by omega) (by omega)) (Own.widen hw7 (by omega) (by omega)) (Own.widen hw8 (by omega) (by omega)))⟩
  ·refine S_skip ?_
   refine S_seq ?_
   refine S_reg [true, false, true] rfl rfl ?_
   refine J_st (R_loadS st33 rfl h2.at rfl) rfl ?_
   refine J_storeS' (cs' := [v3, v2, o12, v1, o14, o15, o16, o17]) st33 rfl rfl rfl (all_cons ho5.one (all_cons ho4.one (all_cons hw3.one (all_cons ho3.one (all_cons hw5.one (all_cons hw6.one (all_cons hw7.one (all_cons hw8.one rfl)))))))) h3 (Nat.le_of_ble_eq_true rfl) rfl (fun w21 m10 h3' => ?_)
   replace h3 := h3'
   replace E := E.step m10 (fun g hg => by cases hg; omega); replace h1 := h1.mod m10 (fun g hg => by cases hg; omega); replace h2 := h2.mod m10 (fun g hg => by cases hg; omega); replace hw2 := hw2.mod m10 (fun g hg => by cases hg; omega); replace hw3 := hw3.mod m10 (fun g hg => by cases hg; omega); replace hw4 := hw4.mod m10 (fun g hg => by cases hg; omega); replace hw5 := hw5.mod m10 (fun g hg => by cases hg; omega); replace hw6 := hw6.mod m10 (fun g hg => by cases hg; omega); replace hw7 := hw7.mod m10 (fun g hg => by cases hg; omega); replace hw8 := hw8.mod m10 (fun g hg => by cases hg; omega); replace h4 := h4.mod m10 (fun g hg => by cases hg; omega); replace ho3 := ho3.mod m10 (fun g hg => by cases hg; omega); replace ho4 := ho4.mod m10 (fun g hg => by cases hg; omega); replace hs1 := hs1.mod m10 (fun g hg => by cases hg; omega); replace ho5 := ho5.mod m10 (fun g hg => by cases hg; omega)
   have z21 := m10.size
   refine J_st (R_assign rfl) rfl (J_done ?_)
   refine S_ret (E_doneN (l := [.cell 4 33, .tmp 5]) (vs := [.agg [v3, v2, o12, v1, o14, o15, o16, o17].toArray, .bool true]) rfl ⟨.cell rfl (run_loadVar_st st33 h3.at rfl), .tmp rfl, trivial⟩ rfl E ?_)
   rw [work_n hc1 hwl hc2]
   exact ⟨_, rfl, (Worker.mkO (⟨[] ++ (List.drop 1 x.queue), (stepM g x.cells (x.queue[0]'hi1)).2.1, x.inputs, (stepM g x.cells (x.queue[0]'hi1)).1, x.sums, x.black, x.caps, x.dones⟩ : Worker) ⟨⟨(Own.sep ho5 ho4 (by omega)), ⟨(Own.sep ho5 hw3 (by omega)), ⟨(Own.sep ho5 ho3 (by omega)), ⟨(Own.sep ho5 hw5 (by omega)), ⟨(Own.sep ho5 hw6 (by omega)), ⟨(Own.sep ho5 hw7 (by omega)), ⟨(Own.sep ho5 hw8 (by omega)), trivial⟩⟩⟩⟩⟩⟩⟩, ⟨⟨(Own.sep ho4 hw3 (by omega)), ⟨(sp2.1.1).symm, ⟨(Own.sep ho4 hw5 (by omega)), ⟨(Own.sep ho4 hw6 (by omega)), ⟨(Own.sep ho4 hw7 (by omega)), ⟨(Own.sep ho4 hw8 (by omega)), trivial⟩⟩⟩⟩⟩⟩, ⟨⟨(Own.sep hw3 ho3 (by omega)), ⟨sp1.2.2.1.2.1, ⟨sp1.2.2.1.2.2.1, ⟨sp1.2.2.1.2.2.2.1, ⟨sp1.2.2.1.2.2.2.2.1, trivial⟩⟩⟩⟩⟩, ⟨⟨(Own.sep ho3 hw5 (by omega)), ⟨(Own.sep ho3 hw6 (by omega)), ⟨(Own.sep ho3 hw7 (by omega)), ⟨(Own.sep ho3 hw8 (by omega)), trivial⟩⟩⟩⟩, ⟨⟨sp1.2.2.2.2.1.1, ⟨sp1.2.2.2.2.1.2.1, ⟨sp1.2.2.2.2.1.2.2.1, trivial⟩⟩⟩, ⟨⟨sp1.2.2.2.2.2.1.1, ⟨sp1.2.2.2.2.2.1.2.1, trivial⟩⟩, ⟨⟨sp1.2.2.2.2.2.2.1.1, trivial⟩, ⟨trivial, trivial⟩⟩⟩⟩⟩⟩⟩⟩ (Own.widen ho5 (by omega) (by omega)) (Own.widen ho4 (by omega) (by omega)) (Own.widen hw3 (by omega) (by omega)) (Own.widen ho3 (by omega) (by omega)) (Own.widen hw5 (by omega) (by omega)) (Own.widen hw6 (by omega) (by omega)) (Own.widen hw7 (by omega) (by omega)) (Own.widen hw8 (by omega) (by omega)))⟩

set_option maxRecDepth 20000 in
theorem s_Brought (n : Int) (a : Int) (b : Int) (w : World)  : Ct Try.prog 55 [.int .i64 n, .int .i64 a, .int .i64 b] w (fun v _ => v = .int .i64 (brM n a b)) := by
 refine ct_of Try.func55 rfl Try.ntmps55 rfl ?_
 refine S_sub [(0, .int .i64 n), (1, .int .i64 a), (2, .int .i64 b)] ⟨rfl, rfl, rfl, trivial⟩ ?_
 have E : Ext w w := Ext.refl w
 refine S_seq ?_
 refine S_reg [true] rfl rfl ?_
 refine J_st (R_assign rfl) rfl (J_done ?_)
 refine S_seq ?_
 refine S_seq ?_
 refine S_reg [true, true, true, true, true, true, true, true] rfl rfl ?_
 refine J_st (R_move rfl) rfl (J_st (R_move rfl) rfl (J_st (R_lss rfl rfl) rfl (J_st (R_move rfl) rfl ?_)))
 refine J_cut 4 [(0, .int .i64 n), (1, .int .i64 a), (2, .int .i64 b), (6, .int .i64 0), (14, .bool ((decide (b < a)) || (decide (n < a))))] (fun w' => w = w') ?_ ?_
 ·refine J_if (gd := 10) rfl rfl (fun hg1 => ?_) (fun hg1 => ?_)
  ·refine J_gdno rfl rfl rfl rfl (J_gdno rfl rfl rfl rfl (J_gdno rfl rfl rfl rfl (J_st (R_pickT rfl rfl) rfl (J_cutEnd ⟨rfl, rfl, rfl, rfl, congrArg (fun b => some (Value.bool b)) (show true = ((decide (b < a)) || (decide (n < a))) by first | (rw [hg1] <;> rfl) | (simp [hg1]; done) | (simp only [nat_nlt] <;> simp)), trivial⟩ rfl))))
  ·refine J_gd rfl rfl (R_move rfl) rfl (J_gd rfl rfl (R_move rfl) rfl (J_gd rfl rfl (R_lss rfl rfl) rfl (J_st (R_pickF rfl rfl) rfl (J_cutEnd ⟨rfl, rfl, rfl, rfl, congrArg (fun b => some (Value.bool b)) (show (decide (n < a)) = ((decide (b < a)) || (decide (n < a))) by first | (rw [hg1] <;> rfl) | (simp [hg1]; done) | (simp only [nat_nlt] <;> simp)), trivial⟩ rfl))))
 rintro _ rfl
 refine J_done ?_
 refine S_cond rfl (fun hc1 => ?_) (fun hc1 => ?_)
 ·refine S_seq ?_
  refine S_reg [true, true] rfl rfl ?_
  refine J_st (R_move rfl) rfl (J_st (R_assign rfl) rfl (J_done ?_))
  refine S_ret (E_done1 rfl rfl E ?_)
  rw [brM, if_pos hc1]
 ·refine S_skip ?_
  refine S_seq ?_
  refine S_seq ?_
  refine S_reg [true, true, true] rfl rfl ?_
  refine J_st (R_move rfl) rfl (J_st (R_move rfl) rfl (J_st (R_gtr rfl rfl) rfl (J_done ?_)))
  refine S_cond rfl (fun hc2 => ?_) (fun hc2 => ?_)
  ·refine S_seq ?_
   refine S_reg [true, true] rfl rfl ?_
   refine J_st (R_move rfl) rfl (J_st (R_assign rfl) rfl (J_done ?_))
   refine S_ret (E_done1 rfl rfl E ?_)
   rw [brM, if_neg (nof hc1), if_pos (of_decide_eq_true hc2)]
  ·refine S_skip ?_
   refine S_seq ?_
   refine S_reg [true, true] rfl rfl ?_
   refine J_st (R_move rfl) rfl (J_st (R_assign rfl) rfl (J_done ?_))
   refine S_ret (E_done1 rfl rfl E ?_)
   rw [brM, if_neg (nof hc1), if_neg (of_decide_eq_false hc2)]

set_option maxRecDepth 20000 in
theorem s_l01New (vcode : Value) (code : List Byt) (w : World) (hcode : RdS w vcode code) : Ct Try.prog 15 [vcode] w (fun v w' => ∃ b, v = .pointer (some ⟨b, 0, none⟩) ∧ w.heap.size ≤ b ∧ CurO w' b vcode code) := by
 have hmx := hcode.1
 unfold maxLen at hmx
 refine ct_of Try.func15 rfl Try.ntmps15 rfl ?_
 refine S_sub [(0, vcode)] ⟨rfl, trivial⟩ ?_
 have E : Ext w w := Ext.refl w
 refine S_seq ?_
 refine S_reg [true] rfl rfl ?_
 refine J_st (R_assign rfl) rfl (J_done ?_)
 refine S_seq ?_
 refine S_reg [true, true, true, true] rfl rfl ?_
 refine J_st (R_move rfl) rfl (J_st (R_len Try.underlying22 rfl (hcode.ext E).len) rfl (J_st (R_add rfl rfl rfl) rfl (J_st (R_assign rfl) rfl (J_done ?_))))
 refine S_seq ?_
 refine S_seq ?_
 refine S_reg [true] rfl rfl ?_
 refine J_st (R_assign rfl) rfl (J_done ?_)
 refine S_block ?_
 refine S_loop (fun (xq : Nat × Int) => let ⟨k, hh⟩ := xq; [(0, vcode), (2, .pointer none), (3, .int .i64 hh), (4, .int .i64 ((k : Nat) : Int))]) (fun (xq : Nat × Int) w' => let ⟨k, hh⟩ := xq; Ext w w' ∧ w.heap.size ≤ w'.heap.size ∧ k ≤ code.length) (fun (xq : Nat × Int) => let ⟨k, hh⟩ := xq; code.length - k) (0, IntKind.i64.wrap (94701 + ((code.length : Nat) : Int))) ⟨rfl, rfl, rfl, rfl, trivial⟩ ⟨E, Nat.le_refl _, Nat.zero_le _⟩ ?_
 clear E
 rintro ⟨k, hh⟩ w1 ⟨E, z1, hk⟩
 refine S_sub [(0, vcode), (2, .pointer none), (3, .int .i64 hh), (4, .int .i64 ((k : Nat) : Int))] ⟨rfl, rfl, rfl, rfl, trivial⟩ ?_
 refine S_seq ?_
 refine S_seq ?_
 refine S_reg [true, true, true, true, true, true, true, true] rfl rfl ?_
 refine J_st (R_move rfl) rfl (J_st (R_move rfl) rfl (J_st (R_len Try.underlying22 rfl (hcode.ext E).len) rfl (J_st (R_lss rfl rfl) rfl (J_st (R_move rfl) rfl ?_))))
 refine J_cut 3 [(0, vcode), (2, .pointer none), (3, .int .i64 hh), (4, .int .i64 ((k : Nat) : Int)), (15, .bool ((decide (((k : Nat) : Int) < ((code.length : Nat) : Int))) && (decide (((k : Nat) : Int) < 4000))))] (fun w' => w1 = w') ?_ ?_
 ·refine J_if (gd := 12) rfl rfl (fun hg1 => ?_) (fun hg1 => ?_)
  ·have hg1n : k < code.length := by first | (have h := of_decide_eq_true hg1; omega) | (have h := hg1; simp at h; omega)
   refine J_gd rfl rfl (R_move rfl) rfl (J_gd rfl rfl (R_lss rfl rfl) rfl (J_st (R_pickT rfl rfl) rfl (J_cutEnd ⟨rfl, rfl, rfl, rfl, congrArg (fun b => some (Value.bool b)) (show (decide (((k : Nat) : Int) < 4000)) = ((decide (((k : Nat) : Int) < ((code.length : Nat) : Int))) && (decide (((k : Nat) : Int) < 4000))) by first | (rw [hg1] <;> rfl) | (simp [hg1]; done) | (simp only [nat_nlt] <;> simp)), trivial⟩ rfl)))
  ·have hg1n : ¬ k < code.length := by first | (have h := of_decide_eq_false hg1; omega) | (have h := hg1; simp at h; omega)
   refine J_gdno rfl rfl rfl rfl (J_gdno rfl rfl rfl rfl (J_st (R_pickF rfl rfl) rfl (J_cutEnd ⟨rfl, rfl, rfl, rfl, congrArg (fun b => some (Value.bool b)) (show false = ((decide (((k : Nat) : Int) < ((code.length : Nat) : Int))) && (decide (((k : Nat) : Int) < 4000))) by first | (rw [hg1] <;> rfl) | (simp [hg1]; done) | (simp only [nat_nlt] <;> simp)), trivial⟩ rfl)))
 rintro _ rfl
 refine J_done ?_
 refine S_cond rfl (fun hc1 => ?_) (fun hc1 => ?_)
 ·have hlt : k < code.length := by have h := (Bool.and_eq_true _ _ ▸ hc1).1; have h2 := of_decide_eq_true h; omega
  refine S_skip ?_
  refine S_seq ?_
  refine S_block ?_
  refine S_reg [true, true, true, true, true, true, true, true, true, true, true] rfl rfl ?_
  refine J_st (R_move rfl) rfl (J_st (R_mul rfl rfl rfl) rfl (J_st (R_move rfl) rfl (J_st (R_move rfl) rfl ?_)))
  have hi1 : k < code.length := (by first | assumption | omega | (simp only [List.length_set]; first | assumption | omega) | (simp only [List.getElem_set_self, List.length_set]; first | assumption | omega) | (simp only [setW, setLk, List.length_set]; first | assumption | omega) | (simp; done))
  refine J_st (R_index (i := k) sl22 rfl rfl (hcode.ext E) hi1) rfl (J_st (R_load sc5 rfl (((hcode.ext E).get hi1).one 0 rfl)) rfl (J_st (R_conv Try.underlying5 Try.underlying3 rfl) rfl (J_st (R_add rfl rfl rfl) rfl (J_st (R_add rfl rfl rfl) rfl (J_st (R_and rfl rfl) rfl (J_st (R_assign rfl) rfl (J_done ?_)))))))
  refine S_nil (E_inB ?_)
  refine S_reg [true, true, true] rfl rfl ?_
  refine J_st (R_move rfl) rfl (J_st (R_add rfl rfl (add_nat (by unfold maxLen; omega))) rfl (J_st (R_assign rfl) rfl (J_done ?_)))
  refine S_nil (E_again (k + 1, andB .i64 (IntKind.i64.wrap ((IntKind.i64.wrap ((IntKind.i64.wrap (hh * 131)) + (IntKind.i64.wrap ((code[k]'hi1).v)))) + 7)) 1073741823) (by simp; omega) ⟨rfl, rfl, rfl, rfl, trivial⟩ ⟨E, (by omega), (by omega)⟩)
 ·refine S_exit (E_lp_exit (E_inB_exit ?_))
  refine S_seq ?_
  refine S_reg [true, true, true, false, true] rfl rfl ?_
  refine J_st (R_move rfl) rfl (J_st (R_move rfl) rfl ?_)
  have hbl1 : ∀ w, (Instr.build 71 ([(0, vcode), (2, .int .i64 hh)]).toArray).run Try.prog w = .ok (.agg [vcode, .int .i64 0, .int .i64 hh].toArray) w := by clear E; obtain ⟨_, _, _, rfl⟩ := SlLen.shape (RdL.len hcode); intro w; kernel_rfl
  refine J_st (R_buildC [vcode, .int .i64 0, .int .i64 hh] rfl hbl1) rfl ?_
  refine J_box rfl rfl (fun b1 w3 e1 s1 h1 => ?_)
  have g_b1 : w.heap.size ≤ b1 := by have := E.size; omega
  have y_b1 := h1.lt
  replace E := E.trans e1
  have z2 := e1.size
  refine J_st (R_assign rfl) rfl (J_done ?_)
  refine S_ret (E_done1 rfl rfl E ?_)
  exact ⟨_, rfl, (by omega), 0, _, h1, Nat.zero_le _⟩

set_option maxRecDepth 20000 in
theorem s_l01Byte (lo : Nat) (vb : Value) (bs : List Byt) (w : World) (hcu : CurO w lo vb bs) (hbs : RdD w 0 lo vb bs) : CtR Try.prog 32 [.pointer (some ⟨lo, 0, none⟩)] w lo (lo + 1) (fun v w' => ∃ (dr0 : Int), 0 ≤ dr0 ∧ dr0 ≤ 255 ∧ CurO w' lo vb bs ∧ v = .int .i64 dr0) := by
 have y_lo := CurO.lt hcu
 refine ctR_of Try.func32 rfl Try.ntmps32 rfl ?_
 obtain ⟨icu, hcn, hblk, hicu⟩ := hcu
 refine S_sub [(0, .pointer (some ⟨lo, 0, none⟩))] ⟨rfl, trivial⟩ ?_
 have E : ModR w w lo (lo + 1) := ModR.refl w lo (lo + 1)
 refine S_seq ?_
 refine S_reg [true] rfl rfl ?_
 refine J_st (R_assign rfl) rfl (J_done ?_)
 refine S_seq ?_
 refine S_reg [true, true, true, true, true, true, true, true, true, false] rfl rfl ?_
 refine J_st (R_move rfl) rfl (J_st (R_move rfl) rfl (J_st (R_nilCheck rfl) rfl (J_st (R_fieldAddr0 fl71_2 rfl) rfl (J_st (R_load sc3 rfl (hblk.one 2 rfl)) rfl (J_st (R_mul rfl rfl rfl) rfl (J_st (R_add rfl rfl rfl) rfl (J_st (R_nilCheck rfl) rfl (J_st (R_fieldAddr0 fl71_2 rfl) rfl ?_))))))))
 refine J_store' (cs' := [vb, .int .i64 ((icu : Nat) : Int), .int .i64 (IntKind.i64.wrap ((IntKind.i64.wrap (hcn * 6364136223846793005)) + 1442695040888963407))]) sc3 rfl rfl rfl hblk (Nat.le_of_ble_eq_true rfl) rfl (fun w1 m1 hblk' => ?_)
 replace hblk := hblk'
 replace E := E.mod m1 (fun g hg => by cases hg; omega); replace hbs := hbs.mod m1 (fun g hg => by cases hg; omega)
 have z1 := m1.size
 refine J_done ?_
 refine S_seq ?_
 refine S_regD mixed [(0, true), (1, true), (2, true), (3, true), (4, true), (5, true), (6, true), (7, true), (8, true), (9, true), (10, true), (11, true), (12, true)] (by decide +kernel) rfl (fun w2 e1 => ?_)
 replace E := E.ext e1; replace hblk := hblk.ext e1; replace hbs := hbs.ext e1
 have z2 := e1.size
 refine J_st (R_move rfl) rfl (J_st (R_nilCheck rfl) rfl (J_st (R_fieldAddr0 fl71_2 rfl) rfl (J_st (R_load sc3 rfl (hblk.one 2 rfl)) rfl (J_st (R_shr rfl rfl (by decide)) rfl (J_st (R_move rfl) rfl (J_st (R_nilCheck rfl) rfl (J_st (R_fieldAddr0 fl71_2 rfl) rfl (J_st (R_load sc3 rfl (hblk.one 2 rfl)) rfl (J_st (R_shr rfl rfl (by decide)) rfl (J_st (R_xor rfl rfl) rfl (J_st (R_and rfl rfl) rfl (J_st (R_assign rfl) rfl (J_done ?_)))))))))))))
 refine S_seq ?_
 refine S_seq ?_
 refine S_regD mixed [(0, true), (1, true), (2, true), (3, true), (4, true), (5, true), (6, true), (7, true), (8, true), (9, true)] (by decide +kernel) rfl (fun w3 e2 => ?_)
 replace E := E.ext e2; replace hblk := hblk.ext e2; replace hbs := hbs.ext e2
 have z3 := e2.size
 refine J_st (R_move rfl) rfl (J_st (R_nilCheck rfl) rfl (J_st (R_fieldAddr0 fl71_1 rfl) rfl (J_st (R_load sc3 rfl (hblk.one 1 rfl)) rfl (J_st (R_move rfl) rfl (J_st (R_nilCheck rfl) rfl (J_st (R_fieldAddr0 fl71_0 rfl) rfl (J_st (R_load sc22 rfl (hblk.one 0 rfl)) rfl (J_st (R_len Try.underlying22 rfl hbs.len) rfl (J_st (R_lss rfl rfl) rfl (J_done ?_))))))))))
 refine S_cond rfl (fun hc1 => ?_) (fun hc1 => ?_)
 ·have hc1n : icu < bs.length := by first | (have h := of_decide_eq_true hc1; omega) | (have h := hc1; simp at h; omega)
  refine S_seq ?_
  refine S_regD mixed [(0, true), (1, true), (2, true), (3, true), (4, true), (5, true), (6, true), (7, true), (8, true), (9, true), (10, true), (11, true), (12, true), (13, true), (14, true)] (by decide +kernel) rfl (fun w4 e3 => ?_)
  replace E := E.ext e3; replace hblk := hblk.ext e3; replace hbs := hbs.ext e3
  have z4 := e3.size
  refine J_st (R_move rfl) rfl (J_st (R_move rfl) rfl (J_st (R_nilCheck rfl) rfl (J_st (R_fieldAddr0 fl71_0 rfl) rfl (J_st (R_load sc22 rfl (hblk.one 0 rfl)) rfl (J_st (R_move rfl) rfl (J_st (R_nilCheck rfl) rfl (J_st (R_fieldAddr0 fl71_1 rfl) rfl (J_st (R_load sc3 rfl (hblk.one 1 rfl)) rfl ?_))))))))
  have hi1 : icu < bs.length := (by first | assumption | omega | (simp only [List.length_set]; first | assumption | omega) | (simp only [List.getElem_set_self, List.length_set]; first | assumption | omega) | (simp only [setW, setLk, List.length_set]; first | assumption | omega) | (simp; done))
  refine J_st (R_index (i := icu) sl22 rfl rfl (RdD.rd hbs) hi1) rfl (J_st (R_load sc5 rfl (((RdD.rd hbs).get hi1).one 0 rfl)) rfl (J_st (R_conv Try.underlying5 Try.underlying3 rfl) rfl (J_st (R_add rfl rfl rfl) rfl (J_st (R_and rfl rfl) rfl (J_st (R_assign rfl) rfl (J_done ?_))))))
  refine S_reg [true, true, true, true, true, true, true, true, false] rfl rfl ?_
  refine J_st (R_move rfl) rfl (J_st (R_move rfl) rfl (J_st (R_nilCheck rfl) rfl (J_st (R_fieldAddr0 fl71_1 rfl) rfl (J_st (R_load sc3 rfl (hblk.one 1 rfl)) rfl (J_st (R_add rfl rfl (add_one hc1n hbs.1.1)) rfl (J_st (R_nilCheck rfl) rfl (J_st (R_fieldAddr0 fl71_1 rfl) rfl ?_)))))))
  refine J_store' (cs' := [vb, .int .i64 ((icu + 1 : Nat) : Int), .int .i64 (IntKind.i64.wrap ((IntKind.i64.wrap (hcn * 6364136223846793005)) + 1442695040888963407))]) sc3 rfl rfl rfl hblk (Nat.le_of_ble_eq_true rfl) rfl (fun w5 m2 hblk' => ?_)
  replace hblk := hblk'
  replace E := E.mod m2 (fun g hg => by cases hg; omega); replace hbs := hbs.mod m2 (fun g hg => by cases hg; omega)
  have z5 := m2.size
  refine J_done ?_
  refine S_seq ?_
  refine S_reg [true, true] rfl rfl ?_
  refine J_st (R_move rfl) rfl (J_st (R_assign rfl) rfl (J_done ?_))
  refine S_ret (E_done1 rfl rfl E ?_)
  exact ⟨(andB .i64 (IntKind.i64.wrap ((andB .i64 (xorB .i64 (shrB .i64 (IntKind.i64.wrap ((IntKind.i64.wrap (hcn * 6364136223846793005)) + 1442695040888963407)) 33) (shrB .i64 (IntKind.i64.wrap ((IntKind.i64.wrap (hcn * 6364136223846793005)) + 1442695040888963407)) 45)) 255) + (IntKind.i64.wrap ((bs[icu]'hi1).v)))) 255), (andB_255 _).1, (andB_255 _).2, ⟨icu + 1, _, hblk, (by omega)⟩, rfl⟩
 ·have hc1n : ¬ icu < bs.length := by first | (have h := of_decide_eq_false hc1; omega) | (have h := hc1; simp at h; omega)
  refine S_skip ?_
  refine S_seq ?_
  refine S_reg [true, true] rfl rfl ?_
  refine J_st (R_move rfl) rfl (J_st (R_assign rfl) rfl (J_done ?_))
  refine S_ret (E_done1 rfl rfl E ?_)
  exact ⟨(andB .i64 (xorB .i64 (shrB .i64 (IntKind.i64.wrap ((IntKind.i64.wrap (hcn * 6364136223846793005)) + 1442695040888963407)) 33) (shrB .i64 (IntKind.i64.wrap ((IntKind.i64.wrap (hcn * 6364136223846793005)) + 1442695040888963407)) 45)) 255), (andB_255 _).1, (andB_255 _).2, ⟨icu, _, hblk, (by omega)⟩, rfl⟩

set_option maxRecDepth 20000 in
theorem s_l01Below (lo : Nat) (vb : Value) (bs : List Byt) (n : Int) (w : World) (hcu : CurO w lo vb bs) (hbs : RdD w 0 lo vb bs) : CtR Try.prog 16 [.pointer (some ⟨lo, 0, none⟩), .int .i64 n] w lo (lo + 1) (fun v w' => ∃ (dr0 : Nat), (0 < n → ((dr0 : Nat) : Int) < n) ∧ (n ≤ 0 → dr0 = 0) ∧ CurO w' lo vb bs ∧ v = .int .i64 ((dr0 : Nat) : Int)) := by
 have y_lo := CurO.lt hcu
 refine ctR_of Try.func16 rfl Try.ntmps16 rfl ?_
 refine S_sub [(0, .pointer (some ⟨lo, 0, none⟩)), (1, .int .i64 n)] ⟨rfl, rfl, trivial⟩ ?_
 have E : ModR w w lo (lo + 1) := ModR.refl w lo (lo + 1)
 refine S_seq ?_
 refine S_reg [true] rfl rfl ?_
 refine J_st (R_assign rfl) rfl (J_done ?_)
 refine S_seq ?_
 refine S_seq ?_
 refine S_reg [true, true] rfl rfl ?_
 refine J_st (R_move rfl) rfl (J_st (R_leq rfl rfl) rfl (J_done ?_))
 refine S_cond rfl (fun hc1 => ?_) (fun hc1 => ?_)
 ·have hnp : n ≤ 0 := by exact of_decide_eq_true hc1
  refine S_seq ?_
  refine S_reg [true] rfl rfl ?_
  refine J_st (R_assign rfl) rfl (J_done ?_)
  refine S_ret (E_done1 rfl rfl E ?_)
  exact ⟨0, (fun h => by omega), (fun _ => rfl), hcu, rfl⟩
 ·have hnp : ¬ n ≤ 0 := by exact of_decide_eq_false hc1
  refine S_skip ?_
  refine S_seq ?_
  refine S_seq ?_
  refine S_reg [true, true] rfl rfl ?_
  refine J_st (R_move rfl) rfl (J_st (R_leq rfl rfl) rfl (J_done ?_))
  refine S_cond rfl (fun hc2 => ?_) (fun hc2 => ?_)
  ·refine S_seq ?_
   refine S_reg [true, false, true, true, true] rfl rfl ?_
   refine J_st (R_move rfl) rfl ?_
   refine J_callR Try.call32 rfl rfl (s_l01Byte lo vb bs _ hcu (RdD.modR hbs E (.inl (Nat.le_refl _)))) rfl (fun _ w1 e1 hv => ?_)
   obtain ⟨dx1, q1, q2, hcu', hv⟩ := hv
   replace hcu := hcu'
   subst hv
   replace E := E.trans e1 (by omega) (by omega)
   have z1 := e1.size
   refine J_st (R_move rfl) rfl (J_st (R_rem rfl rfl (by omega) rfl) rfl (J_st (R_assign rfl) rfl (J_done ?_)))
   refine S_ret (E_done1 rfl rfl E ?_)
   have htm := tmod_nat (n := n) q1 hnp
   exact ⟨_, (fun _ => by rw [htm.1]; exact htm.2), (fun h => absurd h hnp), hcu, congrArg (Value.int .i64) htm.1.symm⟩
  ·refine S_skip ?_
   refine S_seq ?_
   refine S_reg [true, false, true] rfl rfl ?_
   refine J_st (R_move rfl) rfl ?_
   refine J_callR Try.call32 rfl rfl (s_l01Byte lo vb bs _ hcu (RdD.modR hbs E (.inl (Nat.le_refl _)))) rfl (fun _ w2 e2 hv => ?_)
   obtain ⟨dx2, q3, q4, hcu', hv⟩ := hv
   replace hcu := hcu'
   subst hv
   replace E := E.trans e2 (by omega) (by omega)
   have z2 := e2.size
   refine J_st (R_assign rfl) rfl (J_done ?_)
   refine S_seq ?_
   refine S_reg [true, false, true] rfl rfl ?_
   refine J_st (R_move rfl) rfl ?_
   refine J_callR Try.call32 rfl rfl (s_l01Byte lo vb bs _ hcu (RdD.modR hbs E (.inl (Nat.le_refl _)))) rfl (fun _ w3 e3 hv => ?_)
   obtain ⟨dx3, q5, q6, hcu', hv⟩ := hv
   replace hcu := hcu'
   subst hv
   replace E := E.trans e3 (by omega) (by omega)
   have z3 := e3.size
   refine J_st (R_assign rfl) rfl (J_done ?_)
   refine S_seq ?_
   refine S_reg [true, false, true] rfl rfl ?_
   refine J_st (R_move rfl) rfl ?_
   refine J_callR Try.call32 rfl rfl (s_l01Byte lo vb bs _ hcu (RdD.modR hbs E (.inl (Nat.le_refl _)))) rfl (fun _ w4 e4 hv => ?_)
   obtain ⟨dx4, q7, q8, hcu', hv⟩ := hv
   replace hcu := hcu'
   subst hv
   replace E := E.trans e4 (by omega) (by omega)
   have z4 := e4.size
   refine J_st (R_assign rfl) rfl (J_done ?_)
   refine S_seq ?_
   refine S_reg [true, false, true] rfl rfl ?_
   refine J_st (R_move rfl) rfl ?_
   refine J_callR Try.call32 rfl rfl (s_l01Byte lo vb bs _ hcu (RdD.modR hbs E (.inl (Nat.le_refl _)))) rfl (fun _ w5 e5 hv => ?_)
   obtain ⟨dx5, q9, q10, hcu', hv⟩ := hv
   replace hcu := hcu'
   subst hv
   replace E := E.trans e5 (by omega) (by omega)
   have z5 := e5.size
   refine J_st (R_assign rfl) rfl (J_done ?_)
   refine S_seq ?_
   refine S_reg [true, true, true, true, true, true, true, true, true, true, true, true, true] rfl rfl ?_
   refine J_st (R_move rfl) rfl (J_st (R_mul rfl rfl rfl) rfl (J_st (R_move rfl) rfl (J_st (R_mul rfl rfl rfl) rfl (J_st (R_add rfl rfl rfl) rfl (J_st (R_move rfl) rfl (J_st (R_mul rfl rfl rfl) rfl (J_st (R_add rfl rfl rfl) rfl (J_st (R_move rfl) rfl (J_st (R_add rfl rfl rfl) rfl (J_st (R_move rfl) rfl (J_st (R_rem rfl rfl (by omega) rfl) rfl (J_st (R_assign rfl) rfl (J_done ?_)))))))))))))
   refine S_ret (E_done1 rfl rfl E ?_)
   have htm := tmod_nat (n := n) (four_nn q3 q4 q5 q6 q7 q8 q9 q10) hnp
   exact ⟨_, (fun _ => by rw [htm.1]; exact htm.2), (fun h => absurd h hnp), hcu, congrArg (Value.int .i64) htm.1.symm⟩

set_option maxRecDepth 20000 in
theorem s_l01Once (lo : Nat) (vb : Value) (bs : List Byt) (n : Int) (w : World) (hcu : CurO w lo vb bs) (hbs : RdD w 0 lo vb bs) : CtR Try.prog 33 [.pointer (some ⟨lo, 0, none⟩), .int .i64 n] w lo (lo + 1) (fun v w' => ∃ (dr0 : Bool), CurO w' lo vb bs ∧ v = .bool dr0) := by
 have y_lo := CurO.lt hcu
 refine ctR_of Try.func33 rfl Try.ntmps33 rfl ?_
 refine S_sub [(0, .pointer (some ⟨lo, 0, none⟩)), (1, .int .i64 n)] ⟨rfl, rfl, trivial⟩ ?_
 have E : ModR w w lo (lo + 1) := ModR.refl w lo (lo + 1)
 refine S_seq ?_
 refine S_reg [true] rfl rfl ?_
 refine J_st (R_assign rfl) rfl (J_done ?_)
 refine S_seq ?_
 refine S_reg [true, true, false, true, true] rfl rfl ?_
 refine J_st (R_move rfl) rfl (J_st (R_move rfl) rfl ?_)
 refine J_callR Try.call16 rfl rfl (s_l01Below lo vb bs n _ hcu (RdD.modR hbs E (.inl (Nat.le_refl _)))) rfl (fun _ w1 e1 hv => ?_)
 obtain ⟨dx1, q1, q2, hcu', hv⟩ := hv
 replace hcu := hcu'
 subst hv
 replace E := E.trans e1 (by omega) (by omega)
 have z1 := e1.size
 refine J_st (R_eql rfl rfl) rfl (J_st (R_assign rfl) rfl (J_done ?_))
 refine S_ret (E_done1 rfl rfl E ?_)
 exact ⟨(((dx1 : Nat) : Int) == 0), hcu, rfl⟩

set_option maxRecDepth 20000 in
theorem s_l01PickInt (lo : Nat) (vb : Value) (bs : List Byt) (vxs : Value) (xs : List Int) (w : World) (hcu : CurO w lo vb bs) (hbs : RdD w 0 lo vb bs) (hxs : Stab w lo (fun w' => RdS w' vxs xs)) (hne : 0 < xs.length) : CtR Try.prog 37 [.pointer (some ⟨lo, 0, none⟩), vxs] w lo (lo + 1) (fun v w' => ∃ (dr0 : Int), dr0 ∈ xs ∧ CurO w' lo vb bs ∧ v = .int .i64 dr0) := by
 have y_lo := CurO.lt hcu
 refine ctR_of Try.func37 rfl Try.ntmps37 rfl ?_
 refine S_sub [(0, .pointer (some ⟨lo, 0, none⟩)), (1, vxs)] ⟨rfl, rfl, trivial⟩ ?_
 have E : ModR w w lo (lo + 1) := ModR.refl w lo (lo + 1)
 refine S_seq ?_
 refine S_reg [true] rfl rfl ?_
 refine J_st (R_assign rfl) rfl (J_done ?_)
 refine S_seq ?_
 refine S_reg [true, true, true, true, false, true, true, true] rfl rfl ?_
 refine J_st (R_move rfl) rfl (J_st (R_move rfl) rfl (J_st (R_move rfl) rfl (J_st (R_len Try.underlying29 rfl (hxs _ E).len) rfl ?_)))
 refine J_callR Try.call16 rfl rfl (s_l01Below lo vb bs ((xs.length : Nat) : Int) _ hcu (RdD.modR hbs E (.inl (Nat.le_refl _)))) rfl (fun _ w1 e1 hv => ?_)
 obtain ⟨dx1, q1, q2, hcu', hv⟩ := hv
 replace hcu := hcu'
 subst hv
 replace E := E.trans e1 (by omega) (by omega)
 have z1 := e1.size
 have hi1 : dx1 < xs.length := (by first | assumption | omega | (simp only [List.length_set]; first | assumption | omega) | (simp only [List.getElem_set_self, List.length_set]; first | assumption | omega) | (simp only [setW, setLk, List.length_set]; first | assumption | omega) | (simp; done))
 refine J_st (R_index (i := dx1) sl29 rfl rfl (hxs _ E) hi1) rfl (J_st (R_load sc3 rfl (((hxs _ E).get hi1).one 0 rfl)) rfl (J_st (R_assign rfl) rfl (J_done ?_)))
 refine S_ret (E_done1 rfl rfl E ?_)
 exact ⟨(xs[dx1]'hi1), (List.getElem_mem _), hcu, rfl⟩

set_option maxRecDepth 20000 in
theorem l_sameCells (vxs : Value) (xs : List Cell) (vys : Value) (ys : List Cell) (w : World) (hxs : RdS w vxs xs) (hys : RdS w vys ys) : Ct Try.prog 19 [vxs, vys] w (fun v _ => v = .bool (decide (xs = ys))) := by
 refine ct_of Try.func19 rfl Try.ntmps19 rfl ?_
 refine S_sub [(0, vxs), (1, vys)] ⟨rfl, rfl, trivial⟩ ?_
 have E : Ext w w := Ext.refl w
 refine S_seq ?_
 refine S_reg [true] rfl rfl ?_
 refine J_st (R_assign rfl) rfl (J_done ?_)
 refine S_seq ?_
 refine S_seq ?_
 refine S_reg [true, true, true, true, true] rfl rfl ?_
 refine J_st (R_move rfl) rfl (J_st (R_len Try.underlying28 rfl (hxs.ext E).len) rfl (J_st (R_move rfl) rfl (J_st (R_len Try.underlying28 rfl (hys.ext E).len) rfl (J_st (R_neq rfl rfl) rfl (J_done ?_)))))
 refine S_cond rfl (fun hc1 => ?_) (fun hc1 => ?_)
 ·have hc1n : ¬ xs.length = ys.length := by first | (have h := of_decide_eq_true hc1; omega) | (have h := hc1; simp at h; omega)
  refine S_seq ?_
  refine S_reg [true] rfl rfl ?_
  refine J_st (R_assign rfl) rfl (J_done ?_)
  refine S_ret (E_done1 rfl rfl E ?_)
  simp [eq_len hc1n]
 ·have hc1n : xs.length = ys.length := by first | (have h := of_decide_eq_false hc1; omega) | (have h := hc1; simp at h; omega)
  refine S_skip ?_
  refine S_seq ?_
  refine S_seq ?_
  refine S_reg [true] rfl rfl ?_
  refine J_st (R_assign rfl) rfl (J_done ?_)
  refine S_block ?_
  refine S_loop (fun (k : Nat) => [(0, vxs), (1, vys), (4, .bool false), (5, .int .i64 ((k : Nat) : Int))]) (fun (k : Nat) w' => Ext w w' ∧ w.heap.size ≤ w'.heap.size ∧ k ≤ xs.length ∧ xs.take k = ys.take k) (fun (k : Nat) => xs.length - k) 0 ⟨rfl, rfl, rfl, rfl, trivial⟩ ⟨E, Nat.le_refl _, Nat.zero_le _, rfl⟩ ?_
  clear E
  rintro k w1 ⟨E, z1, hk, hp⟩
  refine S_seq ?_
  refine S_seq ?_
  refine S_reg [true, true, true, true] rfl rfl ?_
  refine J_st (R_move rfl) rfl (J_st (R_move rfl) rfl (J_st (R_len Try.underlying28 rfl (hxs.ext E).len) rfl (J_st (R_lss rfl rfl) rfl (J_done ?_))))
  refine S_cond rfl (fun hc2 => ?_) (fun hc2 => ?_)
  ·have hc2n : k < xs.length := by first | (have h := of_decide_eq_true hc2; omega) | (have h := hc2; simp at h; omega)
   refine S_skip ?_
   refine S_seq ?_
   refine S_block ?_
   refine S_seq ?_
   refine S_regD mixed [(0, true), (1, true), (2, true), (3, true), (4, true), (5, true), (6, true), (7, true), (8, true)] (by decide +kernel) rfl (fun w2 e1 => ?_)
   replace E := E.trans e1
   have z2 := e1.size
   refine J_st (R_move rfl) rfl (J_st (R_move rfl) rfl ?_)
   have hi1 : k < xs.length := (by first | assumption | omega | (simp only [List.length_set]; first | assumption | omega) | (simp only [List.getElem_set_self, List.length_set]; first | assumption | omega) | (simp only [setW, setLk, List.length_set]; first | assumption | omega) | (simp; done))
   refine J_st (R_index (i := k) sl28 rfl rfl (hxs.ext E) hi1) rfl (J_st (R_loadS st74 rfl ((hxs.ext E).get hi1) rfl) rfl (J_st (R_move rfl) rfl (J_st (R_move rfl) rfl ?_)))
   have hi2 : k < ys.length := (by first | assumption | omega | (simp only [List.length_set]; first | assumption | omega) | (simp only [List.getElem_set_self, List.length_set]; first | assumption | omega) | (simp only [setW, setLk, List.length_set]; first | assumption | omega) | (simp; done))
   refine J_st (R_index (i := k) sl28 rfl rfl (hys.ext E) hi2) rfl (J_st (R_loadS st74 rfl ((hys.ext E).get hi2) rfl) rfl (J_st (R_neqS (ne74 (xs[k]'hi1) (ys[k]'hi2)) eqg74 rfl rfl) rfl (J_done ?_)))
   refine S_cond rfl (fun hc3 => ?_) (fun hc3 => ?_)
   ·refine S_seq ?_
    refine S_reg [true] rfl rfl ?_
    refine J_st (R_assign rfl) rfl (J_done ?_)
    refine S_ret (E_inB_ret (E_lp_ret (E_inB_ret (E_done1 rfl rfl E ?_))))
    exact eqS_no (by omega) (by omega) (by simpa using hc3)
   ·refine S_skip ?_
    refine S_nil (E_inB ?_)
    refine S_reg [true, true, true] rfl rfl ?_
    refine J_st (R_move rfl) rfl (J_st (R_add rfl rfl (add_one hc2n hxs.1)) rfl (J_st (R_assign rfl) rfl (J_done ?_)))
    refine S_nil (E_again (k + 1) (by omega) ⟨rfl, rfl, rfl, rfl, trivial⟩ ⟨E, (by omega), (by omega), eqS_step hp (by assumption) (by omega) (by simpa using hc3)⟩)
  ·have hc2n : ¬ k < xs.length := by first | (have h := of_decide_eq_false hc2; omega) | (have h := hc2; simp at h; omega)
   refine S_exit (E_lp_exit (E_inB_exit ?_))
   refine S_seq ?_
   refine S_reg [true] rfl rfl ?_
   refine J_st (R_assign rfl) rfl (J_done ?_)
   refine S_ret (E_done1 rfl rfl E ?_)
   exact eqS_yes hp hc1n (by omega)

set_option maxRecDepth 20000 in
theorem l_big (vcode : Value) (code : List Byt) (w : World) (hcode : RdS w vcode code) : Ct Try.prog 4 [vcode] w (fun v _ => v = .bool (decide (((code.length : Nat) : Int) > 1048576))) := by
 refine ct_of Try.func4 rfl Try.ntmps4 rfl ?_
 refine S_sub [(0, vcode)] ⟨rfl, trivial⟩ ?_
 have E : Ext w w := Ext.refl w
 refine S_seq ?_
 refine S_reg [true] rfl rfl ?_
 refine J_st (R_assign rfl) rfl (J_done ?_)
 refine S_seq ?_
 refine S_reg [true, true, true, true] rfl rfl ?_
 refine J_st (R_move rfl) rfl (J_st (R_len Try.underlying22 rfl (hcode.ext E).len) rfl (J_st (R_gtr rfl rfl) rfl (J_st (R_assign rfl) rfl (J_done ?_))))
 refine S_ret (E_done1 rfl rfl E ?_)
 rfl

end Go.Proofs.Yteljajfcppmeiaa
