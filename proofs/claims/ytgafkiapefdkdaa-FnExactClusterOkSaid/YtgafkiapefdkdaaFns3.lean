/- What the functions that the laws call come to: a contract each; no condition. -/
import Derived.Test.YtgafkiapefdkdaaFns2
namespace Go.Proofs.Ytgafkiapefdkdaa
open Go Go.Proofs.Ytgafkiapefdkdaa.X Go.Proofs
set_option maxHeartbeats 4000000 in
set_option maxRecDepth 20000 in
theorem c_WorkerOk (cg : List Value) (g : Graph) (cx : List Value) (x : Worker) (w : World) (hg : Dat.R w 0 w.heap.size cg g) (hx : Dat.R w 0 w.heap.size cx x) : Ct Try.prog 25 [.agg cg.toArray, .agg cx.toArray] w (fun v _ => v = .bool (workerOk g x)) := by
  refine ct_of Try.func25 rfl Try.ntmps25 rfl ?_
  obtain ⟨o1, rfl, hd1⟩ := Graph.op hg
  obtain ⟨o2, o3, o4, o5, o6, o7, o8, o9, rfl, hd2, hd3, hd4, hd5, hd6, hd7, hd8, hd9⟩ := Worker.op hx
  refine S_sub [(0, .agg [o1, .int .i64 g.workers, .int .i64 g.cap].toArray), (1, .agg [o2, o3, o4, o5, o6, o7, o8, o9].toArray)] ⟨rfl, rfl, trivial⟩ ?_
  have E : Ext w w := Ext.refl w
  refine S_seq ?_
  refine S_reg [false, false, true] rfl rfl ?_
  refine J_box rfl rfl (fun b1 w1 e1 s1 h1 => ?_)
  have g_b1 : w.heap.size ≤ b1 := by have := E.size; omega
  have y_b1 := h1.lt
  replace E := E.trans e1
  have z1 := e1.size
  refine J_box rfl rfl (fun b2 w2 e2 s2 h2 => ?_)
  have g_b2 : w.heap.size ≤ b2 := by have := E.size; omega
  have y_b2 := h2.lt
  replace E := E.trans e2; replace h1 := h1.ext e2
  have z2 := e2.size
  refine J_st (R_assign rfl) rfl (J_done ?_)
  refine S_seq ?_
  refine S_seq ?_
  refine S_reg [true, true, true, false, true, true, true, true, true, false, true, true, true, true, true, true, false, true, true, true, true, true, false, true, true] rfl rfl ?_
  refine J_st (R_loadS st35 rfl h1.at rfl) rfl (J_st (R_fieldAddr0 fl58_0 rfl) rfl (J_st (R_load sc52 rfl (h2.one 0 rfl)) rfl ?_))
  refine J_call Try.call27 rfl (c_opsOk [o1, .int .i64 g.workers, .int .i64 g.cap] g o2 x.queue _ (Graph.mkR g (RdD.any (hd1.ext E))) (hd2.rd.ext E)) rfl (fun _ w3 e3 hv => ?_)
  subst hv
  replace E := E.trans e3; replace h1 := h1.ext e3; replace h2 := h2.ext e3
  have z3 := e3.size
  refine J_st (R_not rfl) rfl (J_st (R_move rfl) rfl ?_)
  refine J_cut 19 [(0, .agg [o1, .int .i64 g.workers, .int .i64 g.cap].toArray), (1, .agg [o2, o3, o4, o5, o6, o7, o8, o9].toArray), (2, .pointer (some ⟨b1, 0, none⟩)), (3, .pointer (some ⟨b2, 0, none⟩)), (4, .bool false), (35, .bool ((((!(x.queue.all (opOk g))) || (!(x.staged.all (opOk g)))) || (!(x.inputs.all (opOk g)))) || (!((adj x.cells).all cellLt))))] (fun w' => Ext w w' ∧ w3.heap.size ≤ w'.heap.size ∧ Blk w' b1 ([o1, .int .i64 g.workers, .int .i64 g.cap]) ∧ Blk w' b2 ([o2, o3, o4, o5, o6, o7, o8, o9])) ?_ ?_
  · refine J_if (gd := 16) rfl rfl (fun hg1 => ?_) (fun hg1 => ?_)
    · refine J_gdno rfl rfl rfl rfl (J_gdno rfl rfl rfl rfl (J_gdno rfl rfl rfl rfl ?_))
      refine J_ungno rfl rfl rfl rfl ?_
      refine J_gdno rfl rfl rfl rfl (J_st (R_pickT rfl rfl) rfl (J_st (R_move rfl) rfl (J_gdno rfl rfl rfl rfl (J_gdno rfl rfl rfl rfl (J_gdno rfl rfl rfl rfl ?_)))))
      refine J_ungno rfl rfl rfl rfl ?_
      refine J_gdno rfl rfl rfl rfl (J_st (R_pickT rfl rfl) rfl (J_st (R_move rfl) rfl (J_gdno rfl rfl rfl rfl (J_gdno rfl rfl rfl rfl ?_))))
      refine J_ungno rfl rfl rfl rfl ?_
      refine J_gdno rfl rfl rfl rfl (J_st (R_pickT rfl rfl) rfl (J_cutEnd ⟨rfl, rfl, rfl, rfl, rfl, congrArg (fun b => some (Value.bool b)) (show true = ((((!(x.queue.all (opOk g))) || (!(x.staged.all (opOk g)))) || (!(x.inputs.all (opOk g)))) || (!((adj x.cells).all cellLt))) by first | (rw [hg1] <;> rfl) | (simp [hg1]; done) | (simp only [nat_nlt] <;> simp)), trivial⟩ ⟨E, (by omega), h1, h2⟩))
    · refine J_gd rfl rfl (R_loadS st35 rfl h1.at rfl) rfl (J_gd rfl rfl (R_fieldAddr0 fl58_1 rfl) rfl (J_gd rfl rfl (R_load sc52 rfl (h2.one 1 rfl)) rfl ?_))
      refine J_ung rfl rfl ?_
      refine J_call Try.call27 rfl (c_opsOk [o1, .int .i64 g.workers, .int .i64 g.cap] g o3 x.staged _ (Graph.mkR g (RdD.any (hd1.ext E))) (hd3.rd.ext E)) rfl (fun _ w5 e4 hv => ?_)
      subst hv
      replace E := E.trans e4; replace h1 := h1.ext e4; replace h2 := h2.ext e4
      have z4 := e4.size
      refine J_gd rfl rfl (R_not rfl) rfl (J_st (R_pickF rfl rfl) rfl (J_st (R_move rfl) rfl ?_))
      refine J_if (gd := 23) rfl rfl (fun hg2 => ?_) (fun hg2 => ?_)
      · refine J_gdno rfl rfl rfl rfl (J_gdno rfl rfl rfl rfl (J_gdno rfl rfl rfl rfl ?_))
        refine J_ungno rfl rfl rfl rfl ?_
        refine J_gdno rfl rfl rfl rfl (J_st (R_pickT rfl rfl) rfl (J_st (R_move rfl) rfl (J_gdno rfl rfl rfl rfl (J_gdno rfl rfl rfl rfl ?_))))
        refine J_ungno rfl rfl rfl rfl ?_
        refine J_gdno rfl rfl rfl rfl (J_st (R_pickT rfl rfl) rfl (J_cutEnd ⟨rfl, rfl, rfl, rfl, rfl, congrArg (fun b => some (Value.bool b)) (show true = ((((!(x.queue.all (opOk g))) || (!(x.staged.all (opOk g)))) || (!(x.inputs.all (opOk g)))) || (!((adj x.cells).all cellLt))) by first | (rw [hg1, hg2] <;> rfl) | (simp [hg1, hg2]; done) | (simp only [nat_nlt] <;> simp)), trivial⟩ ⟨E, (by omega), h1, h2⟩))
      · refine J_gd rfl rfl (R_loadS st35 rfl h1.at rfl) rfl (J_gd rfl rfl (R_fieldAddr0 fl58_2 rfl) rfl (J_gd rfl rfl (R_load sc52 rfl (h2.one 2 rfl)) rfl ?_))
        refine J_ung rfl rfl ?_
        refine J_call Try.call27 rfl (c_opsOk [o1, .int .i64 g.workers, .int .i64 g.cap] g o4 x.inputs _ (Graph.mkR g (RdD.any (hd1.ext E))) (hd4.rd.ext E)) rfl (fun _ w6 e5 hv => ?_)
        subst hv
        replace E := E.trans e5; replace h1 := h1.ext e5; replace h2 := h2.ext e5
        have z5 := e5.size
        refine J_gd rfl rfl (R_not rfl) rfl (J_st (R_pickF rfl rfl) rfl (J_st (R_move rfl) rfl ?_))
        refine J_if (gd := 30) rfl rfl (fun hg3 => ?_) (fun hg3 => ?_)
        · refine J_gdno rfl rfl rfl rfl (J_gdno rfl rfl rfl rfl ?_)
          refine J_ungno rfl rfl rfl rfl ?_
          refine J_gdno rfl rfl rfl rfl (J_st (R_pickT rfl rfl) rfl (J_cutEnd ⟨rfl, rfl, rfl, rfl, rfl, congrArg (fun b => some (Value.bool b)) (show true = ((((!(x.queue.all (opOk g))) || (!(x.staged.all (opOk g)))) || (!(x.inputs.all (opOk g)))) || (!((adj x.cells).all cellLt))) by first | (rw [hg1, hg2, hg3] <;> rfl) | (simp [hg1, hg2, hg3]; done) | (simp only [nat_nlt] <;> simp)), trivial⟩ ⟨E, (by omega), h1, h2⟩))
        · refine J_gd rfl rfl (R_fieldAddr0 fl58_3 rfl) rfl (J_gd rfl rfl (R_load sc53 rfl (h2.one 3 rfl)) rfl ?_)
          refine J_ung rfl rfl ?_
          refine J_call Try.call46 rfl (c_CellsOk o5 x.cells _ (hd5.rd.ext E)) rfl (fun _ w7 e6 hv => ?_)
          subst hv
          replace E := E.trans e6; replace h1 := h1.ext e6; replace h2 := h2.ext e6
          have z6 := e6.size
          refine J_gd rfl rfl (R_not rfl) rfl (J_st (R_pickF rfl rfl) rfl (J_cutEnd ⟨rfl, rfl, rfl, rfl, rfl, congrArg (fun b => some (Value.bool b)) (show (!((adj x.cells).all cellLt)) = ((((!(x.queue.all (opOk g))) || (!(x.staged.all (opOk g)))) || (!(x.inputs.all (opOk g)))) || (!((adj x.cells).all cellLt))) by first | (rw [hg1, hg2, hg3] <;> rfl) | (simp [hg1, hg2, hg3]; done) | (simp only [nat_nlt] <;> simp)), trivial⟩ ⟨E, (by omega), h1, h2⟩))
  clear E h1 h2
  rintro w4 ⟨E, z7, h1, h2⟩
  refine J_done ?_
  refine S_cond rfl (fun hc1 => ?_) (fun hc1 => ?_)
  · refine S_seq ?_
    refine S_reg [true] rfl rfl ?_
    refine J_st (R_assign rfl) rfl (J_done ?_)
    refine S_ret (E_done1 rfl rfl E ?_)
    exact bf fun h => by simp only [workerOk, Bool.and_eq_true] at h; obtain ⟨⟨⟨⟨⟨⟨⟨⟨⟨q1, q2⟩, q3⟩, q4⟩, q5⟩, q6⟩, q7⟩, q8⟩, q9⟩, q10⟩ := h; simp only [q1, q2, q3, q4] at hc1; simp at hc1
  · refine S_skip ?_
    refine S_seq ?_
    refine S_seq ?_
    refine S_reg [true, true, true, true] rfl rfl ?_
    refine J_st (R_fieldAddr0 fl58_2 rfl) rfl (J_st (R_load sc52 rfl (h2.one 2 rfl)) rfl (J_st (R_len Try.underlying52 rfl (hd4.ext E).len) rfl (J_st (R_move rfl) rfl (J_done ?_))))
    refine S_block ?_
    refine S_loop (fun (k : Nat) => [(3, .pointer (some ⟨b2, 0, none⟩)), (4, .bool false), (37, o4), (38, .int .i64 ((x.inputs.length : Nat) : Int)), (39, .int .i64 ((k : Nat) : Int))]) (fun (k : Nat) w' => Ext w w' ∧ w4.heap.size ≤ w'.heap.size ∧ Blk w' b1 ([o1, .int .i64 g.workers, .int .i64 g.cap]) ∧ Blk w' b2 ([o2, o3, o4, o5, o6, o7, o8, o9]) ∧ k ≤ x.inputs.length ∧ allR k (fun j => inAt x.inputs j) = true) (fun (k : Nat) => x.inputs.length - k) 0 ⟨rfl, rfl, rfl, rfl, rfl, trivial⟩ ⟨E, Nat.le_refl _, h1, h2, Nat.zero_le _, rfl⟩ ?_
    clear E h1 h2
    rintro k w8 ⟨E, z8, h1, h2, hk, hI1⟩
    have hmi := hd4.1.1
    unfold maxLen at hmi
    refine S_seq ?_
    refine S_reg [true] rfl rfl ?_
    refine J_st (R_lss rfl rfl) rfl (J_done ?_)
    refine S_seq ?_
    refine S_cond rfl (fun hc2 => ?_) (fun hc2 => ?_)
    · have hc2n : k < x.inputs.length := by first | (have h := of_decide_eq_true hc2; omega) | (have h := hc2; simp at h; omega)
      refine S_skip ?_
      refine S_seq ?_
      refine S_block ?_
      refine S_seq ?_
      refine S_reg [true, true, true, false, true, false] rfl rfl ?_
      refine J_st (R_move rfl) rfl ?_
      have hi1 : k < x.inputs.length := (by first | assumption | omega)
      refine J_st (R_index (i := k) sl52 rfl rfl (hd4.rd.ext E) hi1) rfl (J_st (R_loadS st95 rfl ((hd4.rd.ext E).get hi1) rfl) rfl ?_)
      refine J_alloc st95 rfl (fun b3 w9 e7 s3 h3 => ?_)
      have g_b3 : w.heap.size ≤ b3 := by have := E.size; omega
      have y_b3 := h3.lt
      replace E := E.trans e7; replace h1 := h1.ext e7; replace h2 := h2.ext e7
      have z9 := e7.size
      refine J_st (R_assign rfl) rfl ?_
      refine J_storeS' (cs' := [.int .i64 ((x.inputs[k]'hi1).op), .int .i64 (((x.inputs[k]'hi1).stamp).epoch), .int .i64 (((x.inputs[k]'hi1).stamp).turn), .int .i64 ((x.inputs[k]'hi1).key), .int .i64 ((x.inputs[k]'hi1).val)]) st95 rfl rfl rfl rfl h3 (Nat.le_of_ble_eq_true rfl) rfl (fun w10 m1 h3' => ?_)
      replace h3 := h3'
      replace E := E.step m1 (fun g hg => by cases hg; omega); replace h1 := h1.mod m1 (fun g hg => by cases hg; omega); replace h2 := h2.mod m1 (fun g hg => by cases hg; omega)
      have z10 := m1.size
      refine J_done ?_
      refine S_seq ?_
      refine S_regD mixed [(0, true), (1, true), (2, true), (3, true), (4, true), (5, true), (6, true), (7, true), (8, true), (9, true), (10, true), (11, true), (12, true), (13, true), (14, true), (15, true), (16, true), (17, true), (18, true), (19, true), (20, true), (21, true), (22, true), (23, true), (24, true), (25, true), (26, true)] (by decide +kernel) rfl (fun w11 e8 => ?_)
      replace E := E.trans e8; replace h1 := h1.ext e8; replace h2 := h2.ext e8; replace h3 := h3.ext e8
      have z11 := e8.size
      refine J_st (R_fieldAddr0 fl95_0 rfl) rfl (J_st (R_load sc3 rfl (h3.one 0 rfl)) rfl (J_st (R_neq rfl rfl) rfl (J_st (R_move rfl) rfl ?_)))
      refine J_cut 23 [(3, .pointer (some ⟨b2, 0, none⟩)), (4, .bool false), (5, .int .i64 ((k : Nat) : Int)), (6, .pointer (some ⟨b3, 0, none⟩)), (37, o4), (38, .int .i64 ((x.inputs.length : Nat) : Int)), (39, .int .i64 ((k : Nat) : Int)), (40, .bool (decide (((k : Nat) : Int) < ((x.inputs.length : Nat) : Int)))), (41, .int .i64 ((k : Nat) : Int)), (42, .pointer (some ⟨sblk o4, soff o4 + k * 5, none⟩)), (43, .agg (Enc.enc (x.inputs[k]'hi1)).toArray), (70, .bool (((((x.inputs[k]'hi1).op) != 0) || ((((x.inputs[k]'hi1).stamp).turn) != 0)) || ((decide (0 < ((k : Nat) : Int))) && (decide ((((x.inputs[k]'hi1).stamp).epoch) < (((List.getD x.inputs (k - 1) default).stamp).epoch))))))] (fun w' => w11 = w') ?_ ?_
      · refine J_if (gd := 47) rfl rfl (fun hg4 => ?_) (fun hg4 => ?_)
        · refine J_gdno rfl rfl rfl rfl (J_gdno rfl rfl rfl rfl (J_gdno rfl rfl rfl rfl (J_gdno rfl rfl rfl rfl (J_st (R_pickT rfl rfl) rfl (J_st (R_move rfl) rfl (J_gdno rfl rfl rfl rfl (J_gdno rfl rfl rfl rfl (J_gdno rfl rfl rfl rfl (J_gdx rfl rfl rfl (J_gdx rfl rfl rfl (J_gdx rfl rfl rfl (J_gdx rfl rfl rfl (J_gdx rfl rfl rfl (J_gdx rfl rfl rfl (J_gdx rfl rfl rfl (J_gdx rfl rfl rfl (J_gdx rfl rfl rfl (J_gdx rfl rfl rfl (J_gdx rfl rfl rfl (J_gdx rfl rfl rfl (J_gdno rfl rfl rfl rfl (J_st (R_pickT rfl rfl) rfl (J_cutEnd ⟨rfl, rfl, rfl, rfl, rfl, rfl, rfl, rfl, rfl, rfl, rfl, congrArg (fun b => some (Value.bool b)) (show true = (((((x.inputs[k]'hi1).op) != 0) || ((((x.inputs[k]'hi1).stamp).turn) != 0)) || ((decide (0 < ((k : Nat) : Int))) && (decide ((((x.inputs[k]'hi1).stamp).epoch) < (((List.getD x.inputs (k - 1) default).stamp).epoch))))) by first | (rw [hg4] <;> rfl) | (simp [hg4]; done) | (simp only [nat_nlt] <;> simp)), trivial⟩ rfl)))))))))))))))))))))))
        · refine J_gd rfl rfl (R_fieldAddr0 fl95_1 rfl) rfl (J_gd rfl rfl (R_fieldAddr fl93_1 rfl) rfl (J_gd rfl rfl (R_load sc3 rfl (h3.one 2 rfl)) rfl (J_gd rfl rfl (R_neq rfl rfl) rfl (J_st (R_pickF rfl rfl) rfl (J_st (R_move rfl) rfl ?_)))))
          refine J_if (gd := 53) rfl rfl (fun hg5 => ?_) (fun hg5 => ?_)
          · refine J_gdno rfl rfl rfl rfl (J_gdno rfl rfl rfl rfl (J_gdno rfl rfl rfl rfl (J_gdx rfl rfl rfl (J_gdx rfl rfl rfl (J_gdx rfl rfl rfl (J_gdx rfl rfl rfl (J_gdx rfl rfl rfl (J_gdx rfl rfl rfl (J_gdx rfl rfl rfl (J_gdx rfl rfl rfl (J_gdx rfl rfl rfl (J_gdx rfl rfl rfl (J_gdx rfl rfl rfl (J_gdx rfl rfl rfl (J_gdno rfl rfl rfl rfl (J_st (R_pickT rfl rfl) rfl (J_cutEnd ⟨rfl, rfl, rfl, rfl, rfl, rfl, rfl, rfl, rfl, rfl, rfl, congrArg (fun b => some (Value.bool b)) (show true = (((((x.inputs[k]'hi1).op) != 0) || ((((x.inputs[k]'hi1).stamp).turn) != 0)) || ((decide (0 < ((k : Nat) : Int))) && (decide ((((x.inputs[k]'hi1).stamp).epoch) < (((List.getD x.inputs (k - 1) default).stamp).epoch))))) by first | (rw [hg4, hg5] <;> rfl) | (simp [hg4, hg5]; done) | (simp only [nat_nlt] <;> simp)), trivial⟩ rfl)))))))))))))))))
          · refine J_gd rfl rfl (R_move rfl) rfl (J_gd rfl rfl (R_gtr rfl rfl) rfl (J_gd rfl rfl (R_move rfl) rfl ?_))
            refine J_if (gd := 56) rfl rfl (fun hg6 => ?_) (fun hg6 => ?_)
            · have hg6n : k > 0 := by first | (have h := of_decide_eq_true hg6; omega) | (have h := hg6; simp at h; omega)
              refine J_gd rfl rfl (R_fieldAddr0 fl58_2 rfl) rfl (J_gd rfl rfl (R_load sc52 rfl (h2.one 2 rfl)) rfl (J_gd rfl rfl (R_move rfl) rfl (J_gd rfl rfl (R_sub rfl rfl (sub_nat (by omega) (by unfold maxLen; omega))) rfl (J_gd rfl rfl (R_index (i := (k - 1)) sl52 rfl rfl (hd4.rd.ext E) (by first | assumption | omega)) rfl (J_gd rfl rfl (R_fieldAddr fl95_1 rfl) rfl (J_gd rfl rfl (R_fieldAddr fl93_0 rfl) rfl (J_gd rfl rfl (R_load sc3 rfl ((RdS.getD (hd4.rd.ext E) (i := (k - 1)) (by first | assumption | omega)).one 1 rfl)) rfl (J_gd rfl rfl (R_fieldAddr0 fl95_1 rfl) rfl (J_gd rfl rfl (R_fieldAddr fl93_0 rfl) rfl (J_gd rfl rfl (R_load sc3 rfl (h3.one 1 rfl)) rfl (J_gd rfl rfl (R_gtr rfl rfl) rfl (J_gd rfl rfl (R_pickT rfl rfl) rfl (J_st (R_pickF rfl rfl) rfl (J_cutEnd ⟨rfl, rfl, rfl, rfl, rfl, rfl, rfl, rfl, rfl, rfl, rfl, congrArg (fun b => some (Value.bool b)) (show (decide ((((x.inputs[k]'hi1).stamp).epoch) < (((List.getD x.inputs (k - 1) default).stamp).epoch))) = (((((x.inputs[k]'hi1).op) != 0) || ((((x.inputs[k]'hi1).stamp).turn) != 0)) || ((decide (0 < ((k : Nat) : Int))) && (decide ((((x.inputs[k]'hi1).stamp).epoch) < (((List.getD x.inputs (k - 1) default).stamp).epoch))))) by first | (rw [hg4, hg5, hg6] <;> rfl) | (simp [hg4, hg5, hg6]; done) | (simp only [nat_nlt] <;> simp)), trivial⟩ rfl))))))))))))))
            · have hg6n : ¬ k > 0 := by first | (have h := of_decide_eq_false hg6; omega) | (have h := hg6; simp at h; omega)
              refine J_gdno rfl rfl rfl rfl (J_gdno rfl rfl rfl rfl (J_gdno rfl rfl rfl rfl (J_gdno rfl rfl rfl rfl (J_gdno rfl rfl rfl rfl (J_gdno rfl rfl rfl rfl (J_gdno rfl rfl rfl rfl (J_gdno rfl rfl rfl rfl (J_gdno rfl rfl rfl rfl (J_gdno rfl rfl rfl rfl (J_gdno rfl rfl rfl rfl (J_gdno rfl rfl rfl rfl (J_gd rfl rfl (R_pickF rfl rfl) rfl (J_st (R_pickF rfl rfl) rfl (J_cutEnd ⟨rfl, rfl, rfl, rfl, rfl, rfl, rfl, rfl, rfl, rfl, rfl, congrArg (fun b => some (Value.bool b)) (show false = (((((x.inputs[k]'hi1).op) != 0) || ((((x.inputs[k]'hi1).stamp).turn) != 0)) || ((decide (0 < ((k : Nat) : Int))) && (decide ((((x.inputs[k]'hi1).stamp).epoch) < (((List.getD x.inputs (k - 1) default).stamp).epoch))))) by first | (rw [hg4, hg5, hg6] <;> rfl) | (simp [hg4, hg5, hg6]; done) | (simp only [nat_nlt] <;> simp)), trivial⟩ rfl))))))))))))))
      rintro _ rfl
      refine J_done ?_
      refine S_cond rfl (fun hc3 => ?_) (fun hc3 => ?_)
      · refine S_seq ?_
        refine S_reg [true] rfl rfl ?_
        refine J_st (R_assign rfl) rfl (J_done ?_)
        refine S_ret (E_inB_ret (E_lp_ret (E_inB_ret (E_done1 rfl rfl E ?_))))
        exact bf fun h => by simp only [workerOk, Bool.and_eq_true] at h; obtain ⟨⟨⟨⟨⟨⟨⟨⟨⟨q1, q2⟩, q3⟩, q4⟩, q5⟩, q6⟩, q7⟩, q8⟩, q9⟩, q10⟩ := h; have := allR_get q5 (by assumption); rw [inAt_at (by assumption), hc3] at this; cases this
      · refine S_skip ?_
        refine S_nil (E_inB ?_)
        refine S_reg [true, true] rfl rfl ?_
        refine J_st (R_add rfl rfl (add_one hc2n (hd4.ext E).1.1)) rfl (J_st (R_move rfl) rfl (J_done ?_))
        refine S_nil (E_again (k + 1) (by omega) ⟨rfl, rfl, rfl, rfl, rfl, trivial⟩ ⟨E, (by omega), h1, h2, (by omega), allR_s hI1 ((inAt_at (by assumption)).trans (congrArg not hc3))⟩)
    · have hc2n : ¬ k < x.inputs.length := by first | (have h := of_decide_eq_false hc2; omega) | (have h := hc2; simp at h; omega)
      refine S_exit (E_lp_exit (E_inB_exit ?_))
      refine S_seq ?_
      refine S_seq ?_
      refine S_reg [true, true, true, true, true, true, true, true, true, true, true, true, true, true, true, true] rfl rfl ?_
      refine J_st (R_fieldAddr0 fl58_4 rfl) rfl (J_st (R_load sc54 rfl (h2.one 4 rfl)) rfl (J_st (R_len Try.underlying54 rfl (hd6.ext E).len) rfl (J_st (R_neq rfl rfl) rfl (J_st (R_move rfl) rfl ?_))))
      refine J_cut 11 [(3, .pointer (some ⟨b2, 0, none⟩)), (4, .bool false), (37, o4), (38, .int .i64 ((x.inputs.length : Nat) : Int)), (39, .int .i64 ((k : Nat) : Int)), (40, .bool (decide (((k : Nat) : Int) < ((x.inputs.length : Nat) : Int)))), (87, .bool (((((x.sums.length : Nat) : Int) != 4) || (((x.black.length : Nat) : Int) != 4)) || (((x.caps.length : Nat) : Int) != 4)))] (fun w' => w8 = w') ?_ ?_
      · refine J_if (gd := 76) rfl rfl (fun hg7 => ?_) (fun hg7 => ?_)
        · have hg7n : ¬ x.sums.length = 4 := by first | (have h := of_decide_eq_true hg7; omega) | (have h := hg7; simp at h; omega)
          refine J_gdno rfl rfl rfl rfl (J_gdno rfl rfl rfl rfl (J_gdno rfl rfl rfl rfl (J_gdno rfl rfl rfl rfl (J_st (R_pickT rfl rfl) rfl (J_st (R_move rfl) rfl (J_gdno rfl rfl rfl rfl (J_gdno rfl rfl rfl rfl (J_gdno rfl rfl rfl rfl (J_gdno rfl rfl rfl rfl (J_st (R_pickT rfl rfl) rfl (J_cutEnd ⟨rfl, rfl, rfl, rfl, rfl, rfl, congrArg (fun b => some (Value.bool b)) (show true = (((((x.sums.length : Nat) : Int) != 4) || (((x.black.length : Nat) : Int) != 4)) || (((x.caps.length : Nat) : Int) != 4)) by first | (rw [hg7] <;> rfl) | (simp [hg7]; done) | (simp only [nat_nlt] <;> simp)), trivial⟩ rfl)))))))))))
        · have hg7n : x.sums.length = 4 := by first | (have h := of_decide_eq_false hg7; omega) | (have h := hg7; simp at h; omega)
          refine J_gd rfl rfl (R_fieldAddr0 fl58_5 rfl) rfl (J_gd rfl rfl (R_load sc55 rfl (h2.one 5 rfl)) rfl (J_gd rfl rfl (R_len Try.underlying55 rfl (hd7.ext E).len) rfl (J_gd rfl rfl (R_neq rfl rfl) rfl (J_st (R_pickF rfl rfl) rfl (J_st (R_move rfl) rfl ?_)))))
          refine J_if (gd := 82) rfl rfl (fun hg8 => ?_) (fun hg8 => ?_)
          · have hg8n : ¬ x.black.length = 4 := by first | (have h := of_decide_eq_true hg8; omega) | (have h := hg8; simp at h; omega)
            refine J_gdno rfl rfl rfl rfl (J_gdno rfl rfl rfl rfl (J_gdno rfl rfl rfl rfl (J_gdno rfl rfl rfl rfl (J_st (R_pickT rfl rfl) rfl (J_cutEnd ⟨rfl, rfl, rfl, rfl, rfl, rfl, congrArg (fun b => some (Value.bool b)) (show true = (((((x.sums.length : Nat) : Int) != 4) || (((x.black.length : Nat) : Int) != 4)) || (((x.caps.length : Nat) : Int) != 4)) by first | (rw [hg7, hg8] <;> rfl) | (simp [hg7, hg8]; done) | (simp only [nat_nlt] <;> simp)), trivial⟩ rfl)))))
          · have hg8n : x.black.length = 4 := by first | (have h := of_decide_eq_false hg8; omega) | (have h := hg8; simp at h; omega)
            refine J_gd rfl rfl (R_fieldAddr0 fl58_6 rfl) rfl (J_gd rfl rfl (R_load sc55 rfl (h2.one 6 rfl)) rfl (J_gd rfl rfl (R_len Try.underlying55 rfl (hd8.ext E).len) rfl (J_gd rfl rfl (R_neq rfl rfl) rfl (J_st (R_pickF rfl rfl) rfl (J_cutEnd ⟨rfl, rfl, rfl, rfl, rfl, rfl, congrArg (fun b => some (Value.bool b)) (show (((x.caps.length : Nat) : Int) != 4) = (((((x.sums.length : Nat) : Int) != 4) || (((x.black.length : Nat) : Int) != 4)) || (((x.caps.length : Nat) : Int) != 4)) by first | (rw [hg7, hg8] <;> rfl) | (simp [hg7, hg8]; done) | (simp only [nat_nlt] <;> simp)), trivial⟩ rfl)))))
      rintro _ rfl
      refine J_done ?_
      refine S_cond rfl (fun hc4 => ?_) (fun hc4 => ?_)
      · refine S_seq ?_
        refine S_reg [true] rfl rfl ?_
        refine J_st (R_assign rfl) rfl (J_done ?_)
        refine S_ret (E_done1 rfl rfl E ?_)
        exact bf fun h => by simp only [workerOk, Bool.and_eq_true] at h; obtain ⟨⟨⟨⟨⟨⟨⟨⟨⟨q1, q2⟩, q3⟩, q4⟩, q5⟩, q6⟩, q7⟩, q8⟩, q9⟩, q10⟩ := h; simp only [beq_iff_eq] at q6 q7 q8; simp [q6, q7, q8] at hc4
      · refine S_skip ?_
        refine S_seq ?_
        refine S_seq ?_
        refine S_reg [true, true, true, true] rfl rfl ?_
        refine J_st (R_fieldAddr0 fl58_4 rfl) rfl (J_st (R_load sc54 rfl (h2.one 4 rfl)) rfl (J_st (R_len Try.underlying54 rfl (hd6.ext E).len) rfl (J_st (R_move rfl) rfl (J_done ?_))))
        refine S_block ?_
        refine S_loop (fun (k : Nat) => [(3, .pointer (some ⟨b2, 0, none⟩)), (4, .bool false), (89, o6), (90, .int .i64 ((x.sums.length : Nat) : Int)), (91, .int .i64 ((k : Nat) : Int))]) (fun (k : Nat) w' => Ext w w' ∧ w8.heap.size ≤ w'.heap.size ∧ Blk w' b1 ([o1, .int .i64 g.workers, .int .i64 g.cap]) ∧ Blk w' b2 ([o2, o3, o4, o5, o6, o7, o8, o9]) ∧ k ≤ x.sums.length ∧ (x.sums.take k).all (win · (-1000000) 1000000) = true) (fun (k : Nat) => x.sums.length - k) 0 ⟨rfl, rfl, rfl, rfl, rfl, trivial⟩ ⟨E, Nat.le_refl _, h1, h2, Nat.zero_le _, rfl⟩ ?_
        clear E h1 h2
        rintro k w14 ⟨E, z12, h1, h2, hk, hI2⟩
        refine S_seq ?_
        refine S_reg [true] rfl rfl ?_
        refine J_st (R_lss rfl rfl) rfl (J_done ?_)
        refine S_seq ?_
        refine S_cond rfl (fun hc5 => ?_) (fun hc5 => ?_)
        · have hc5n : k < x.sums.length := by first | (have h := of_decide_eq_true hc5; omega) | (have h := hc5; simp at h; omega)
          refine S_skip ?_
          refine S_seq ?_
          refine S_block ?_
          refine S_seq ?_
          refine S_reg [true, true, true] rfl rfl ?_
          have hi2 : k < x.sums.length := (by first | assumption | omega)
          refine J_st (R_index (i := k) sl54 rfl rfl (hd6.rd.ext E) hi2) rfl (J_st (R_load sc3 rfl (((hd6.rd.ext E).get hi2).one 0 rfl)) rfl (J_st (R_assign rfl) rfl (J_done ?_)))
          refine S_seq ?_
          refine S_reg [true, false, true] rfl rfl ?_
          refine J_st (R_move rfl) rfl ?_
          refine J_call Try.call28 rfl (c_within (x.sums[k]'hi2) (-1000000) 1000000 _ ) rfl (fun _ w15 e9 hv => ?_)
          subst hv
          replace E := E.trans e9; replace h1 := h1.ext e9; replace h2 := h2.ext e9
          have z13 := e9.size
          refine J_st (R_not rfl) rfl (J_done ?_)
          refine S_cond rfl (fun hc6 => ?_) (fun hc6 => ?_)
          · refine S_seq ?_
            refine S_reg [true] rfl rfl ?_
            refine J_st (R_assign rfl) rfl (J_done ?_)
            refine S_ret (E_inB_ret (E_lp_ret (E_inB_ret (E_done1 rfl rfl E ?_))))
            exact bf fun h => by simp only [workerOk, Bool.and_eq_true] at h; obtain ⟨⟨⟨⟨⟨⟨⟨⟨⟨q1, q2⟩, q3⟩, q4⟩, q5⟩, q6⟩, q7⟩, q8⟩, q9⟩, q10⟩ := h; have := List.all_eq_true.1 q9 _ (List.getElem_mem (by assumption)); simp only [this] at hc6; cases hc6
          · refine S_skip ?_
            refine S_nil (E_inB ?_)
            refine S_reg [true, true] rfl rfl ?_
            refine J_st (R_add rfl rfl (add_one hc5n (hd6.ext E).1.1)) rfl (J_st (R_move rfl) rfl (J_done ?_))
            refine S_nil (E_again (k + 1) (by omega) ⟨rfl, rfl, rfl, rfl, rfl, trivial⟩ ⟨E, (by omega), h1, h2, (by omega), all_step hI2 (by assumption) (by simpa using hc6)⟩)
        · have hc5n : ¬ k < x.sums.length := by first | (have h := of_decide_eq_false hc5; omega) | (have h := hc5; simp at h; omega)
          refine S_exit (E_lp_exit (E_inB_exit ?_))
          refine S_seq ?_
          refine S_seq ?_
          refine S_reg [true, true, true, true] rfl rfl ?_
          refine J_st (R_fieldAddr0 fl58_7 rfl) rfl (J_st (R_load sc56 rfl (h2.one 7 rfl)) rfl (J_st (R_len Try.underlying56 rfl (hd9.ext E).len) rfl (J_st (R_move rfl) rfl (J_done ?_))))
          refine S_block ?_
          refine S_loop (fun (k : Nat) => [(3, .pointer (some ⟨b2, 0, none⟩)), (4, .bool false), (100, o9), (101, .int .i64 ((x.dones.length : Nat) : Int)), (102, .int .i64 ((k : Nat) : Int))]) (fun (k : Nat) w' => Ext w w' ∧ w14.heap.size ≤ w'.heap.size ∧ Blk w' b1 ([o1, .int .i64 g.workers, .int .i64 g.cap]) ∧ Blk w' b2 ([o2, o3, o4, o5, o6, o7, o8, o9]) ∧ k ≤ x.dones.length ∧ allR k (fun j => doneAtOk x.dones j) = true) (fun (k : Nat) => x.dones.length - k) 0 ⟨rfl, rfl, rfl, rfl, rfl, trivial⟩ ⟨E, Nat.le_refl _, h1, h2, Nat.zero_le _, rfl⟩ ?_
          clear E h1 h2
          rintro k w16 ⟨E, z14, h1, h2, hk, hI3⟩
          refine S_seq ?_
          refine S_reg [true] rfl rfl ?_
          refine J_st (R_lss rfl rfl) rfl (J_done ?_)
          refine S_seq ?_
          refine S_cond rfl (fun hc7 => ?_) (fun hc7 => ?_)
          · have hc7n : k < x.dones.length := by first | (have h := of_decide_eq_true hc7; omega) | (have h := hc7; simp at h; omega)
            refine S_skip ?_
            refine S_seq ?_
            refine S_block ?_
            refine S_seq ?_
            refine S_reg [true, true, true, false, true, false] rfl rfl ?_
            refine J_st (R_move rfl) rfl ?_
            have hi3 : k < x.dones.length := (by first | assumption | omega)
            refine J_st (R_index (i := k) sl56 rfl rfl (hd9.rd.ext E) hi3) rfl (J_st (R_loadS st97 rfl ((hd9.rd.ext E).get hi3) rfl) rfl ?_)
            refine J_alloc st97 rfl (fun b4 w17 e10 s4 h4 => ?_)
            have g_b4 : w.heap.size ≤ b4 := by have := E.size; omega
            have y_b4 := h4.lt
            replace E := E.trans e10; replace h1 := h1.ext e10; replace h2 := h2.ext e10
            have z15 := e10.size
            refine J_st (R_assign rfl) rfl ?_
            refine J_storeS' (cs' := [.int .i64 ((x.dones[k]'hi3).epoch), .bool ((x.dones[k]'hi3).capped)]) st97 rfl rfl rfl rfl h4 (Nat.le_of_ble_eq_true rfl) rfl (fun w18 m2 h4' => ?_)
            replace h4 := h4'
            replace E := E.step m2 (fun g hg => by cases hg; omega); replace h1 := h1.mod m2 (fun g hg => by cases hg; omega); replace h2 := h2.mod m2 (fun g hg => by cases hg; omega)
            have z16 := m2.size
            refine J_done ?_
            refine S_seq ?_
            refine S_regD mixed [(0, true), (1, true), (2, false), (3, true), (4, true), (5, true), (6, true), (7, true), (8, true), (9, true), (10, true), (11, false), (12, true)] (by decide +kernel) rfl (fun w19 e11 => ?_)
            replace E := E.trans e11; replace h1 := h1.ext e11; replace h2 := h2.ext e11; replace h4 := h4.ext e11
            have z17 := e11.size
            refine J_st (R_fieldAddr0 fl97_0 rfl) rfl (J_st (R_load sc3 rfl (h4.one 0 rfl)) rfl ?_)
            refine J_call Try.call28 rfl (c_within ((x.dones[k]'hi3).epoch) 0 3 _ ) rfl (fun _ w20 e12 hv => ?_)
            subst hv
            replace E := E.trans e12; replace h1 := h1.ext e12; replace h2 := h2.ext e12; replace h4 := h4.ext e12
            have z18 := e12.size
            refine J_st (R_not rfl) rfl (J_st (R_move rfl) rfl ?_)
            refine J_cut 8 [(3, .pointer (some ⟨b2, 0, none⟩)), (4, .bool false), (9, .int .i64 ((k : Nat) : Int)), (10, .pointer (some ⟨b4, 0, none⟩)), (100, o9), (101, .int .i64 ((x.dones.length : Nat) : Int)), (102, .int .i64 ((k : Nat) : Int)), (103, .bool (decide (((k : Nat) : Int) < ((x.dones.length : Nat) : Int)))), (104, .int .i64 ((k : Nat) : Int)), (105, .pointer (some ⟨sblk o9, soff o9 + k * 2, none⟩)), (106, .agg (Enc.enc (x.dones[k]'hi3)).toArray), (119, .bool ((!(win ((x.dones[k]'hi3).epoch) 0 3)) || ((List.take k x.dones).any (fun d => d.epoch == ((x.dones[k]'hi3).epoch)))))] (fun w' => Ext w w' ∧ w20.heap.size ≤ w'.heap.size ∧ Blk w' b1 ([o1, .int .i64 g.workers, .int .i64 g.cap]) ∧ Blk w' b2 ([o2, o3, o4, o5, o6, o7, o8, o9]) ∧ Blk w' b4 [.int .i64 ((x.dones[k]'hi3).epoch), .bool ((x.dones[k]'hi3).capped)]) ?_ ?_
            · refine J_if (gd := 111) rfl rfl (fun hg9 => ?_) (fun hg9 => ?_)
              · refine J_gdno rfl rfl rfl rfl (J_gdno rfl rfl rfl rfl (J_gdno rfl rfl rfl rfl (J_gdno rfl rfl rfl rfl (J_gdno rfl rfl rfl rfl (J_gdno rfl rfl rfl rfl ?_)))))
                refine J_ungno rfl rfl rfl rfl ?_
                refine J_st (R_pickT rfl rfl) rfl (J_cutEnd ⟨rfl, rfl, rfl, rfl, rfl, rfl, rfl, rfl, rfl, rfl, rfl, congrArg (fun b => some (Value.bool b)) (show true = ((!(win ((x.dones[k]'hi3).epoch) 0 3)) || ((List.take k x.dones).any (fun d => d.epoch == ((x.dones[k]'hi3).epoch)))) by first | (rw [hg9] <;> rfl) | (simp [hg9]; done) | (simp only [nat_nlt] <;> simp)), trivial⟩ ⟨E, (by omega), h1, h2, h4⟩)
              · refine J_gd rfl rfl (R_fieldAddr0 fl58_7 rfl) rfl (J_gd rfl rfl (R_load sc56 rfl (h2.one 7 rfl)) rfl (J_gd rfl rfl (R_move rfl) rfl ?_))
                have hk1 : k ≤ x.dones.length := by first | assumption | omega
                have hs1 : RdD (α := Done) w 0 w.heap.size (slTo o9 k) (List.take k x.dones) := RdB.slTo hd9 hk1
                refine J_gd rfl rfl (R_sliceTo sl56 rfl rfl (RdL.room (hd9.ext E).1) hk1) rfl (J_gd rfl rfl (R_fieldAddr0 fl97_0 rfl) rfl (J_gd rfl rfl (R_load sc3 rfl (h4.one 0 rfl)) rfl ?_))
                refine J_ung rfl rfl ?_
                refine J_call Try.call47 rfl (c_doneAt (slTo o9 k) (List.take k x.dones) ((x.dones[k]'hi3).epoch) _ (hs1.rd.ext E)) rfl (fun _ w22 e13 hv => ?_)
                subst hv
                replace E := E.trans e13; replace h1 := h1.ext e13; replace h2 := h2.ext e13; replace h4 := h4.ext e13
                have z19 := e13.size
                refine J_st (R_pickF rfl rfl) rfl (J_cutEnd ⟨rfl, rfl, rfl, rfl, rfl, rfl, rfl, rfl, rfl, rfl, rfl, congrArg (fun b => some (Value.bool b)) (show ((List.take k x.dones).any (fun d => d.epoch == ((x.dones[k]'hi3).epoch))) = ((!(win ((x.dones[k]'hi3).epoch) 0 3)) || ((List.take k x.dones).any (fun d => d.epoch == ((x.dones[k]'hi3).epoch)))) by first | (rw [hg9] <;> rfl) | (simp [hg9]; done) | (simp only [nat_nlt] <;> simp)), trivial⟩ ⟨E, (by omega), h1, h2, h4⟩)
            clear E h1 h2 h4
            rintro w21 ⟨E, z20, h1, h2, h4⟩
            refine J_done ?_
            refine S_cond rfl (fun hc8 => ?_) (fun hc8 => ?_)
            · refine S_seq ?_
              refine S_reg [true] rfl rfl ?_
              refine J_st (R_assign rfl) rfl (J_done ?_)
              refine S_ret (E_inB_ret (E_lp_ret (E_inB_ret (E_done1 rfl rfl E ?_))))
              exact bf fun h => by simp only [workerOk, Bool.and_eq_true] at h; obtain ⟨⟨⟨⟨⟨⟨⟨⟨⟨q1, q2⟩, q3⟩, q4⟩, q5⟩, q6⟩, q7⟩, q8⟩, q9⟩, q10⟩ := h; have := allR_get q10 (by assumption); rw [doneAtOk_at (by assumption), hc8] at this; cases this
            · refine S_skip ?_
              refine S_nil (E_inB ?_)
              refine S_reg [true, true] rfl rfl ?_
              refine J_st (R_add rfl rfl (add_one hc7n (hd9.ext E).1.1)) rfl (J_st (R_move rfl) rfl (J_done ?_))
              refine S_nil (E_again (k + 1) (by omega) ⟨rfl, rfl, rfl, rfl, rfl, trivial⟩ ⟨E, (by omega), h1, h2, (by omega), allR_s hI3 ((doneAtOk_at (by assumption)).trans (congrArg not hc8))⟩)
          · have hc7n : ¬ k < x.dones.length := by first | (have h := of_decide_eq_false hc7; omega) | (have h := hc7; simp at h; omega)
            refine S_exit (E_lp_exit (E_inB_exit ?_))
            refine S_seq ?_
            refine S_reg [true] rfl rfl ?_
            refine J_st (R_assign rfl) rfl (J_done ?_)
            refine S_ret (E_done1 rfl rfl E ?_)
            exact wk_yes1 hc1 (allR_le hI1 (by omega)) hc4 (all_end hI2 (by omega)) (allR_le hI3 (by omega))

set_option maxHeartbeats 4000000 in
set_option maxRecDepth 20000 in
theorem s_WorkerOk (cg : List Value) (g : Graph) (cx : List Value) (x : Worker) (w : World) (hg : Dat.R w 0 w.heap.size cg g) (hx : Dat.R w 0 w.heap.size cx x) : Ct Try.prog 15 [.agg cg.toArray, .agg cx.toArray] w (fun v _ => v = .bool (workerOk g x)) := by
  refine ct_of Try.func15 rfl Try.ntmps15 rfl ?_
  obtain ⟨o1, rfl, hd1⟩ := Graph.op hg
  obtain ⟨o2, o3, o4, o5, o6, o7, o8, o9, rfl, hd2, hd3, hd4, hd5, hd6, hd7, hd8, hd9⟩ := Worker.op hx
  refine S_sub [(0, .agg [o1, .int .i64 g.workers, .int .i64 g.cap].toArray), (1, .agg [o2, o3, o4, o5, o6, o7, o8, o9].toArray)] ⟨rfl, rfl, trivial⟩ ?_
  have E : Ext w w := Ext.refl w
  refine S_seq ?_
  refine S_reg [false, false, true] rfl rfl ?_
  refine J_box rfl rfl (fun b1 w1 e1 s1 h1 => ?_)
  have g_b1 : w.heap.size ≤ b1 := by have := E.size; omega
  have y_b1 := h1.lt
  replace E := E.trans e1
  have z1 := e1.size
  refine J_box rfl rfl (fun b2 w2 e2 s2 h2 => ?_)
  have g_b2 : w.heap.size ≤ b2 := by have := E.size; omega
  have y_b2 := h2.lt
  replace E := E.trans e2; replace h1 := h1.ext e2
  have z2 := e2.size
  refine J_st (R_assign rfl) rfl (J_done ?_)
  refine S_seq ?_
  refine S_reg [true] rfl rfl ?_
  refine J_st (R_assign rfl) rfl (J_done ?_)
  refine S_seq ?_
  refine S_seq ?_
  refine S_reg [true, true, true, false, true, true, true, true, true, false, true, true, true, true, true, true, false, true, true, true, true, true, false, true, true, true, true, true, true, true, true, true, true, true, true, true, true, true, true, true, true, true, true, true, true, true] rfl rfl ?_
  refine J_st (R_loadS st35 rfl h1.at rfl) rfl (J_st (R_fieldAddr0 fl58_0 rfl) rfl (J_st (R_load sc52 rfl (h2.one 0 rfl)) rfl ?_))
  refine J_call Try.call17 rfl (s_l12Records [o1, .int .i64 g.workers, .int .i64 g.cap] g o2 x.queue _ (Graph.mkR g (RdD.any (hd1.ext E))) (hd2.rd.ext E)) rfl (fun _ w3 e3 hv => ?_)
  subst hv
  replace E := E.trans e3; replace h1 := h1.ext e3; replace h2 := h2.ext e3
  have z3 := e3.size
  refine J_st (R_not rfl) rfl (J_st (R_move rfl) rfl ?_)
  refine J_cut 40 [(0, .agg [o1, .int .i64 g.workers, .int .i64 g.cap].toArray), (1, .agg [o2, o3, o4, o5, o6, o7, o8, o9].toArray), (2, .pointer (some ⟨b1, 0, none⟩)), (3, .pointer (some ⟨b2, 0, none⟩)), (4, .bool false), (5, .int .i64 4), (55, .bool (((((((!(x.queue.all (opOk g))) || (!(x.staged.all (opOk g)))) || (!(x.inputs.all (opOk g)))) || (!((adj x.cells).all cellLt))) || (((x.sums.length : Nat) : Int) != 4)) || (((x.black.length : Nat) : Int) != 4)) || (((x.caps.length : Nat) : Int) != 4)))] (fun w' => Ext w w' ∧ w3.heap.size ≤ w'.heap.size ∧ Blk w' b1 ([o1, .int .i64 g.workers, .int .i64 g.cap]) ∧ Blk w' b2 ([o2, o3, o4, o5, o6, o7, o8, o9])) ?_ ?_
  · refine J_if (gd := 15) rfl rfl (fun hg1 => ?_) (fun hg1 => ?_)
    · refine J_gdno rfl rfl rfl rfl (J_gdno rfl rfl rfl rfl (J_gdno rfl rfl rfl rfl ?_))
      refine J_ungno rfl rfl rfl rfl ?_
      refine J_gdno rfl rfl rfl rfl (J_st (R_pickT rfl rfl) rfl (J_st (R_move rfl) rfl (J_gdno rfl rfl rfl rfl (J_gdno rfl rfl rfl rfl (J_gdno rfl rfl rfl rfl ?_)))))
      refine J_ungno rfl rfl rfl rfl ?_
      refine J_gdno rfl rfl rfl rfl (J_st (R_pickT rfl rfl) rfl (J_st (R_move rfl) rfl (J_gdno rfl rfl rfl rfl (J_gdno rfl rfl rfl rfl ?_))))
      refine J_ungno rfl rfl rfl rfl ?_
      refine J_gdno rfl rfl rfl rfl (J_st (R_pickT rfl rfl) rfl (J_st (R_move rfl) rfl (J_gdno rfl rfl rfl rfl (J_gdno rfl rfl rfl rfl (J_gdno rfl rfl rfl rfl (J_gdno rfl rfl rfl rfl (J_gdno rfl rfl rfl rfl (J_st (R_pickT rfl rfl) rfl (J_st (R_move rfl) rfl (J_gdno rfl rfl rfl rfl (J_gdno rfl rfl rfl rfl (J_gdno rfl rfl rfl rfl (J_gdno rfl rfl rfl rfl (J_gdno rfl rfl rfl rfl (J_st (R_pickT rfl rfl) rfl (J_st (R_move rfl) rfl (J_gdno rfl rfl rfl rfl (J_gdno rfl rfl rfl rfl (J_gdno rfl rfl rfl rfl (J_gdno rfl rfl rfl rfl (J_gdno rfl rfl rfl rfl (J_st (R_pickT rfl rfl) rfl (J_cutEnd ⟨rfl, rfl, rfl, rfl, rfl, rfl, congrArg (fun b => some (Value.bool b)) (show true = (((((((!(x.queue.all (opOk g))) || (!(x.staged.all (opOk g)))) || (!(x.inputs.all (opOk g)))) || (!((adj x.cells).all cellLt))) || (((x.sums.length : Nat) : Int) != 4)) || (((x.black.length : Nat) : Int) != 4)) || (((x.caps.length : Nat) : Int) != 4)) by first | (rw [hg1] <;> rfl) | (simp [hg1]; done) | (simp only [nat_nlt] <;> simp)), trivial⟩ ⟨E, (by omega), h1, h2⟩)))))))))))))))))))))))
    · refine J_gd rfl rfl (R_loadS st35 rfl h1.at rfl) rfl (J_gd rfl rfl (R_fieldAddr0 fl58_1 rfl) rfl (J_gd rfl rfl (R_load sc52 rfl (h2.one 1 rfl)) rfl ?_))
      refine J_ung rfl rfl ?_
      refine J_call Try.call17 rfl (s_l12Records [o1, .int .i64 g.workers, .int .i64 g.cap] g o3 x.staged _ (Graph.mkR g (RdD.any (hd1.ext E))) (hd3.rd.ext E)) rfl (fun _ w5 e4 hv => ?_)
      subst hv
      replace E := E.trans e4; replace h1 := h1.ext e4; replace h2 := h2.ext e4
      have z4 := e4.size
      refine J_gd rfl rfl (R_not rfl) rfl (J_st (R_pickF rfl rfl) rfl (J_st (R_move rfl) rfl ?_))
      refine J_if (gd := 22) rfl rfl (fun hg2 => ?_) (fun hg2 => ?_)
      · refine J_gdno rfl rfl rfl rfl (J_gdno rfl rfl rfl rfl (J_gdno rfl rfl rfl rfl ?_))
        refine J_ungno rfl rfl rfl rfl ?_
        refine J_gdno rfl rfl rfl rfl (J_st (R_pickT rfl rfl) rfl (J_st (R_move rfl) rfl (J_gdno rfl rfl rfl rfl (J_gdno rfl rfl rfl rfl ?_))))
        refine J_ungno rfl rfl rfl rfl ?_
        refine J_gdno rfl rfl rfl rfl (J_st (R_pickT rfl rfl) rfl (J_st (R_move rfl) rfl (J_gdno rfl rfl rfl rfl (J_gdno rfl rfl rfl rfl (J_gdno rfl rfl rfl rfl (J_gdno rfl rfl rfl rfl (J_gdno rfl rfl rfl rfl (J_st (R_pickT rfl rfl) rfl (J_st (R_move rfl) rfl (J_gdno rfl rfl rfl rfl (J_gdno rfl rfl rfl rfl (J_gdno rfl rfl rfl rfl (J_gdno rfl rfl rfl rfl (J_gdno rfl rfl rfl rfl (J_st (R_pickT rfl rfl) rfl (J_st (R_move rfl) rfl (J_gdno rfl rfl rfl rfl (J_gdno rfl rfl rfl rfl (J_gdno rfl rfl rfl rfl (J_gdno rfl rfl rfl rfl (J_gdno rfl rfl rfl rfl (J_st (R_pickT rfl rfl) rfl (J_cutEnd ⟨rfl, rfl, rfl, rfl, rfl, rfl, congrArg (fun b => some (Value.bool b)) (show true = (((((((!(x.queue.all (opOk g))) || (!(x.staged.all (opOk g)))) || (!(x.inputs.all (opOk g)))) || (!((adj x.cells).all cellLt))) || (((x.sums.length : Nat) : Int) != 4)) || (((x.black.length : Nat) : Int) != 4)) || (((x.caps.length : Nat) : Int) != 4)) by first | (rw [hg1, hg2] <;> rfl) | (simp [hg1, hg2]; done) | (simp only [nat_nlt] <;> simp)), trivial⟩ ⟨E, (by omega), h1, h2⟩)))))))))))))))))))))))
      · refine J_gd rfl rfl (R_loadS st35 rfl h1.at rfl) rfl (J_gd rfl rfl (R_fieldAddr0 fl58_2 rfl) rfl (J_gd rfl rfl (R_load sc52 rfl (h2.one 2 rfl)) rfl ?_))
        refine J_ung rfl rfl ?_
        refine J_call Try.call17 rfl (s_l12Records [o1, .int .i64 g.workers, .int .i64 g.cap] g o4 x.inputs _ (Graph.mkR g (RdD.any (hd1.ext E))) (hd4.rd.ext E)) rfl (fun _ w6 e5 hv => ?_)
        subst hv
        replace E := E.trans e5; replace h1 := h1.ext e5; replace h2 := h2.ext e5
        have z5 := e5.size
        refine J_gd rfl rfl (R_not rfl) rfl (J_st (R_pickF rfl rfl) rfl (J_st (R_move rfl) rfl ?_))
        refine J_if (gd := 29) rfl rfl (fun hg3 => ?_) (fun hg3 => ?_)
        · refine J_gdno rfl rfl rfl rfl (J_gdno rfl rfl rfl rfl ?_)
          refine J_ungno rfl rfl rfl rfl ?_
          refine J_gdno rfl rfl rfl rfl (J_st (R_pickT rfl rfl) rfl (J_st (R_move rfl) rfl (J_gdno rfl rfl rfl rfl (J_gdno rfl rfl rfl rfl (J_gdno rfl rfl rfl rfl (J_gdno rfl rfl rfl rfl (J_gdno rfl rfl rfl rfl (J_st (R_pickT rfl rfl) rfl (J_st (R_move rfl) rfl (J_gdno rfl rfl rfl rfl (J_gdno rfl rfl rfl rfl (J_gdno rfl rfl rfl rfl (J_gdno rfl rfl rfl rfl (J_gdno rfl rfl rfl rfl (J_st (R_pickT rfl rfl) rfl (J_st (R_move rfl) rfl (J_gdno rfl rfl rfl rfl (J_gdno rfl rfl rfl rfl (J_gdno rfl rfl rfl rfl (J_gdno rfl rfl rfl rfl (J_gdno rfl rfl rfl rfl (J_st (R_pickT rfl rfl) rfl (J_cutEnd ⟨rfl, rfl, rfl, rfl, rfl, rfl, congrArg (fun b => some (Value.bool b)) (show true = (((((((!(x.queue.all (opOk g))) || (!(x.staged.all (opOk g)))) || (!(x.inputs.all (opOk g)))) || (!((adj x.cells).all cellLt))) || (((x.sums.length : Nat) : Int) != 4)) || (((x.black.length : Nat) : Int) != 4)) || (((x.caps.length : Nat) : Int) != 4)) by first | (rw [hg1, hg2, hg3] <;> rfl) | (simp [hg1, hg2, hg3]; done) | (simp only [nat_nlt] <;> simp)), trivial⟩ ⟨E, (by omega), h1, h2⟩)))))))))))))))))))))))
        · refine J_gd rfl rfl (R_fieldAddr0 fl58_3 rfl) rfl (J_gd rfl rfl (R_load sc53 rfl (h2.one 3 rfl)) rfl ?_)
          refine J_ung rfl rfl ?_
          refine J_call Try.call38 rfl (s_CellsOk o5 x.cells _ (hd5.rd.ext E)) rfl (fun _ w7 e6 hv => ?_)
          subst hv
          replace E := E.trans e6; replace h1 := h1.ext e6; replace h2 := h2.ext e6
          have z6 := e6.size
          refine J_gd rfl rfl (R_not rfl) rfl (J_st (R_pickF rfl rfl) rfl (J_st (R_move rfl) rfl ?_))
          refine J_if (gd := 35) rfl rfl (fun hg4 => ?_) (fun hg4 => ?_)
          · refine J_gdno rfl rfl rfl rfl (J_gdno rfl rfl rfl rfl (J_gdno rfl rfl rfl rfl (J_gdno rfl rfl rfl rfl (J_gdno rfl rfl rfl rfl (J_st (R_pickT rfl rfl) rfl (J_st (R_move rfl) rfl (J_gdno rfl rfl rfl rfl (J_gdno rfl rfl rfl rfl (J_gdno rfl rfl rfl rfl (J_gdno rfl rfl rfl rfl (J_gdno rfl rfl rfl rfl (J_st (R_pickT rfl rfl) rfl (J_st (R_move rfl) rfl (J_gdno rfl rfl rfl rfl (J_gdno rfl rfl rfl rfl (J_gdno rfl rfl rfl rfl (J_gdno rfl rfl rfl rfl (J_gdno rfl rfl rfl rfl (J_st (R_pickT rfl rfl) rfl (J_cutEnd ⟨rfl, rfl, rfl, rfl, rfl, rfl, congrArg (fun b => some (Value.bool b)) (show true = (((((((!(x.queue.all (opOk g))) || (!(x.staged.all (opOk g)))) || (!(x.inputs.all (opOk g)))) || (!((adj x.cells).all cellLt))) || (((x.sums.length : Nat) : Int) != 4)) || (((x.black.length : Nat) : Int) != 4)) || (((x.caps.length : Nat) : Int) != 4)) by first | (rw [hg1, hg2, hg3, hg4] <;> rfl) | (simp [hg1, hg2, hg3, hg4]; done) | (simp only [nat_nlt] <;> simp)), trivial⟩ ⟨E, (by omega), h1, h2⟩))))))))))))))))))))
          · refine J_gd rfl rfl (R_fieldAddr0 fl58_4 rfl) rfl (J_gd rfl rfl (R_load sc54 rfl (h2.one 4 rfl)) rfl (J_gd rfl rfl (R_len Try.underlying54 rfl (hd6.ext E).len) rfl (J_gd rfl rfl (R_move rfl) rfl (J_gd rfl rfl (R_neq rfl rfl) rfl (J_st (R_pickF rfl rfl) rfl (J_st (R_move rfl) rfl ?_))))))
            refine J_if (gd := 42) rfl rfl (fun hg5 => ?_) (fun hg5 => ?_)
            · have hg5n : ¬ x.sums.length = 4 := by first | (have h := of_decide_eq_true hg5; omega) | (have h := hg5; simp at h; omega)
              refine J_gdno rfl rfl rfl rfl (J_gdno rfl rfl rfl rfl (J_gdno rfl rfl rfl rfl (J_gdno rfl rfl rfl rfl (J_gdno rfl rfl rfl rfl (J_st (R_pickT rfl rfl) rfl (J_st (R_move rfl) rfl (J_gdno rfl rfl rfl rfl (J_gdno rfl rfl rfl rfl (J_gdno rfl rfl rfl rfl (J_gdno rfl rfl rfl rfl (J_gdno rfl rfl rfl rfl (J_st (R_pickT rfl rfl) rfl (J_cutEnd ⟨rfl, rfl, rfl, rfl, rfl, rfl, congrArg (fun b => some (Value.bool b)) (show true = (((((((!(x.queue.all (opOk g))) || (!(x.staged.all (opOk g)))) || (!(x.inputs.all (opOk g)))) || (!((adj x.cells).all cellLt))) || (((x.sums.length : Nat) : Int) != 4)) || (((x.black.length : Nat) : Int) != 4)) || (((x.caps.length : Nat) : Int) != 4)) by first | (rw [hg1, hg2, hg3, hg4, hg5] <;> rfl) | (simp [hg1, hg2, hg3, hg4, hg5]; done) | (simp only [nat_nlt] <;> simp)), trivial⟩ ⟨E, (by omega), h1, h2⟩)))))))))))))
            · have hg5n : x.sums.length = 4 := by first | (have h := of_decide_eq_false hg5; omega) | (have h := hg5; simp at h; omega)
              refine J_gd rfl rfl (R_fieldAddr0 fl58_5 rfl) rfl (J_gd rfl rfl (R_load sc55 rfl (h2.one 5 rfl)) rfl (J_gd rfl rfl (R_len Try.underlying55 rfl (hd7.ext E).len) rfl (J_gd rfl rfl (R_move rfl) rfl (J_gd rfl rfl (R_neq rfl rfl) rfl (J_st (R_pickF rfl rfl) rfl (J_st (R_move rfl) rfl ?_))))))
              refine J_if (gd := 49) rfl rfl (fun hg6 => ?_) (fun hg6 => ?_)
              · have hg6n : ¬ x.black.length = 4 := by first | (have h := of_decide_eq_true hg6; omega) | (have h := hg6; simp at h; omega)
                refine J_gdno rfl rfl rfl rfl (J_gdno rfl rfl rfl rfl (J_gdno rfl rfl rfl rfl (J_gdno rfl rfl rfl rfl (J_gdno rfl rfl rfl rfl (J_st (R_pickT rfl rfl) rfl (J_cutEnd ⟨rfl, rfl, rfl, rfl, rfl, rfl, congrArg (fun b => some (Value.bool b)) (show true = (((((((!(x.queue.all (opOk g))) || (!(x.staged.all (opOk g)))) || (!(x.inputs.all (opOk g)))) || (!((adj x.cells).all cellLt))) || (((x.sums.length : Nat) : Int) != 4)) || (((x.black.length : Nat) : Int) != 4)) || (((x.caps.length : Nat) : Int) != 4)) by first | (rw [hg1, hg2, hg3, hg4, hg5, hg6] <;> rfl) | (simp [hg1, hg2, hg3, hg4, hg5, hg6]; done) | (simp only [nat_nlt] <;> simp)), trivial⟩ ⟨E, (by omega), h1, h2⟩))))))
              · have hg6n : x.black.length = 4 := by first | (have h := of_decide_eq_false hg6; omega) | (have h := hg6; simp at h; omega)
                refine J_gd rfl rfl (R_fieldAddr0 fl58_6 rfl) rfl (J_gd rfl rfl (R_load sc55 rfl (h2.one 6 rfl)) rfl (J_gd rfl rfl (R_len Try.underlying55 rfl (hd8.ext E).len) rfl (J_gd rfl rfl (R_move rfl) rfl (J_gd rfl rfl (R_neq rfl rfl) rfl (J_st (R_pickF rfl rfl) rfl (J_cutEnd ⟨rfl, rfl, rfl, rfl, rfl, rfl, congrArg (fun b => some (Value.bool b)) (show (((x.caps.length : Nat) : Int) != 4) = (((((((!(x.queue.all (opOk g))) || (!(x.staged.all (opOk g)))) || (!(x.inputs.all (opOk g)))) || (!((adj x.cells).all cellLt))) || (((x.sums.length : Nat) : Int) != 4)) || (((x.black.length : Nat) : Int) != 4)) || (((x.caps.length : Nat) : Int) != 4)) by first | (rw [hg1, hg2, hg3, hg4, hg5, hg6] <;> rfl) | (simp [hg1, hg2, hg3, hg4, hg5, hg6]; done) | (simp only [nat_nlt] <;> simp)), trivial⟩ ⟨E, (by omega), h1, h2⟩))))))
  clear E h1 h2
  rintro w4 ⟨E, z7, h1, h2⟩
  refine J_done ?_
  refine S_cond rfl (fun hc1 => ?_) (fun hc1 => ?_)
  · refine S_seq ?_
    refine S_reg [true] rfl rfl ?_
    refine J_st (R_assign rfl) rfl (J_done ?_)
    refine S_ret (E_done1 rfl rfl E ?_)
    exact bf fun h => by simp only [workerOk, Bool.and_eq_true] at h; obtain ⟨⟨⟨⟨⟨⟨⟨⟨⟨q1, q2⟩, q3⟩, q4⟩, q5⟩, q6⟩, q7⟩, q8⟩, q9⟩, q10⟩ := h; simp only [beq_iff_eq] at q6 q7 q8; simp only [q1, q2, q3, q4, q6, q7, q8] at hc1; simp at hc1
  · refine S_skip ?_
    refine S_seq ?_
    refine S_seq ?_
    refine S_reg [true] rfl rfl ?_
    refine J_st (R_assign rfl) rfl (J_done ?_)
    refine S_block ?_
    refine S_loop (fun (k : Nat) => [(3, .pointer (some ⟨b2, 0, none⟩)), (4, .bool false), (5, .int .i64 4), (6, .int .i64 ((k : Nat) : Int))]) (fun (k : Nat) w' => Ext w w' ∧ w4.heap.size ≤ w'.heap.size ∧ Blk w' b1 ([o1, .int .i64 g.workers, .int .i64 g.cap]) ∧ Blk w' b2 ([o2, o3, o4, o5, o6, o7, o8, o9]) ∧ k ≤ x.inputs.length ∧ allR k (fun j => inAt x.inputs j) = true) (fun (k : Nat) => x.inputs.length - k) 0 ⟨rfl, rfl, rfl, rfl, trivial⟩ ⟨E, Nat.le_refl _, h1, h2, Nat.zero_le _, rfl⟩ ?_
    clear E h1 h2
    rintro k w8 ⟨E, z8, h1, h2, hk, hI1⟩
    have hmi := hd4.1.1
    unfold maxLen at hmi
    refine S_seq ?_
    refine S_seq ?_
    refine S_reg [true, true, true, true, true] rfl rfl ?_
    refine J_st (R_move rfl) rfl (J_st (R_fieldAddr0 fl58_2 rfl) rfl (J_st (R_load sc52 rfl (h2.one 2 rfl)) rfl (J_st (R_len Try.underlying52 rfl (hd4.ext E).len) rfl (J_st (R_lss rfl rfl) rfl (J_done ?_)))))
    refine S_cond rfl (fun hc2 => ?_) (fun hc2 => ?_)
    · have hc2n : k < x.inputs.length := by first | (have h := of_decide_eq_true hc2; omega) | (have h := hc2; simp at h; omega)
      refine S_skip ?_
      refine S_seq ?_
      refine S_block ?_
      refine S_seq ?_
      refine S_regD mixed [(0, true), (1, true), (2, true), (3, true), (4, true), (5, true), (6, true), (7, true), (8, true), (9, true), (10, true), (11, true), (12, true), (13, true), (14, true), (15, true), (16, true), (17, true), (18, true), (19, true), (20, true), (21, true), (22, true), (23, true), (24, true), (25, true), (26, true), (27, true), (28, true), (29, true), (30, true), (31, true), (32, true), (33, true), (34, true), (35, true), (36, true), (37, true), (38, true)] (by decide +kernel) rfl (fun w9 e7 => ?_)
      replace E := E.trans e7; replace h1 := h1.ext e7; replace h2 := h2.ext e7
      have z9 := e7.size
      refine J_st (R_fieldAddr0 fl58_2 rfl) rfl (J_st (R_load sc52 rfl (h2.one 2 rfl)) rfl (J_st (R_move rfl) rfl ?_))
      have hi1 : k < x.inputs.length := (by first | assumption | omega)
      refine J_st (R_index (i := k) sl52 rfl rfl (hd4.rd.ext E) hi1) rfl (J_st (R_fieldAddr fl95_0 rfl) rfl (J_st (R_load sc3 rfl (((hd4.rd.ext E).get hi1).one 0 rfl)) rfl (J_st (R_neq rfl rfl) rfl (J_st (R_move rfl) rfl ?_))))
      refine J_cut 31 [(3, .pointer (some ⟨b2, 0, none⟩)), (4, .bool false), (5, .int .i64 4), (6, .int .i64 ((k : Nat) : Int)), (56, .int .i64 ((k : Nat) : Int)), (57, .pointer (some ⟨b2, 2, none⟩)), (58, o4), (59, .int .i64 ((x.inputs.length : Nat) : Int)), (60, .bool (decide (((k : Nat) : Int) < ((x.inputs.length : Nat) : Int)))), (101, .bool (((((x.inputs[k]'hi1).op) != 0) || ((((x.inputs[k]'hi1).stamp).turn) != 0)) || ((decide (0 < ((k : Nat) : Int))) && (decide ((((x.inputs[k]'hi1).stamp).epoch) < (((List.getD x.inputs (k - 1) default).stamp).epoch))))))] (fun w' => w9 = w') ?_ ?_
      · refine J_if (gd := 70) rfl rfl (fun hg7 => ?_) (fun hg7 => ?_)
        · refine J_gdno rfl rfl rfl rfl (J_gdno rfl rfl rfl rfl (J_gdno rfl rfl rfl rfl (J_gdno rfl rfl rfl rfl (J_gdno rfl rfl rfl rfl (J_gdno rfl rfl rfl rfl (J_gdno rfl rfl rfl rfl (J_gdno rfl rfl rfl rfl (J_st (R_pickT rfl rfl) rfl (J_st (R_move rfl) rfl (J_gdno rfl rfl rfl rfl (J_gdno rfl rfl rfl rfl (J_gdno rfl rfl rfl rfl (J_gdx rfl rfl rfl (J_gdx rfl rfl rfl (J_gdx rfl rfl rfl (J_gdx rfl rfl rfl (J_gdx rfl rfl rfl (J_gdx rfl rfl rfl (J_gdx rfl rfl rfl (J_gdx rfl rfl rfl (J_gdx rfl rfl rfl (J_gdx rfl rfl rfl (J_gdx rfl rfl rfl (J_gdx rfl rfl rfl (J_gdx rfl rfl rfl (J_gdx rfl rfl rfl (J_gdx rfl rfl rfl (J_gdx rfl rfl rfl (J_gdno rfl rfl rfl rfl (J_st (R_pickT rfl rfl) rfl (J_cutEnd ⟨rfl, rfl, rfl, rfl, rfl, rfl, rfl, rfl, rfl, congrArg (fun b => some (Value.bool b)) (show true = (((((x.inputs[k]'hi1).op) != 0) || ((((x.inputs[k]'hi1).stamp).turn) != 0)) || ((decide (0 < ((k : Nat) : Int))) && (decide ((((x.inputs[k]'hi1).stamp).epoch) < (((List.getD x.inputs (k - 1) default).stamp).epoch))))) by first | (rw [hg7] <;> rfl) | (simp [hg7]; done) | (simp only [nat_nlt] <;> simp)), trivial⟩ rfl)))))))))))))))))))))))))))))))
        · refine J_gd rfl rfl (R_fieldAddr0 fl58_2 rfl) rfl (J_gd rfl rfl (R_load sc52 rfl (h2.one 2 rfl)) rfl (J_gd rfl rfl (R_move rfl) rfl (J_gd rfl rfl (R_index (i := k) sl52 rfl rfl (hd4.rd.ext E) hi1) rfl (J_gd rfl rfl (R_fieldAddr fl95_1 rfl) rfl (J_gd rfl rfl (R_fieldAddr fl93_1 rfl) rfl (J_gd rfl rfl (R_load sc3 rfl (((hd4.rd.ext E).get hi1).one 2 rfl)) rfl (J_gd rfl rfl (R_neq rfl rfl) rfl (J_st (R_pickF rfl rfl) rfl (J_st (R_move rfl) rfl ?_)))))))))
          refine J_if (gd := 80) rfl rfl (fun hg8 => ?_) (fun hg8 => ?_)
          · refine J_gdno rfl rfl rfl rfl (J_gdno rfl rfl rfl rfl (J_gdno rfl rfl rfl rfl (J_gdx rfl rfl rfl (J_gdx rfl rfl rfl (J_gdx rfl rfl rfl (J_gdx rfl rfl rfl (J_gdx rfl rfl rfl (J_gdx rfl rfl rfl (J_gdx rfl rfl rfl (J_gdx rfl rfl rfl (J_gdx rfl rfl rfl (J_gdx rfl rfl rfl (J_gdx rfl rfl rfl (J_gdx rfl rfl rfl (J_gdx rfl rfl rfl (J_gdx rfl rfl rfl (J_gdx rfl rfl rfl (J_gdx rfl rfl rfl (J_gdno rfl rfl rfl rfl (J_st (R_pickT rfl rfl) rfl (J_cutEnd ⟨rfl, rfl, rfl, rfl, rfl, rfl, rfl, rfl, rfl, congrArg (fun b => some (Value.bool b)) (show true = (((((x.inputs[k]'hi1).op) != 0) || ((((x.inputs[k]'hi1).stamp).turn) != 0)) || ((decide (0 < ((k : Nat) : Int))) && (decide ((((x.inputs[k]'hi1).stamp).epoch) < (((List.getD x.inputs (k - 1) default).stamp).epoch))))) by first | (rw [hg7, hg8] <;> rfl) | (simp [hg7, hg8]; done) | (simp only [nat_nlt] <;> simp)), trivial⟩ rfl)))))))))))))))))))))
          · refine J_gd rfl rfl (R_move rfl) rfl (J_gd rfl rfl (R_gtr rfl rfl) rfl (J_gd rfl rfl (R_move rfl) rfl ?_))
            refine J_if (gd := 83) rfl rfl (fun hg9 => ?_) (fun hg9 => ?_)
            · have hg9n : k > 0 := by first | (have h := of_decide_eq_true hg9; omega) | (have h := hg9; simp at h; omega)
              refine J_gd rfl rfl (R_fieldAddr0 fl58_2 rfl) rfl (J_gd rfl rfl (R_load sc52 rfl (h2.one 2 rfl)) rfl (J_gd rfl rfl (R_move rfl) rfl (J_gd rfl rfl (R_sub rfl rfl (sub_nat (by omega) (by unfold maxLen; omega))) rfl (J_gd rfl rfl (R_index (i := (k - 1)) sl52 rfl rfl (hd4.rd.ext E) (by first | assumption | omega)) rfl (J_gd rfl rfl (R_fieldAddr fl95_1 rfl) rfl (J_gd rfl rfl (R_fieldAddr fl93_0 rfl) rfl (J_gd rfl rfl (R_load sc3 rfl ((RdS.getD (hd4.rd.ext E) (i := (k - 1)) (by first | assumption | omega)).one 1 rfl)) rfl (J_gd rfl rfl (R_fieldAddr0 fl58_2 rfl) rfl (J_gd rfl rfl (R_load sc52 rfl (h2.one 2 rfl)) rfl (J_gd rfl rfl (R_move rfl) rfl (J_gd rfl rfl (R_index (i := k) sl52 rfl rfl (hd4.rd.ext E) hi1) rfl (J_gd rfl rfl (R_fieldAddr fl95_1 rfl) rfl (J_gd rfl rfl (R_fieldAddr fl93_0 rfl) rfl (J_gd rfl rfl (R_load sc3 rfl (((hd4.rd.ext E).get hi1).one 1 rfl)) rfl (J_gd rfl rfl (R_gtr rfl rfl) rfl (J_gd rfl rfl (R_pickT rfl rfl) rfl (J_st (R_pickF rfl rfl) rfl (J_cutEnd ⟨rfl, rfl, rfl, rfl, rfl, rfl, rfl, rfl, rfl, congrArg (fun b => some (Value.bool b)) (show (decide ((((x.inputs[k]'hi1).stamp).epoch) < (((List.getD x.inputs (k - 1) default).stamp).epoch))) = (((((x.inputs[k]'hi1).op) != 0) || ((((x.inputs[k]'hi1).stamp).turn) != 0)) || ((decide (0 < ((k : Nat) : Int))) && (decide ((((x.inputs[k]'hi1).stamp).epoch) < (((List.getD x.inputs (k - 1) default).stamp).epoch))))) by first | (rw [hg7, hg8, hg9] <;> rfl) | (simp [hg7, hg8, hg9]; done) | (simp only [nat_nlt] <;> simp)), trivial⟩ rfl))))))))))))))))))
            · have hg9n : ¬ k > 0 := by first | (have h := of_decide_eq_false hg9; omega) | (have h := hg9; simp at h; omega)
              refine J_gdno rfl rfl rfl rfl (J_gdno rfl rfl rfl rfl (J_gdno rfl rfl rfl rfl (J_gdno rfl rfl rfl rfl (J_gdno rfl rfl rfl rfl (J_gdno rfl rfl rfl rfl (J_gdno rfl rfl rfl rfl (J_gdno rfl rfl rfl rfl (J_gdno rfl rfl rfl rfl (J_gdno rfl rfl rfl rfl (J_gdno rfl rfl rfl rfl (J_gdno rfl rfl rfl rfl (J_gdno rfl rfl rfl rfl (J_gdno rfl rfl rfl rfl (J_gdno rfl rfl rfl rfl (J_gdno rfl rfl rfl rfl (J_gd rfl rfl (R_pickF rfl rfl) rfl (J_st (R_pickF rfl rfl) rfl (J_cutEnd ⟨rfl, rfl, rfl, rfl, rfl, rfl, rfl, rfl, rfl, congrArg (fun b => some (Value.bool b)) (show false = (((((x.inputs[k]'hi1).op) != 0) || ((((x.inputs[k]'hi1).stamp).turn) != 0)) || ((decide (0 < ((k : Nat) : Int))) && (decide ((((x.inputs[k]'hi1).stamp).epoch) < (((List.getD x.inputs (k - 1) default).stamp).epoch))))) by first | (rw [hg7, hg8, hg9] <;> rfl) | (simp [hg7, hg8, hg9]; done) | (simp only [nat_nlt] <;> simp)), trivial⟩ rfl))))))))))))))))))
      rintro _ rfl
      refine J_done ?_
      refine S_cond rfl (fun hc3 => ?_) (fun hc3 => ?_)
      · refine S_seq ?_
        refine S_reg [true] rfl rfl ?_
        refine J_st (R_assign rfl) rfl (J_done ?_)
        refine S_ret (E_inB_ret (E_lp_ret (E_inB_ret (E_done1 rfl rfl E ?_))))
        exact bf fun h => by simp only [workerOk, Bool.and_eq_true] at h; obtain ⟨⟨⟨⟨⟨⟨⟨⟨⟨q1, q2⟩, q3⟩, q4⟩, q5⟩, q6⟩, q7⟩, q8⟩, q9⟩, q10⟩ := h; have := allR_get q5 (by assumption); rw [inAt_at (by assumption), hc3] at this; cases this
      · refine S_skip ?_
        refine S_nil (E_inB ?_)
        refine S_reg [true, true, true] rfl rfl ?_
        refine J_st (R_move rfl) rfl (J_st (R_add rfl rfl (add_one hc2n (hd4.ext E).1.1)) rfl (J_st (R_assign rfl) rfl (J_done ?_)))
        refine S_nil (E_again (k + 1) (by omega) ⟨rfl, rfl, rfl, rfl, trivial⟩ ⟨E, (by omega), h1, h2, (by omega), allR_s hI1 ((inAt_at (by assumption)).trans (congrArg not hc3))⟩)
    · have hc2n : ¬ k < x.inputs.length := by first | (have h := of_decide_eq_false hc2; omega) | (have h := hc2; simp at h; omega)
      refine S_exit (E_lp_exit (E_inB_exit ?_))
      refine S_seq ?_
      refine S_seq ?_
      refine S_reg [true] rfl rfl ?_
      refine J_st (R_assign rfl) rfl (J_done ?_)
      refine S_block ?_
      refine S_loop (fun (k : Nat) => [(3, .pointer (some ⟨b2, 0, none⟩)), (4, .bool false), (5, .int .i64 4), (7, .int .i64 ((k : Nat) : Int))]) (fun (k : Nat) w' => Ext w w' ∧ w8.heap.size ≤ w'.heap.size ∧ Blk w' b1 ([o1, .int .i64 g.workers, .int .i64 g.cap]) ∧ Blk w' b2 ([o2, o3, o4, o5, o6, o7, o8, o9]) ∧ k ≤ 4 ∧ (x.sums.take k).all (win · (-1000000) 1000000) = true) (fun (k : Nat) => 4 - k) 0 ⟨rfl, rfl, rfl, rfl, trivial⟩ ⟨E, Nat.le_refl _, h1, h2, Nat.zero_le _, rfl⟩ ?_
      clear E h1 h2
      rintro k w11 ⟨E, z10, h1, h2, hk, hI2⟩
      have hs4 := wk_len hc1
      refine S_seq ?_
      refine S_seq ?_
      refine S_reg [true, true, true] rfl rfl ?_
      refine J_st (R_move rfl) rfl (J_st (R_move rfl) rfl (J_st (R_lss rfl rfl) rfl (J_done ?_)))
      refine S_cond rfl (fun hc4 => ?_) (fun hc4 => ?_)
      · have hc4n : k < 4 := by first | (have h := of_decide_eq_true hc4; omega) | (have h := hc4; simp at h; omega)
        refine S_skip ?_
        refine S_seq ?_
        refine S_block ?_
        refine S_seq ?_
        refine S_reg [true, true, true, true, true, false, true] rfl rfl ?_
        refine J_st (R_fieldAddr0 fl58_4 rfl) rfl (J_st (R_load sc54 rfl (h2.one 4 rfl)) rfl (J_st (R_move rfl) rfl ?_))
        have hi2 : k < x.sums.length := (by first | assumption | omega)
        refine J_st (R_index (i := k) sl54 rfl rfl (hd6.rd.ext E) hi2) rfl (J_st (R_load sc3 rfl (((hd6.rd.ext E).get hi2).one 0 rfl)) rfl ?_)
        refine J_call Try.call18 rfl (s_l01In (x.sums[k]'hi2) (-1000000) 1000000 _ ) rfl (fun _ w12 e8 hv => ?_)
        subst hv
        replace E := E.trans e8; replace h1 := h1.ext e8; replace h2 := h2.ext e8
        have z11 := e8.size
        refine J_st (R_not rfl) rfl (J_done ?_)
        refine S_cond rfl (fun hc5 => ?_) (fun hc5 => ?_)
        · refine S_seq ?_
          refine S_reg [true] rfl rfl ?_
          refine J_st (R_assign rfl) rfl (J_done ?_)
          refine S_ret (E_inB_ret (E_lp_ret (E_inB_ret (E_done1 rfl rfl E ?_))))
          exact bf fun h => by simp only [workerOk, Bool.and_eq_true] at h; obtain ⟨⟨⟨⟨⟨⟨⟨⟨⟨q1, q2⟩, q3⟩, q4⟩, q5⟩, q6⟩, q7⟩, q8⟩, q9⟩, q10⟩ := h; have := List.all_eq_true.1 q9 _ (List.getElem_mem (by omega)); simp only [this] at hc5; cases hc5
        · refine S_skip ?_
          refine S_nil (E_inB ?_)
          refine S_reg [true, true, true] rfl rfl ?_
          refine J_st (R_move rfl) rfl (J_st (R_add rfl rfl (add_one hc4n (by first | assumption | (unfold maxLen; omega)))) rfl (J_st (R_assign rfl) rfl (J_done ?_)))
          refine S_nil (E_again (k + 1) (by omega) ⟨rfl, rfl, rfl, rfl, trivial⟩ ⟨E, (by omega), h1, h2, (by omega), all_step hI2 (by omega) (by simpa using hc5)⟩)
      · have hc4n : ¬ k < 4 := by first | (have h := of_decide_eq_false hc4; omega) | (have h := hc4; simp at h; omega)
        refine S_exit (E_lp_exit (E_inB_exit ?_))
        refine S_seq ?_
        refine S_seq ?_
        refine S_reg [true] rfl rfl ?_
        refine J_st (R_assign rfl) rfl (J_done ?_)
        refine S_block ?_
        refine S_loop (fun (i : Nat) => [(3, .pointer (some ⟨b2, 0, none⟩)), (4, .bool false), (8, .int .i64 ((i : Nat) : Int))]) (fun (i : Nat) w' => Ext w w' ∧ w11.heap.size ≤ w'.heap.size ∧ Blk w' b1 ([o1, .int .i64 g.workers, .int .i64 g.cap]) ∧ Blk w' b2 ([o2, o3, o4, o5, o6, o7, o8, o9]) ∧ i ≤ x.dones.length ∧ allR i (fun j => doneAtOk x.dones j) = true) (fun (i : Nat) => x.dones.length - i) 0 ⟨rfl, rfl, rfl, trivial⟩ ⟨E, Nat.le_refl _, h1, h2, Nat.zero_le _, rfl⟩ ?_
        clear E h1 h2
        rintro i w13 ⟨E, z12, h1, h2, hle, hI3⟩
        have hmd := hd9.1.1
        unfold maxLen at hmd
        refine S_seq ?_
        refine S_seq ?_
        refine S_reg [true, true, true, true, true] rfl rfl ?_
        refine J_st (R_move rfl) rfl (J_st (R_fieldAddr0 fl58_7 rfl) rfl (J_st (R_load sc56 rfl (h2.one 7 rfl)) rfl (J_st (R_len Try.underlying56 rfl (hd9.ext E).len) rfl (J_st (R_lss rfl rfl) rfl (J_done ?_)))))
        refine S_cond rfl (fun hc6 => ?_) (fun hc6 => ?_)
        · have hc6n : i < x.dones.length := by first | (have h := of_decide_eq_true hc6; omega) | (have h := hc6; simp at h; omega)
          refine S_skip ?_
          refine S_seq ?_
          refine S_block ?_
          refine S_seq ?_
          refine S_seq ?_
          refine S_reg [true, true, true, true, true, true, false, true] rfl rfl ?_
          refine J_st (R_fieldAddr0 fl58_7 rfl) rfl (J_st (R_load sc56 rfl (h2.one 7 rfl)) rfl (J_st (R_move rfl) rfl ?_))
          have hi3 : i < x.dones.length := (by first | assumption | omega)
          refine J_st (R_index (i := i) sl56 rfl rfl (hd9.rd.ext E) hi3) rfl (J_st (R_fieldAddr fl97_0 rfl) rfl (J_st (R_load sc3 rfl (((hd9.rd.ext E).get hi3).one 0 rfl)) rfl ?_))
          refine J_call Try.call18 rfl (s_l01In ((x.dones[i]'hi3).epoch) 0 3 _ ) rfl (fun _ w14 e9 hv => ?_)
          subst hv
          replace E := E.trans e9; replace h1 := h1.ext e9; replace h2 := h2.ext e9
          have z13 := e9.size
          refine J_st (R_not rfl) rfl (J_done ?_)
          refine S_cond rfl (fun hc7 => ?_) (fun hc7 => ?_)
          · refine S_seq ?_
            refine S_reg [true] rfl rfl ?_
            refine J_st (R_assign rfl) rfl (J_done ?_)
            refine S_ret (E_inB_ret (E_lp_ret (E_inB_ret (E_done1 rfl rfl E ?_))))
            exact bf fun h => by simp only [workerOk, Bool.and_eq_true] at h; obtain ⟨⟨⟨⟨⟨⟨⟨⟨⟨q1, q2⟩, q3⟩, q4⟩, q5⟩, q6⟩, q7⟩, q8⟩, q9⟩, q10⟩ := h; have := allR_get q10 (by assumption); rw [doneAtOk_at (by assumption)] at this; simp only [hc7, Bool.true_or] at this; cases this
          · refine S_skip ?_
            refine S_seq ?_
            refine S_reg [true] rfl rfl ?_
            refine J_st (R_assign rfl) rfl (J_done ?_)
            refine S_block ?_
            refine S_loop (fun (j : Nat) => [(3, .pointer (some ⟨b2, 0, none⟩)), (4, .bool false), (8, .int .i64 ((i : Nat) : Int)), (9, .int .i64 ((j : Nat) : Int))]) (fun (j : Nat) w' => Ext w w' ∧ w14.heap.size ≤ w'.heap.size ∧ Blk w' b1 ([o1, .int .i64 g.workers, .int .i64 g.cap]) ∧ Blk w' b2 ([o2, o3, o4, o5, o6, o7, o8, o9]) ∧ j ≤ i ∧ (x.dones.take j).any (fun d => d.epoch == (x.dones[i]'hi3).epoch) = false) (fun (j : Nat) => i - j) 0 ⟨rfl, rfl, rfl, rfl, trivial⟩ ⟨E, Nat.le_refl _, h1, h2, Nat.zero_le _, rfl⟩ ?_
            clear E h1 h2
            rintro j w15 ⟨E, z14, h1, h2, hk, hJ⟩
            refine S_seq ?_
            refine S_seq ?_
            refine S_reg [true, true, true] rfl rfl ?_
            refine J_st (R_move rfl) rfl (J_st (R_move rfl) rfl (J_st (R_lss rfl rfl) rfl (J_done ?_)))
            refine S_cond rfl (fun hc8 => ?_) (fun hc8 => ?_)
            · have hc8n : j < i := by first | (have h := of_decide_eq_true hc8; omega) | (have h := hc8; simp at h; omega)
              refine S_skip ?_
              refine S_seq ?_
              refine S_block ?_
              refine S_seq ?_
              refine S_regD mixed [(0, true), (1, true), (2, true), (3, true), (4, true), (5, true), (6, true), (7, true), (8, true), (9, true), (10, true), (11, true), (12, true)] (by decide +kernel) rfl (fun w16 e10 => ?_)
              replace E := E.trans e10; replace h1 := h1.ext e10; replace h2 := h2.ext e10
              have z15 := e10.size
              refine J_st (R_fieldAddr0 fl58_7 rfl) rfl (J_st (R_load sc56 rfl (h2.one 7 rfl)) rfl (J_st (R_move rfl) rfl ?_))
              have hi4 : j < x.dones.length := (by first | assumption | omega)
              refine J_st (R_index (i := j) sl56 rfl rfl (hd9.rd.ext E) hi4) rfl (J_st (R_fieldAddr fl97_0 rfl) rfl (J_st (R_load sc3 rfl (((hd9.rd.ext E).get hi4).one 0 rfl)) rfl (J_st (R_fieldAddr0 fl58_7 rfl) rfl (J_st (R_load sc56 rfl (h2.one 7 rfl)) rfl (J_st (R_move rfl) rfl (J_st (R_index (i := i) sl56 rfl rfl (hd9.rd.ext E) hi3) rfl (J_st (R_fieldAddr fl97_0 rfl) rfl (J_st (R_load sc3 rfl (((hd9.rd.ext E).get hi3).one 0 rfl)) rfl (J_st (R_eql rfl rfl) rfl (J_done ?_))))))))))
              refine S_cond rfl (fun hc9 => ?_) (fun hc9 => ?_)
              · refine S_seq ?_
                refine S_reg [true] rfl rfl ?_
                refine J_st (R_assign rfl) rfl (J_done ?_)
                refine S_ret (E_inB_ret (E_lp_ret (E_inB_ret (E_inB_ret (E_lp_ret (E_inB_ret (E_done1 rfl rfl E ?_)))))))
                exact bf fun h => by simp only [workerOk, Bool.and_eq_true] at h; obtain ⟨⟨⟨⟨⟨⟨⟨⟨⟨q1, q2⟩, q3⟩, q4⟩, q5⟩, q6⟩, q7⟩, q8⟩, q9⟩, q10⟩ := h; have := allR_get (j := i) q10 (by omega); exact done_n this (by omega) (by assumption)
              · refine S_skip ?_
                refine S_nil (E_inB ?_)
                refine S_reg [true, true, true] rfl rfl ?_
                refine J_st (R_move rfl) rfl (J_st (R_add rfl rfl (add_one hc8n (by first | assumption | (unfold maxLen; omega)))) rfl (J_st (R_assign rfl) rfl (J_done ?_)))
                refine S_nil (E_again (j + 1) (by omega) ⟨rfl, rfl, rfl, rfl, trivial⟩ ⟨E, (by omega), h1, h2, (by omega), any_step hJ (by omega) (by assumption)⟩)
            · have hc8n : ¬ j < i := by first | (have h := of_decide_eq_false hc8; omega) | (have h := hc8; simp at h; omega)
              refine S_exit (E_lp_exit (E_inB_exit ?_))
              refine S_nil (E_inB ?_)
              refine S_reg [true, true, true] rfl rfl ?_
              refine J_st (R_move rfl) rfl (J_st (R_add rfl rfl (add_one hc6n (hd9.ext E).1.1)) rfl (J_st (R_assign rfl) rfl (J_done ?_)))
              refine S_nil (E_again (i + 1) (by omega) ⟨rfl, rfl, rfl, trivial⟩ ⟨E, (by omega), h1, h2, (by omega), (allR_s hI3 (done_s (h1 := hi3) (by assumption) hJ (by omega)))⟩)
        · have hc6n : ¬ i < x.dones.length := by first | (have h := of_decide_eq_false hc6; omega) | (have h := hc6; simp at h; omega)
          refine S_exit (E_lp_exit (E_inB_exit ?_))
          refine S_seq ?_
          refine S_reg [true] rfl rfl ?_
          refine J_st (R_assign rfl) rfl (J_done ?_)
          refine S_ret (E_done1 rfl rfl E ?_)
          exact wk_yes2 hc1 (allR_le hI1 (by omega)) (all_end hI2 (by have := wk_len hc1; omega)) (allR_le hI3 (by omega))

set_option maxRecDepth 20000 in
theorem c_toToken (x : Token) (w : World)  : Ct Try.prog 43 [.agg (Enc.enc x).toArray] w (fun v _ => v = .agg (Enc.enc x).toArray) := by
  refine ct_of Try.func43 rfl Try.ntmps43 rfl ?_
  refine S_sub [(0, .agg (Enc.enc x).toArray)] ⟨rfl, trivial⟩ ?_
  have E : Ext w w := Ext.refl w
  refine S_seq ?_
  refine S_reg [false, false] rfl rfl ?_
  refine J_box rfl rfl (fun b1 w1 e1 s1 h1 => ?_)
  have g_b1 : w.heap.size ≤ b1 := by have := E.size; omega
  have y_b1 := h1.lt
  replace E := E.trans e1
  have z1 := e1.size
  refine J_alloc st65 rfl (fun b2 w2 e2 s2 h2 => ?_)
  have g_b2 : w.heap.size ≤ b2 := by have := E.size; omega
  have y_b2 := h2.lt
  replace E := E.trans e2; replace h1 := h1.ext e2
  have z2 := e2.size
  refine J_done ?_
  refine S_seq ?_
  refine S_reg [false] rfl rfl ?_
  refine J_alloc st65 rfl (fun b3 w3 e3 s3 h3 => ?_)
  have g_b3 : w.heap.size ≤ b3 := by have := E.size; omega
  have y_b3 := h3.lt
  replace E := E.trans e3; replace h1 := h1.ext e3; replace h2 := h2.ext e3
  have z3 := e3.size
  refine J_done ?_
  refine S_seq ?_
  refine S_reg [true, true, true, false] rfl rfl ?_
  refine J_st (R_fieldAddr0 fl103_0 rfl) rfl (J_st (R_load sc4 rfl (h1.one 0 rfl)) rfl (J_st (R_fieldAddr0 fl65_0 rfl) rfl ?_))
  refine J_store' (cs' := [.bool x.going, .int .i64 0, .int .i64 0, .bool false, .bool false]) sc4 rfl rfl rfl h3 (Nat.le_of_ble_eq_true rfl) rfl (fun w4 m1 h3' => ?_)
  replace h3 := h3'
  replace E := E.step m1 (fun g hg => by cases hg; omega); replace h1 := h1.mod m1 (fun g hg => by cases hg; omega); replace h2 := h2.mod m1 (fun g hg => by cases hg; omega)
  have z4 := m1.size
  refine J_done ?_
  refine S_seq ?_
  refine S_reg [true, true, true, false] rfl rfl ?_
  refine J_st (R_fieldAddr0 fl103_1 rfl) rfl (J_st (R_load sc3 rfl (h1.one 1 rfl)) rfl (J_st (R_fieldAddr0 fl65_1 rfl) rfl ?_))
  refine J_store' (cs' := [.bool x.going, .int .i64 x.place, .int .i64 0, .bool false, .bool false]) sc3 rfl rfl rfl h3 (Nat.le_of_ble_eq_true rfl) rfl (fun w5 m2 h3' => ?_)
  replace h3 := h3'
  replace E := E.step m2 (fun g hg => by cases hg; omega); replace h1 := h1.mod m2 (fun g hg => by cases hg; omega); replace h2 := h2.mod m2 (fun g hg => by cases hg; omega)
  have z5 := m2.size
  refine J_done ?_
  refine S_seq ?_
  refine S_reg [true, true, true, false] rfl rfl ?_
  refine J_st (R_fieldAddr0 fl103_2 rfl) rfl (J_st (R_load sc3 rfl (h1.one 2 rfl)) rfl (J_st (R_fieldAddr0 fl65_2 rfl) rfl ?_))
  refine J_store' (cs' := [.bool x.going, .int .i64 x.place, .int .i64 x.sum, .bool false, .bool false]) sc3 rfl rfl rfl h3 (Nat.le_of_ble_eq_true rfl) rfl (fun w6 m3 h3' => ?_)
  replace h3 := h3'
  replace E := E.step m3 (fun g hg => by cases hg; omega); replace h1 := h1.mod m3 (fun g hg => by cases hg; omega); replace h2 := h2.mod m3 (fun g hg => by cases hg; omega)
  have z6 := m3.size
  refine J_done ?_
  refine S_seq ?_
  refine S_reg [true, true, true, false] rfl rfl ?_
  refine J_st (R_fieldAddr0 fl103_3 rfl) rfl (J_st (R_load sc4 rfl (h1.one 3 rfl)) rfl (J_st (R_fieldAddr0 fl65_3 rfl) rfl ?_))
  refine J_store' (cs' := [.bool x.going, .int .i64 x.place, .int .i64 x.sum, .bool x.black, .bool false]) sc4 rfl rfl rfl h3 (Nat.le_of_ble_eq_true rfl) rfl (fun w7 m4 h3' => ?_)
  replace h3 := h3'
  replace E := E.step m4 (fun g hg => by cases hg; omega); replace h1 := h1.mod m4 (fun g hg => by cases hg; omega); replace h2 := h2.mod m4 (fun g hg => by cases hg; omega)
  have z7 := m4.size
  refine J_done ?_
  refine S_seq ?_
  refine S_reg [true, true, true, false] rfl rfl ?_
  refine J_st (R_fieldAddr0 fl103_4 rfl) rfl (J_st (R_load sc4 rfl (h1.one 4 rfl)) rfl (J_st (R_fieldAddr0 fl65_4 rfl) rfl ?_))
  refine J_store' (cs' := [.bool x.going, .int .i64 x.place, .int .i64 x.sum, .bool x.black, .bool x.capped]) sc4 rfl rfl rfl h3 (Nat.le_of_ble_eq_true rfl) rfl (fun w8 m5 h3' => ?_)
  replace h3 := h3'
  replace E := E.step m5 (fun g hg => by cases hg; omega); replace h1 := h1.mod m5 (fun g hg => by cases hg; omega); replace h2 := h2.mod m5 (fun g hg => by cases hg; omega)
  have z8 := m5.size
  refine J_done ?_
  refine S_seq ?_
  refine S_reg [true, false] rfl rfl ?_
  refine J_st (R_loadS st65 rfl h3.at rfl) rfl ?_
  refine J_storeS' (cs' := [.bool x.going, .int .i64 x.place, .int .i64 x.sum, .bool x.black, .bool x.capped]) st65 rfl rfl rfl rfl h2 (Nat.le_of_ble_eq_true rfl) rfl (fun w9 m6 h2' => ?_)
  replace h2 := h2'
  replace E := E.step m6 (fun g hg => by cases hg; omega); replace h1 := h1.mod m6 (fun g hg => by cases hg; omega); replace h3 := h3.mod m6 (fun g hg => by cases hg; omega)
  have z9 := m6.size
  refine J_done ?_
  refine S_ret (E_doneC rfl rfl (run_loadVar_st st65 h2.at rfl) E ?_)
  rfl

set_option maxRecDepth 20000 in
theorem c_eqToken (x : Token) (y : Token) (w : World)  : Ct Try.prog 54 [.agg (Enc.enc x).toArray, .agg (Enc.enc y).toArray] w (fun v _ => v = .bool (decide (x = y))) := by
  refine ct_of Try.func54 rfl Try.ntmps54 rfl ?_
  refine S_sub [(0, .agg (Enc.enc x).toArray), (1, .agg (Enc.enc y).toArray)] ⟨rfl, rfl, trivial⟩ ?_
  have E : Ext w w := Ext.refl w
  refine S_seq ?_
  refine S_reg [false, false, true] rfl rfl ?_
  refine J_box rfl rfl (fun b1 w1 e1 s1 h1 => ?_)
  have g_b1 : w.heap.size ≤ b1 := by have := E.size; omega
  have y_b1 := h1.lt
  replace E := E.trans e1
  have z1 := e1.size
  refine J_box rfl rfl (fun b2 w2 e2 s2 h2 => ?_)
  have g_b2 : w.heap.size ≤ b2 := by have := E.size; omega
  have y_b2 := h2.lt
  replace E := E.trans e2; replace h1 := h1.ext e2
  have z2 := e2.size
  refine J_st (R_assign rfl) rfl (J_done ?_)
  refine S_seq ?_
  refine S_seq ?_
  refine S_reg [true, true, true, true, true] rfl rfl ?_
  refine J_st (R_fieldAddr0 fl65_0 rfl) rfl (J_st (R_load sc4 rfl (h1.one 0 rfl)) rfl (J_st (R_fieldAddr0 fl65_0 rfl) rfl (J_st (R_load sc4 rfl (h2.one 0 rfl)) rfl (J_st (R_neqB (Try.underlying4) rfl rfl) rfl (J_done ?_)))))
  refine S_cond rfl (fun hc1 => ?_) (fun hc1 => ?_)
  · refine S_seq ?_
    refine S_reg [true] rfl rfl ?_
    refine J_st (R_assign rfl) rfl (J_done ?_)
    refine S_ret (E_done1 rfl rfl E ?_)
    cases x; cases y; simp_all
  · refine S_skip ?_
    refine S_seq ?_
    refine S_seq ?_
    refine S_reg [true, true, true, true, true] rfl rfl ?_
    refine J_st (R_fieldAddr0 fl65_1 rfl) rfl (J_st (R_load sc3 rfl (h1.one 1 rfl)) rfl (J_st (R_fieldAddr0 fl65_1 rfl) rfl (J_st (R_load sc3 rfl (h2.one 1 rfl)) rfl (J_st (R_neq rfl rfl) rfl (J_done ?_)))))
    refine S_cond rfl (fun hc2 => ?_) (fun hc2 => ?_)
    · refine S_seq ?_
      refine S_reg [true] rfl rfl ?_
      refine J_st (R_assign rfl) rfl (J_done ?_)
      refine S_ret (E_done1 rfl rfl E ?_)
      cases x; cases y; simp_all
    · refine S_skip ?_
      refine S_seq ?_
      refine S_seq ?_
      refine S_reg [true, true, true, true, true] rfl rfl ?_
      refine J_st (R_fieldAddr0 fl65_2 rfl) rfl (J_st (R_load sc3 rfl (h1.one 2 rfl)) rfl (J_st (R_fieldAddr0 fl65_2 rfl) rfl (J_st (R_load sc3 rfl (h2.one 2 rfl)) rfl (J_st (R_neq rfl rfl) rfl (J_done ?_)))))
      refine S_cond rfl (fun hc3 => ?_) (fun hc3 => ?_)
      · refine S_seq ?_
        refine S_reg [true] rfl rfl ?_
        refine J_st (R_assign rfl) rfl (J_done ?_)
        refine S_ret (E_done1 rfl rfl E ?_)
        cases x; cases y; simp_all
      · refine S_skip ?_
        refine S_seq ?_
        refine S_seq ?_
        refine S_reg [true, true, true, true, true] rfl rfl ?_
        refine J_st (R_fieldAddr0 fl65_3 rfl) rfl (J_st (R_load sc4 rfl (h1.one 3 rfl)) rfl (J_st (R_fieldAddr0 fl65_3 rfl) rfl (J_st (R_load sc4 rfl (h2.one 3 rfl)) rfl (J_st (R_neqB (Try.underlying4) rfl rfl) rfl (J_done ?_)))))
        refine S_cond rfl (fun hc4 => ?_) (fun hc4 => ?_)
        · refine S_seq ?_
          refine S_reg [true] rfl rfl ?_
          refine J_st (R_assign rfl) rfl (J_done ?_)
          refine S_ret (E_done1 rfl rfl E ?_)
          cases x; cases y; simp_all
        · refine S_skip ?_
          refine S_seq ?_
          refine S_seq ?_
          refine S_reg [true, true, true, true, true] rfl rfl ?_
          refine J_st (R_fieldAddr0 fl65_4 rfl) rfl (J_st (R_load sc4 rfl (h1.one 4 rfl)) rfl (J_st (R_fieldAddr0 fl65_4 rfl) rfl (J_st (R_load sc4 rfl (h2.one 4 rfl)) rfl (J_st (R_neqB (Try.underlying4) rfl rfl) rfl (J_done ?_)))))
          refine S_cond rfl (fun hc5 => ?_) (fun hc5 => ?_)
          · refine S_seq ?_
            refine S_reg [true] rfl rfl ?_
            refine J_st (R_assign rfl) rfl (J_done ?_)
            refine S_ret (E_done1 rfl rfl E ?_)
            cases x; cases y; simp_all
          · refine S_skip ?_
            refine S_seq ?_
            refine S_reg [true] rfl rfl ?_
            refine J_st (R_assign rfl) rfl (J_done ?_)
            refine S_ret (E_done1 rfl rfl E ?_)
            cases x; cases y; simp_all

set_option maxRecDepth 20000 in
theorem c_szTokenS (vxs : Value) (xs : List Token) (n : Int) (w : World) (hxs : RdS w vxs xs) (h0 : 0 ≤ n ∧ n ≤ 1048576) : Ct Try.prog 12 [vxs, .int .i64 n] w (fun v _ => v = .int .i64 (szM xs.length n)) := by
  refine ct_of Try.func12 rfl Try.ntmps12 rfl ?_
  refine S_sub [(0, vxs), (1, .int .i64 n)] ⟨rfl, rfl, trivial⟩ ?_
  have E : Ext w w := Ext.refl w
  refine S_seq ?_
  refine S_reg [true] rfl rfl ?_
  refine J_st (R_assign rfl) rfl (J_done ?_)
  refine S_seq ?_
  refine S_reg [true, true, true, true, true] rfl rfl ?_
  refine J_st (R_move rfl) rfl (J_st (R_move rfl) rfl (J_st (R_len Try.underlying27 rfl (hxs.ext E).len) rfl (J_st (R_sub rfl rfl rfl) rfl (J_st (R_assign rfl) rfl (J_done ?_)))))
  refine S_seq ?_
  refine S_seq ?_
  refine S_reg [true, true] rfl rfl ?_
  refine J_st (R_move rfl) rfl (J_st (R_lss rfl rfl) rfl (J_done ?_))
  refine S_cond rfl (fun hc1 => ?_) (fun hc1 => ?_)
  · refine S_seq ?_
    refine S_reg [true] rfl rfl ?_
    refine J_st (R_assign rfl) rfl (J_done ?_)
    refine S_ret (E_done1 rfl rfl E ?_)
    exact sz_no h0.2 h0.1 hxs.1 hc1
  · refine S_skip ?_
    refine S_seq ?_
    refine S_reg [true, true] rfl rfl ?_
    refine J_st (R_move rfl) rfl (J_st (R_assign rfl) rfl (J_done ?_))
    refine S_ret (E_done1 rfl rfl E ?_)
    exact sz_yes h0.2 h0.1 hxs.1 hc1

set_option maxRecDepth 20000 in
theorem c_toTokenS (vxs : Value) (xs : List Token) (w : World) (hxs : RdS w vxs xs) (hb : xs.length ≤ 1048576) : Ct Try.prog 22 [vxs] w (fun v w' => Own w' w.heap.size w'.heap.size 5 v (List.flatMap (Enc.enc (α := Token)) xs)) := by
  refine ct_of Try.func22 rfl Try.ntmps22 rfl ?_
  refine S_sub [(0, vxs)] ⟨rfl, trivial⟩ ?_
  have E : Ext w w := Ext.refl w
  refine S_seq ?_
  refine S_reg [true] rfl rfl ?_
  refine J_st (R_assign rfl) rfl (J_done ?_)
  refine S_seq ?_
  refine S_reg [true, true, false, true] rfl rfl ?_
  refine J_st (R_move rfl) rfl (J_st (R_len Try.underlying27 rfl (hxs.ext E).len) rfl ?_)
  refine J_make (m := xs.length) sl38 rfl rfl (by omega) (by decide) rfl (fun b1 w1 e1 s1 h1 => ?_)
  have g_b1 : w.heap.size ≤ b1 := by have := E.size; omega
  have y_b1 := h1.lt
  replace E := E.trans e1
  have z1 := e1.size
  refine J_st (R_assign rfl) rfl (J_done ?_)
  refine S_seq ?_
  refine S_seq ?_
  refine S_reg [true] rfl rfl ?_
  refine J_st (R_assign rfl) rfl (J_done ?_)
  refine S_block ?_
  refine S_loop (fun (k : Nat) => [(0, vxs), (2, .slice none 0 0), (3, .slice (some ⟨b1, 0, none⟩) xs.length xs.length), (4, .int .i64 ((k : Nat) : Int))]) (fun (k : Nat) w' => Ext w w' ∧ w1.heap.size ≤ w'.heap.size ∧ k ≤ xs.length ∧ Blk w' b1 (mk xs [.bool false, .int .i64 0, .int .i64 0, .bool false, .bool false] k xs.length)) (fun (k : Nat) => xs.length - k) 0 ⟨rfl, rfl, rfl, rfl, trivial⟩ ⟨E, Nat.le_refl _, Nat.zero_le _, (mk_zero xs [.bool false, .int .i64 0, .int .i64 0, .bool false, .bool false] xs.length) ▸ h1⟩ ?_
  clear E h1
  rintro k w2 ⟨E, z2, hk, h1⟩
  refine S_seq ?_
  refine S_seq ?_
  refine S_reg [true, true, true, true] rfl rfl ?_
  refine J_st (R_move rfl) rfl (J_st (R_move rfl) rfl (J_st (R_len Try.underlying27 rfl (hxs.ext E).len) rfl (J_st (R_lss rfl rfl) rfl (J_done ?_))))
  refine S_cond rfl (fun hc1 => ?_) (fun hc1 => ?_)
  · have hc1n : k < xs.length := by first | (have h := of_decide_eq_true hc1; omega) | (have h := hc1; simp at h; omega)
    refine S_skip ?_
    refine S_seq ?_
    refine S_block ?_
    refine S_reg [true, true, true, true, true, true, false, true, false] rfl rfl ?_
    refine J_st (R_move rfl) rfl (J_st (R_move rfl) rfl (J_st (R_move rfl) rfl (J_st (R_move rfl) rfl ?_)))
    have hi1 : k < xs.length := (by first | assumption | omega)
    refine J_st (R_index (i := k) sl27 rfl rfl (hxs.ext E) hi1) rfl (J_st (R_loadS st103 rfl ((hxs.ext E).get hi1) rfl) rfl ?_)
    refine J_call Try.call43 rfl (c_toToken (xs[k]'hi1) _ ) rfl (fun _ w3 e2 hv => ?_)
    subst hv
    replace E := E.trans e2; replace h1 := h1.ext e2
    have z3 := e2.size
    refine J_st (R_indexB sl38 rfl rfl (by first | assumption | omega)) rfl ?_
    refine J_storeS' (cs' := mk xs [.bool false, .int .i64 0, .int .i64 0, .bool false, .bool false] (k + 1) xs.length) st65 rfl rfl rfl rfl h1 (mk_room xs [.bool false, .int .i64 0, .int .i64 0, .bool false, .bool false] rfl hc1n hc1n (by rfl)) (mk_step xs [.bool false, .int .i64 0, .int .i64 0, .bool false, .bool false] rfl hc1n hc1n) (fun w4 m1 h1' => ?_)
    replace h1 := h1'
    replace E := E.step m1 (fun g hg => by cases hg; omega)
    have z4 := m1.size
    refine J_done ?_
    refine S_nil (E_inB ?_)
    refine S_reg [true, true, true] rfl rfl ?_
    refine J_st (R_move rfl) rfl (J_st (R_add rfl rfl (add_one hc1n hxs.1)) rfl (J_st (R_assign rfl) rfl (J_done ?_)))
    refine S_nil (E_again (k + 1) (by omega) ⟨rfl, rfl, rfl, rfl, trivial⟩ ⟨E, (by omega), (by omega), h1⟩)
  · have hc1n : ¬ k < xs.length := by first | (have h := of_decide_eq_false hc1; omega) | (have h := hc1; simp at h; omega)
    refine S_exit (E_lp_exit (E_inB_exit ?_))
    refine S_seq ?_
    refine S_reg [true, true] rfl rfl ?_
    refine J_st (R_move rfl) rfl (J_st (R_assign rfl) rfl (J_done ?_))
    refine S_ret (E_done1 rfl rfl E ?_)
    obtain rfl : k = xs.length := by omega
    rw [mk_all] at h1
    exact Own.ofBlk h1 (by omega) (by have := h1.lt; omega) (sum_flat xs) hxs.1

set_option maxRecDepth 20000 in
theorem c_eqTokenS (vxs : Value) (xs : List Token) (vys : Value) (ys : List Token) (w : World) (hxs : RdS w vxs xs) (hys : RdS w vys ys) : Ct Try.prog 32 [vxs, vys] w (fun v _ => v = .bool (decide (xs = ys))) := by
  refine ct_of Try.func32 rfl Try.ntmps32 rfl ?_
  refine S_sub [(0, vxs), (1, vys)] ⟨rfl, rfl, trivial⟩ ?_
  have E : Ext w w := Ext.refl w
  refine S_seq ?_
  refine S_reg [true] rfl rfl ?_
  refine J_st (R_assign rfl) rfl (J_done ?_)
  refine S_seq ?_
  refine S_seq ?_
  refine S_reg [true, true, true, true, true] rfl rfl ?_
  refine J_st (R_move rfl) rfl (J_st (R_len Try.underlying38 rfl (hxs.ext E).len) rfl (J_st (R_move rfl) rfl (J_st (R_len Try.underlying38 rfl (hys.ext E).len) rfl (J_st (R_neq rfl rfl) rfl (J_done ?_)))))
  refine S_cond rfl (fun hc1 => ?_) (fun hc1 => ?_)
  · have hc1n : ¬ xs.length = ys.length := by first | (have h := of_decide_eq_true hc1; omega) | (have h := hc1; simp at h; omega)
    refine S_seq ?_
    refine S_reg [true] rfl rfl ?_
    refine J_st (R_assign rfl) rfl (J_done ?_)
    refine S_ret (E_done1 rfl rfl E ?_)
    simp [eq_len hc1n]
  · have hc1n : xs.length = ys.length := by first | (have h := of_decide_eq_false hc1; omega) | (have h := hc1; simp at h; omega)
    refine S_skip ?_
    refine S_seq ?_
    refine S_seq ?_
    refine S_reg [true] rfl rfl ?_
    refine J_st (R_assign rfl) rfl (J_done ?_)
    refine S_block ?_
    refine S_loop (fun (k : Nat) => [(0, vxs), (1, vys), (4, .bool false), (5, .int .i64 ((k : Nat) : Int))]) (fun (k : Nat) w' => Ext w w' ∧ w.heap.size ≤ w'.heap.size ∧ k ≤ xs.length ∧ xs.take k = ys.take k) (fun (k : Nat) => xs.length - k) 0 ⟨rfl, rfl, rfl, rfl, trivial⟩ ⟨E, Nat.le_refl _, Nat.zero_le _, rfl⟩ ?_
    clear E
    rintro k w1 ⟨E, z1, hk, hp⟩
    refine S_seq ?_
    refine S_seq ?_
    refine S_reg [true, true, true, true] rfl rfl ?_
    refine J_st (R_move rfl) rfl (J_st (R_move rfl) rfl (J_st (R_len Try.underlying38 rfl (hxs.ext E).len) rfl (J_st (R_lss rfl rfl) rfl (J_done ?_))))
    refine S_cond rfl (fun hc2 => ?_) (fun hc2 => ?_)
    · have hc2n : k < xs.length := by first | (have h := of_decide_eq_true hc2; omega) | (have h := hc2; simp at h; omega)
      refine S_skip ?_
      refine S_seq ?_
      refine S_block ?_
      refine S_seq ?_
      refine S_regD mixed [(0, true), (1, true), (2, true), (3, true), (4, true), (5, true), (6, true), (7, true), (8, false), (9, true)] (by decide +kernel) rfl (fun w2 e1 => ?_)
      replace E := E.trans e1
      have z2 := e1.size
      refine J_st (R_move rfl) rfl (J_st (R_move rfl) rfl ?_)
      have hi1 : k < xs.length := (by first | assumption | omega)
      refine J_st (R_index (i := k) sl38 rfl rfl (hxs.ext E) hi1) rfl (J_st (R_loadS st65 rfl ((hxs.ext E).get hi1) rfl) rfl (J_st (R_move rfl) rfl (J_st (R_move rfl) rfl ?_)))
      have hi2 : k < ys.length := (by first | assumption | omega)
      refine J_st (R_index (i := k) sl38 rfl rfl (hys.ext E) hi2) rfl (J_st (R_loadS st65 rfl ((hys.ext E).get hi2) rfl) rfl ?_)
      refine J_call Try.call54 rfl (c_eqToken (xs[k]'hi1) (ys[k]'hi2) _ ) rfl (fun _ w3 e2 hv => ?_)
      subst hv
      replace E := E.trans e2
      have z3 := e2.size
      refine J_st (R_not rfl) rfl (J_done ?_)
      refine S_cond rfl (fun hc3 => ?_) (fun hc3 => ?_)
      · refine S_seq ?_
        refine S_reg [true] rfl rfl ?_
        refine J_st (R_assign rfl) rfl (J_done ?_)
        refine S_ret (E_inB_ret (E_lp_ret (E_inB_ret (E_done1 rfl rfl E ?_))))
        exact eqS_no (by omega) (by omega) (by simpa using hc3)
      · refine S_skip ?_
        refine S_nil (E_inB ?_)
        refine S_reg [true, true, true] rfl rfl ?_
        refine J_st (R_move rfl) rfl (J_st (R_add rfl rfl (add_one hc2n hxs.1)) rfl (J_st (R_assign rfl) rfl (J_done ?_)))
        refine S_nil (E_again (k + 1) (by omega) ⟨rfl, rfl, rfl, rfl, trivial⟩ ⟨E, (by omega), (by omega), eqS_step hp (by assumption) (by omega) (by simpa using hc3)⟩)
    · have hc2n : ¬ k < xs.length := by first | (have h := of_decide_eq_false hc2; omega) | (have h := hc2; simp at h; omega)
      refine S_exit (E_lp_exit (E_inB_exit ?_))
      refine S_seq ?_
      refine S_reg [true] rfl rfl ?_
      refine J_st (R_assign rfl) rfl (J_done ?_)
      refine S_ret (E_done1 rfl rfl E ?_)
      exact eqS_yes hp hc1n (by omega)

set_option maxRecDepth 20000 in
theorem c_toNews (x : News) (w : World)  : Ct Try.prog 44 [.agg (Enc.enc x).toArray] w (fun v _ => v = .agg (Enc.enc x).toArray) := by
  refine ct_of Try.func44 rfl Try.ntmps44 rfl ?_
  refine S_sub [(0, .agg (Enc.enc x).toArray)] ⟨rfl, trivial⟩ ?_
  have E : Ext w w := Ext.refl w
  refine S_seq ?_
  refine S_reg [false, false] rfl rfl ?_
  refine J_box rfl rfl (fun b1 w1 e1 s1 h1 => ?_)
  have g_b1 : w.heap.size ≤ b1 := by have := E.size; omega
  have y_b1 := h1.lt
  replace E := E.trans e1
  have z1 := e1.size
  refine J_alloc st67 rfl (fun b2 w2 e2 s2 h2 => ?_)
  have g_b2 : w.heap.size ≤ b2 := by have := E.size; omega
  have y_b2 := h2.lt
  replace E := E.trans e2; replace h1 := h1.ext e2
  have z2 := e2.size
  refine J_done ?_
  refine S_seq ?_
  refine S_reg [false] rfl rfl ?_
  refine J_alloc st67 rfl (fun b3 w3 e3 s3 h3 => ?_)
  have g_b3 : w.heap.size ≤ b3 := by have := E.size; omega
  have y_b3 := h3.lt
  replace E := E.trans e3; replace h1 := h1.ext e3; replace h2 := h2.ext e3
  have z3 := e3.size
  refine J_done ?_
  refine S_seq ?_
  refine S_reg [true, true, true, false] rfl rfl ?_
  refine J_st (R_fieldAddr0 fl105_0 rfl) rfl (J_st (R_load sc3 rfl (h1.one 0 rfl)) rfl (J_st (R_fieldAddr0 fl67_0 rfl) rfl ?_))
  refine J_store' (cs' := [.int .i64 x.dest, .int .i64 0, .bool false]) sc3 rfl rfl rfl h3 (Nat.le_of_ble_eq_true rfl) rfl (fun w4 m1 h3' => ?_)
  replace h3 := h3'
  replace E := E.step m1 (fun g hg => by cases hg; omega); replace h1 := h1.mod m1 (fun g hg => by cases hg; omega); replace h2 := h2.mod m1 (fun g hg => by cases hg; omega)
  have z4 := m1.size
  refine J_done ?_
  refine S_seq ?_
  refine S_reg [true, true, true, false] rfl rfl ?_
  refine J_st (R_fieldAddr0 fl105_1 rfl) rfl (J_st (R_load sc3 rfl (h1.one 1 rfl)) rfl (J_st (R_fieldAddr0 fl67_1 rfl) rfl ?_))
  refine J_store' (cs' := [.int .i64 x.dest, .int .i64 x.epoch, .bool false]) sc3 rfl rfl rfl h3 (Nat.le_of_ble_eq_true rfl) rfl (fun w5 m2 h3' => ?_)
  replace h3 := h3'
  replace E := E.step m2 (fun g hg => by cases hg; omega); replace h1 := h1.mod m2 (fun g hg => by cases hg; omega); replace h2 := h2.mod m2 (fun g hg => by cases hg; omega)
  have z5 := m2.size
  refine J_done ?_
  refine S_seq ?_
  refine S_reg [true, true, true, false] rfl rfl ?_
  refine J_st (R_fieldAddr0 fl105_2 rfl) rfl (J_st (R_load sc4 rfl (h1.one 2 rfl)) rfl (J_st (R_fieldAddr0 fl67_2 rfl) rfl ?_))
  refine J_store' (cs' := [.int .i64 x.dest, .int .i64 x.epoch, .bool x.capped]) sc4 rfl rfl rfl h3 (Nat.le_of_ble_eq_true rfl) rfl (fun w6 m3 h3' => ?_)
  replace h3 := h3'
  replace E := E.step m3 (fun g hg => by cases hg; omega); replace h1 := h1.mod m3 (fun g hg => by cases hg; omega); replace h2 := h2.mod m3 (fun g hg => by cases hg; omega)
  have z6 := m3.size
  refine J_done ?_
  refine S_seq ?_
  refine S_reg [true, false] rfl rfl ?_
  refine J_st (R_loadS st67 rfl h3.at rfl) rfl ?_
  refine J_storeS' (cs' := [.int .i64 x.dest, .int .i64 x.epoch, .bool x.capped]) st67 rfl rfl rfl rfl h2 (Nat.le_of_ble_eq_true rfl) rfl (fun w7 m4 h2' => ?_)
  replace h2 := h2'
  replace E := E.step m4 (fun g hg => by cases hg; omega); replace h1 := h1.mod m4 (fun g hg => by cases hg; omega); replace h3 := h3.mod m4 (fun g hg => by cases hg; omega)
  have z7 := m4.size
  refine J_done ?_
  refine S_ret (E_doneC rfl rfl (run_loadVar_st st67 h2.at rfl) E ?_)
  rfl

set_option maxRecDepth 20000 in
theorem c_eqNews (x : News) (y : News) (w : World)  : Ct Try.prog 55 [.agg (Enc.enc x).toArray, .agg (Enc.enc y).toArray] w (fun v _ => v = .bool (decide (x = y))) := by
  refine ct_of Try.func55 rfl Try.ntmps55 rfl ?_
  refine S_sub [(0, .agg (Enc.enc x).toArray), (1, .agg (Enc.enc y).toArray)] ⟨rfl, rfl, trivial⟩ ?_
  have E : Ext w w := Ext.refl w
  refine S_seq ?_
  refine S_reg [false, false, true] rfl rfl ?_
  refine J_box rfl rfl (fun b1 w1 e1 s1 h1 => ?_)
  have g_b1 : w.heap.size ≤ b1 := by have := E.size; omega
  have y_b1 := h1.lt
  replace E := E.trans e1
  have z1 := e1.size
  refine J_box rfl rfl (fun b2 w2 e2 s2 h2 => ?_)
  have g_b2 : w.heap.size ≤ b2 := by have := E.size; omega
  have y_b2 := h2.lt
  replace E := E.trans e2; replace h1 := h1.ext e2
  have z2 := e2.size
  refine J_st (R_assign rfl) rfl (J_done ?_)
  refine S_seq ?_
  refine S_seq ?_
  refine S_reg [true, true, true, true, true] rfl rfl ?_
  refine J_st (R_fieldAddr0 fl67_0 rfl) rfl (J_st (R_load sc3 rfl (h1.one 0 rfl)) rfl (J_st (R_fieldAddr0 fl67_0 rfl) rfl (J_st (R_load sc3 rfl (h2.one 0 rfl)) rfl (J_st (R_neq rfl rfl) rfl (J_done ?_)))))
  refine S_cond rfl (fun hc1 => ?_) (fun hc1 => ?_)
  · refine S_seq ?_
    refine S_reg [true] rfl rfl ?_
    refine J_st (R_assign rfl) rfl (J_done ?_)
    refine S_ret (E_done1 rfl rfl E ?_)
    cases x; cases y; simp_all
  · refine S_skip ?_
    refine S_seq ?_
    refine S_seq ?_
    refine S_reg [true, true, true, true, true] rfl rfl ?_
    refine J_st (R_fieldAddr0 fl67_1 rfl) rfl (J_st (R_load sc3 rfl (h1.one 1 rfl)) rfl (J_st (R_fieldAddr0 fl67_1 rfl) rfl (J_st (R_load sc3 rfl (h2.one 1 rfl)) rfl (J_st (R_neq rfl rfl) rfl (J_done ?_)))))
    refine S_cond rfl (fun hc2 => ?_) (fun hc2 => ?_)
    · refine S_seq ?_
      refine S_reg [true] rfl rfl ?_
      refine J_st (R_assign rfl) rfl (J_done ?_)
      refine S_ret (E_done1 rfl rfl E ?_)
      cases x; cases y; simp_all
    · refine S_skip ?_
      refine S_seq ?_
      refine S_seq ?_
      refine S_reg [true, true, true, true, true] rfl rfl ?_
      refine J_st (R_fieldAddr0 fl67_2 rfl) rfl (J_st (R_load sc4 rfl (h1.one 2 rfl)) rfl (J_st (R_fieldAddr0 fl67_2 rfl) rfl (J_st (R_load sc4 rfl (h2.one 2 rfl)) rfl (J_st (R_neqB (Try.underlying4) rfl rfl) rfl (J_done ?_)))))
      refine S_cond rfl (fun hc3 => ?_) (fun hc3 => ?_)
      · refine S_seq ?_
        refine S_reg [true] rfl rfl ?_
        refine J_st (R_assign rfl) rfl (J_done ?_)
        refine S_ret (E_done1 rfl rfl E ?_)
        cases x; cases y; simp_all
      · refine S_skip ?_
        refine S_seq ?_
        refine S_reg [true] rfl rfl ?_
        refine J_st (R_assign rfl) rfl (J_done ?_)
        refine S_ret (E_done1 rfl rfl E ?_)
        cases x; cases y; simp_all

set_option maxRecDepth 20000 in
theorem c_szNewsS (vxs : Value) (xs : List News) (n : Int) (w : World) (hxs : RdS w vxs xs) (h0 : 0 ≤ n ∧ n ≤ 1048576) : Ct Try.prog 13 [vxs, .int .i64 n] w (fun v _ => v = .int .i64 (szM xs.length n)) := by
  refine ct_of Try.func13 rfl Try.ntmps13 rfl ?_
  refine S_sub [(0, vxs), (1, .int .i64 n)] ⟨rfl, rfl, trivial⟩ ?_
  have E : Ext w w := Ext.refl w
  refine S_seq ?_
  refine S_reg [true] rfl rfl ?_
  refine J_st (R_assign rfl) rfl (J_done ?_)
  refine S_seq ?_
  refine S_reg [true, true, true, true, true] rfl rfl ?_
  refine J_st (R_move rfl) rfl (J_st (R_move rfl) rfl (J_st (R_len Try.underlying28 rfl (hxs.ext E).len) rfl (J_st (R_sub rfl rfl rfl) rfl (J_st (R_assign rfl) rfl (J_done ?_)))))
  refine S_seq ?_
  refine S_seq ?_
  refine S_reg [true, true] rfl rfl ?_
  refine J_st (R_move rfl) rfl (J_st (R_lss rfl rfl) rfl (J_done ?_))
  refine S_cond rfl (fun hc1 => ?_) (fun hc1 => ?_)
  · refine S_seq ?_
    refine S_reg [true] rfl rfl ?_
    refine J_st (R_assign rfl) rfl (J_done ?_)
    refine S_ret (E_done1 rfl rfl E ?_)
    exact sz_no h0.2 h0.1 hxs.1 hc1
  · refine S_skip ?_
    refine S_seq ?_
    refine S_reg [true, true] rfl rfl ?_
    refine J_st (R_move rfl) rfl (J_st (R_assign rfl) rfl (J_done ?_))
    refine S_ret (E_done1 rfl rfl E ?_)
    exact sz_yes h0.2 h0.1 hxs.1 hc1

set_option maxRecDepth 20000 in
theorem c_toNewsS (vxs : Value) (xs : List News) (w : World) (hxs : RdS w vxs xs) (hb : xs.length ≤ 1048576) : Ct Try.prog 23 [vxs] w (fun v w' => Own w' w.heap.size w'.heap.size 3 v (List.flatMap (Enc.enc (α := News)) xs)) := by
  refine ct_of Try.func23 rfl Try.ntmps23 rfl ?_
  refine S_sub [(0, vxs)] ⟨rfl, trivial⟩ ?_
  have E : Ext w w := Ext.refl w
  refine S_seq ?_
  refine S_reg [true] rfl rfl ?_
  refine J_st (R_assign rfl) rfl (J_done ?_)
  refine S_seq ?_
  refine S_reg [true, true, false, true] rfl rfl ?_
  refine J_st (R_move rfl) rfl (J_st (R_len Try.underlying28 rfl (hxs.ext E).len) rfl ?_)
  refine J_make (m := xs.length) sl39 rfl rfl (by omega) (by decide) rfl (fun b1 w1 e1 s1 h1 => ?_)
  have g_b1 : w.heap.size ≤ b1 := by have := E.size; omega
  have y_b1 := h1.lt
  replace E := E.trans e1
  have z1 := e1.size
  refine J_st (R_assign rfl) rfl (J_done ?_)
  refine S_seq ?_
  refine S_seq ?_
  refine S_reg [true] rfl rfl ?_
  refine J_st (R_assign rfl) rfl (J_done ?_)
  refine S_block ?_
  refine S_loop (fun (k : Nat) => [(0, vxs), (2, .slice none 0 0), (3, .slice (some ⟨b1, 0, none⟩) xs.length xs.length), (4, .int .i64 ((k : Nat) : Int))]) (fun (k : Nat) w' => Ext w w' ∧ w1.heap.size ≤ w'.heap.size ∧ k ≤ xs.length ∧ Blk w' b1 (mk xs [.int .i64 0, .int .i64 0, .bool false] k xs.length)) (fun (k : Nat) => xs.length - k) 0 ⟨rfl, rfl, rfl, rfl, trivial⟩ ⟨E, Nat.le_refl _, Nat.zero_le _, (mk_zero xs [.int .i64 0, .int .i64 0, .bool false] xs.length) ▸ h1⟩ ?_
  clear E h1
  rintro k w2 ⟨E, z2, hk, h1⟩
  refine S_seq ?_
  refine S_seq ?_
  refine S_reg [true, true, true, true] rfl rfl ?_
  refine J_st (R_move rfl) rfl (J_st (R_move rfl) rfl (J_st (R_len Try.underlying28 rfl (hxs.ext E).len) rfl (J_st (R_lss rfl rfl) rfl (J_done ?_))))
  refine S_cond rfl (fun hc1 => ?_) (fun hc1 => ?_)
  · have hc1n : k < xs.length := by first | (have h := of_decide_eq_true hc1; omega) | (have h := hc1; simp at h; omega)
    refine S_skip ?_
    refine S_seq ?_
    refine S_block ?_
    refine S_reg [true, true, true, true, true, true, false, true, false] rfl rfl ?_
    refine J_st (R_move rfl) rfl (J_st (R_move rfl) rfl (J_st (R_move rfl) rfl (J_st (R_move rfl) rfl ?_)))
    have hi1 : k < xs.length := (by first | assumption | omega)
    refine J_st (R_index (i := k) sl28 rfl rfl (hxs.ext E) hi1) rfl (J_st (R_loadS st105 rfl ((hxs.ext E).get hi1) rfl) rfl ?_)
    refine J_call Try.call44 rfl (c_toNews (xs[k]'hi1) _ ) rfl (fun _ w3 e2 hv => ?_)
    subst hv
    replace E := E.trans e2; replace h1 := h1.ext e2
    have z3 := e2.size
    refine J_st (R_indexB sl39 rfl rfl (by first | assumption | omega)) rfl ?_
    refine J_storeS' (cs' := mk xs [.int .i64 0, .int .i64 0, .bool false] (k + 1) xs.length) st67 rfl rfl rfl rfl h1 (mk_room xs [.int .i64 0, .int .i64 0, .bool false] rfl hc1n hc1n (by rfl)) (mk_step xs [.int .i64 0, .int .i64 0, .bool false] rfl hc1n hc1n) (fun w4 m1 h1' => ?_)
    replace h1 := h1'
    replace E := E.step m1 (fun g hg => by cases hg; omega)
    have z4 := m1.size
    refine J_done ?_
    refine S_nil (E_inB ?_)
    refine S_reg [true, true, true] rfl rfl ?_
    refine J_st (R_move rfl) rfl (J_st (R_add rfl rfl (add_one hc1n hxs.1)) rfl (J_st (R_assign rfl) rfl (J_done ?_)))
    refine S_nil (E_again (k + 1) (by omega) ⟨rfl, rfl, rfl, rfl, trivial⟩ ⟨E, (by omega), (by omega), h1⟩)
  · have hc1n : ¬ k < xs.length := by first | (have h := of_decide_eq_false hc1; omega) | (have h := hc1; simp at h; omega)
    refine S_exit (E_lp_exit (E_inB_exit ?_))
    refine S_seq ?_
    refine S_reg [true, true] rfl rfl ?_
    refine J_st (R_move rfl) rfl (J_st (R_assign rfl) rfl (J_done ?_))
    refine S_ret (E_done1 rfl rfl E ?_)
    obtain rfl : k = xs.length := by omega
    rw [mk_all] at h1
    exact Own.ofBlk h1 (by omega) (by have := h1.lt; omega) (sum_flat xs) hxs.1

set_option maxRecDepth 20000 in
theorem c_eqNewsS (vxs : Value) (xs : List News) (vys : Value) (ys : List News) (w : World) (hxs : RdS w vxs xs) (hys : RdS w vys ys) : Ct Try.prog 33 [vxs, vys] w (fun v _ => v = .bool (decide (xs = ys))) := by
  refine ct_of Try.func33 rfl Try.ntmps33 rfl ?_
  refine S_sub [(0, vxs), (1, vys)] ⟨rfl, rfl, trivial⟩ ?_
  have E : Ext w w := Ext.refl w
  refine S_seq ?_
  refine S_reg [true] rfl rfl ?_
  refine J_st (R_assign rfl) rfl (J_done ?_)
  refine S_seq ?_
  refine S_seq ?_
  refine S_reg [true, true, true, true, true] rfl rfl ?_
  refine J_st (R_move rfl) rfl (J_st (R_len Try.underlying39 rfl (hxs.ext E).len) rfl (J_st (R_move rfl) rfl (J_st (R_len Try.underlying39 rfl (hys.ext E).len) rfl (J_st (R_neq rfl rfl) rfl (J_done ?_)))))
  refine S_cond rfl (fun hc1 => ?_) (fun hc1 => ?_)
  · have hc1n : ¬ xs.length = ys.length := by first | (have h := of_decide_eq_true hc1; omega) | (have h := hc1; simp at h; omega)
    refine S_seq ?_
    refine S_reg [true] rfl rfl ?_
    refine J_st (R_assign rfl) rfl (J_done ?_)
    refine S_ret (E_done1 rfl rfl E ?_)
    simp [eq_len hc1n]
  · have hc1n : xs.length = ys.length := by first | (have h := of_decide_eq_false hc1; omega) | (have h := hc1; simp at h; omega)
    refine S_skip ?_
    refine S_seq ?_
    refine S_seq ?_
    refine S_reg [true] rfl rfl ?_
    refine J_st (R_assign rfl) rfl (J_done ?_)
    refine S_block ?_
    refine S_loop (fun (k : Nat) => [(0, vxs), (1, vys), (4, .bool false), (5, .int .i64 ((k : Nat) : Int))]) (fun (k : Nat) w' => Ext w w' ∧ w.heap.size ≤ w'.heap.size ∧ k ≤ xs.length ∧ xs.take k = ys.take k) (fun (k : Nat) => xs.length - k) 0 ⟨rfl, rfl, rfl, rfl, trivial⟩ ⟨E, Nat.le_refl _, Nat.zero_le _, rfl⟩ ?_
    clear E
    rintro k w1 ⟨E, z1, hk, hp⟩
    refine S_seq ?_
    refine S_seq ?_
    refine S_reg [true, true, true, true] rfl rfl ?_
    refine J_st (R_move rfl) rfl (J_st (R_move rfl) rfl (J_st (R_len Try.underlying39 rfl (hxs.ext E).len) rfl (J_st (R_lss rfl rfl) rfl (J_done ?_))))
    refine S_cond rfl (fun hc2 => ?_) (fun hc2 => ?_)
    · have hc2n : k < xs.length := by first | (have h := of_decide_eq_true hc2; omega) | (have h := hc2; simp at h; omega)
      refine S_skip ?_
      refine S_seq ?_
      refine S_block ?_
      refine S_seq ?_
      refine S_regD mixed [(0, true), (1, true), (2, true), (3, true), (4, true), (5, true), (6, true), (7, true), (8, false), (9, true)] (by decide +kernel) rfl (fun w2 e1 => ?_)
      replace E := E.trans e1
      have z2 := e1.size
      refine J_st (R_move rfl) rfl (J_st (R_move rfl) rfl ?_)
      have hi1 : k < xs.length := (by first | assumption | omega)
      refine J_st (R_index (i := k) sl39 rfl rfl (hxs.ext E) hi1) rfl (J_st (R_loadS st67 rfl ((hxs.ext E).get hi1) rfl) rfl (J_st (R_move rfl) rfl (J_st (R_move rfl) rfl ?_)))
      have hi2 : k < ys.length := (by first | assumption | omega)
      refine J_st (R_index (i := k) sl39 rfl rfl (hys.ext E) hi2) rfl (J_st (R_loadS st67 rfl ((hys.ext E).get hi2) rfl) rfl ?_)
      refine J_call Try.call55 rfl (c_eqNews (xs[k]'hi1) (ys[k]'hi2) _ ) rfl (fun _ w3 e2 hv => ?_)
      subst hv
      replace E := E.trans e2
      have z3 := e2.size
      refine J_st (R_not rfl) rfl (J_done ?_)
      refine S_cond rfl (fun hc3 => ?_) (fun hc3 => ?_)
      · refine S_seq ?_
        refine S_reg [true] rfl rfl ?_
        refine J_st (R_assign rfl) rfl (J_done ?_)
        refine S_ret (E_inB_ret (E_lp_ret (E_inB_ret (E_done1 rfl rfl E ?_))))
        exact eqS_no (by omega) (by omega) (by simpa using hc3)
      · refine S_skip ?_
        refine S_nil (E_inB ?_)
        refine S_reg [true, true, true] rfl rfl ?_
        refine J_st (R_move rfl) rfl (J_st (R_add rfl rfl (add_one hc2n hxs.1)) rfl (J_st (R_assign rfl) rfl (J_done ?_)))
        refine S_nil (E_again (k + 1) (by omega) ⟨rfl, rfl, rfl, rfl, trivial⟩ ⟨E, (by omega), (by omega), eqS_step hp (by assumption) (by omega) (by simpa using hc3)⟩)
    · have hc2n : ¬ k < xs.length := by first | (have h := of_decide_eq_false hc2; omega) | (have h := hc2; simp at h; omega)
      refine S_exit (E_lp_exit (E_inB_exit ?_))
      refine S_seq ?_
      refine S_reg [true] rfl rfl ?_
      refine J_st (R_assign rfl) rfl (J_done ?_)
      refine S_ret (E_done1 rfl rfl E ?_)
      exact eqS_yes hp hc1n (by omega)

set_option maxRecDepth 20000 in
theorem c_szLink (cx : List Value) (x : Link) (n : Int) (w : World) (hx : Dat.R w 0 w.heap.size cx x) (h0 : 0 ≤ n ∧ n ≤ 1048576) : Ct Try.prog 36 [.agg cx.toArray, .int .i64 n] w (fun v _ => v = .int .i64 (szM (cntLink x) n)) := by
  refine ct_of Try.func36 rfl Try.ntmps36 rfl ?_
  obtain ⟨o1, rfl, hd1⟩ := Link.op hx
  refine S_sub [(0, .agg [.int .i64 x.cap, o1, .int .i64 x.credits, .int .i64 x.back, .int .i64 x.sent, .int .i64 x.got].toArray), (1, .int .i64 n)] ⟨rfl, rfl, trivial⟩ ?_
  have E : Ext w w := Ext.refl w
  refine S_seq ?_
  refine S_reg [false, true] rfl rfl ?_
  refine J_box rfl rfl (fun b1 w1 e1 s1 h1 => ?_)
  have g_b1 : w.heap.size ≤ b1 := by have := E.size; omega
  have y_b1 := h1.lt
  replace E := E.trans e1
  have z1 := e1.size
  refine J_st (R_assign rfl) rfl (J_done ?_)
  refine S_seq ?_
  refine S_reg [true, true, true, false, true] rfl rfl ?_
  refine J_st (R_fieldAddr0 fl87_1 rfl) rfl (J_st (R_load sc80 rfl (h1.one 1 rfl)) rfl (J_st (R_move rfl) rfl ?_))
  refine J_call Try.call57 rfl (c_szRecordS o1 x.queue n _ (hd1.rd.ext E) (by first | omega | (simp only [mkL_length]; omega) | (rw [mkL_length]))) rfl (fun _ w2 e2 hv => ?_)
  subst hv
  replace E := E.trans e2; replace h1 := h1.ext e2
  have z2 := e2.size
  refine J_st (R_assign rfl) rfl (J_done ?_)
  refine S_seq ?_
  refine S_seq ?_
  refine S_reg [true, true] rfl rfl ?_
  refine J_st (R_move rfl) rfl (J_st (R_lss rfl rfl) rfl (J_done ?_))
  refine S_cond rfl (fun hc1 => ?_) (fun hc1 => ?_)
  · have q1 := szM_no hc1 (by omega)
    refine S_seq ?_
    refine S_reg [true] rfl rfl ?_
    refine J_st (R_assign rfl) rfl (J_done ?_)
    refine S_ret (E_done1 rfl rfl E ?_)
    first | exact sz_neg (by unfold cntLink; omega) | exact sz_fin (by unfold cntLink; omega) (by unfold cntLink; omega)
  · have q2 := szM_ok hc1 (by omega)
    refine S_skip ?_
    refine S_seq ?_
    refine S_reg [true, true] rfl rfl ?_
    refine J_st (R_move rfl) rfl (J_st (R_assign rfl) rfl (J_done ?_))
    refine S_ret (E_done1 rfl rfl E ?_)
    first | exact sz_neg (by unfold cntLink; omega) | exact sz_fin (by unfold cntLink; omega) (by unfold cntLink; omega)

set_option maxRecDepth 20000 in
theorem c_toLink (cx : List Value) (x : Link) (w : World) (hx : Dat.R w 0 w.heap.size cx x) (hb : cntLink x ≤ 1048576) : Ct Try.prog 42 [.agg cx.toArray] w (fun v w' => ∃ cs, v = .agg cs.toArray ∧ Own1.O w' w.heap.size w'.heap.size cs x) := by
  unfold cntLink at hb
  refine ct_of Try.func42 rfl Try.ntmps42 rfl ?_
  obtain ⟨o1, rfl, hd1⟩ := Link.op hx
  refine S_sub [(0, .agg [.int .i64 x.cap, o1, .int .i64 x.credits, .int .i64 x.back, .int .i64 x.sent, .int .i64 x.got].toArray)] ⟨rfl, trivial⟩ ?_
  have E : Ext w w := Ext.refl w
  refine S_seq ?_
  refine S_reg [false, false] rfl rfl ?_
  refine J_box rfl rfl (fun b1 w1 e1 s1 h1 => ?_)
  have g_b1 : w.heap.size ≤ b1 := by have := E.size; omega
  have y_b1 := h1.lt
  replace E := E.trans e1
  have z1 := e1.size
  refine J_alloc st60 rfl (fun b2 w2 e2 s2 h2 => ?_)
  have g_b2 : w.heap.size ≤ b2 := by have := E.size; omega
  have y_b2 := h2.lt
  replace E := E.trans e2; replace h1 := h1.ext e2
  have z2 := e2.size
  refine J_done ?_
  refine S_seq ?_
  refine S_reg [false] rfl rfl ?_
  refine J_alloc st60 rfl (fun b3 w3 e3 s3 h3 => ?_)
  have g_b3 : w.heap.size ≤ b3 := by have := E.size; omega
  have y_b3 := h3.lt
  replace E := E.trans e3; replace h1 := h1.ext e3; replace h2 := h2.ext e3
  have z3 := e3.size
  refine J_done ?_
  refine S_seq ?_
  refine S_reg [true, true, true, false] rfl rfl ?_
  refine J_st (R_fieldAddr0 fl87_0 rfl) rfl (J_st (R_load sc3 rfl (h1.one 0 rfl)) rfl (J_st (R_fieldAddr0 fl60_0 rfl) rfl ?_))
  refine J_store' (cs' := [.int .i64 x.cap, .slice none 0 0, .int .i64 0, .int .i64 0, .int .i64 0, .int .i64 0]) sc3 rfl rfl rfl h3 (Nat.le_of_ble_eq_true rfl) rfl (fun w4 m1 h3' => ?_)
  replace h3 := h3'
  replace E := E.step m1 (fun g hg => by cases hg; omega); replace h1 := h1.mod m1 (fun g hg => by cases hg; omega); replace h2 := h2.mod m1 (fun g hg => by cases hg; omega)
  have z4 := m1.size
  refine J_done ?_
  refine S_seq ?_
  refine S_reg [true, true, false, true, false] rfl rfl ?_
  refine J_st (R_fieldAddr0 fl87_1 rfl) rfl (J_st (R_load sc80 rfl (h1.one 1 rfl)) rfl ?_)
  refine J_call Try.call65 rfl (c_toRecordS o1 x.queue _ (hd1.rd.ext E) (by first | omega | (simp only [mkL_length]; omega) | (rw [mkL_length]))) rfl (fun v1 w5 e4 ho1 => ?_)
  have g_ho1 : w.heap.size ≤ w4.heap.size := E.size
  replace E := E.trans e4; replace h1 := h1.ext e4; replace h2 := h2.ext e4; replace h3 := h3.ext e4
  have z5 := e4.size
  refine J_st (R_fieldAddr0 fl60_1 rfl) rfl ?_
  refine J_store' (cs' := [.int .i64 x.cap, v1, .int .i64 0, .int .i64 0, .int .i64 0, .int .i64 0]) sc52 rfl rfl ho1.one h3 (Nat.le_of_ble_eq_true rfl) rfl (fun w6 m2 h3' => ?_)
  replace h3 := h3'
  replace E := E.step m2 (fun g hg => by cases hg; omega); replace h1 := h1.mod m2 (fun g hg => by cases hg; omega); replace h2 := h2.mod m2 (fun g hg => by cases hg; omega); replace ho1 := ho1.mod m2 (fun g hg => by cases hg; omega)
  have z6 := m2.size
  refine J_done ?_
  refine S_seq ?_
  refine S_reg [true, true, true, false] rfl rfl ?_
  refine J_st (R_fieldAddr0 fl87_2 rfl) rfl (J_st (R_load sc3 rfl (h1.one 2 rfl)) rfl (J_st (R_fieldAddr0 fl60_2 rfl) rfl ?_))
  refine J_store' (cs' := [.int .i64 x.cap, v1, .int .i64 x.credits, .int .i64 0, .int .i64 0, .int .i64 0]) sc3 rfl rfl rfl h3 (Nat.le_of_ble_eq_true rfl) rfl (fun w7 m3 h3' => ?_)
  replace h3 := h3'
  replace E := E.step m3 (fun g hg => by cases hg; omega); replace h1 := h1.mod m3 (fun g hg => by cases hg; omega); replace h2 := h2.mod m3 (fun g hg => by cases hg; omega); replace ho1 := ho1.mod m3 (fun g hg => by cases hg; omega)
  have z7 := m3.size
  refine J_done ?_
  refine S_seq ?_
  refine S_reg [true, true, true, false] rfl rfl ?_
  refine J_st (R_fieldAddr0 fl87_3 rfl) rfl (J_st (R_load sc3 rfl (h1.one 3 rfl)) rfl (J_st (R_fieldAddr0 fl60_3 rfl) rfl ?_))
  refine J_store' (cs' := [.int .i64 x.cap, v1, .int .i64 x.credits, .int .i64 x.back, .int .i64 0, .int .i64 0]) sc3 rfl rfl rfl h3 (Nat.le_of_ble_eq_true rfl) rfl (fun w8 m4 h3' => ?_)
  replace h3 := h3'
  replace E := E.step m4 (fun g hg => by cases hg; omega); replace h1 := h1.mod m4 (fun g hg => by cases hg; omega); replace h2 := h2.mod m4 (fun g hg => by cases hg; omega); replace ho1 := ho1.mod m4 (fun g hg => by cases hg; omega)
  have z8 := m4.size
  refine J_done ?_
  refine S_seq ?_
  refine S_reg [true, true, true, false] rfl rfl ?_
  refine J_st (R_fieldAddr0 fl87_4 rfl) rfl (J_st (R_load sc3 rfl (h1.one 4 rfl)) rfl (J_st (R_fieldAddr0 fl60_4 rfl) rfl ?_))
  refine J_store' (cs' := [.int .i64 x.cap, v1, .int .i64 x.credits, .int .i64 x.back, .int .i64 x.sent, .int .i64 0]) sc3 rfl rfl rfl h3 (Nat.le_of_ble_eq_true rfl) rfl (fun w9 m5 h3' => ?_)
  replace h3 := h3'
  replace E := E.step m5 (fun g hg => by cases hg; omega); replace h1 := h1.mod m5 (fun g hg => by cases hg; omega); replace h2 := h2.mod m5 (fun g hg => by cases hg; omega); replace ho1 := ho1.mod m5 (fun g hg => by cases hg; omega)
  have z9 := m5.size
  refine J_done ?_
  refine S_seq ?_
  refine S_reg [true, true, true, false] rfl rfl ?_
  refine J_st (R_fieldAddr0 fl87_5 rfl) rfl (J_st (R_load sc3 rfl (h1.one 5 rfl)) rfl (J_st (R_fieldAddr0 fl60_5 rfl) rfl ?_))
  refine J_store' (cs' := [.int .i64 x.cap, v1, .int .i64 x.credits, .int .i64 x.back, .int .i64 x.sent, .int .i64 x.got]) sc3 rfl rfl rfl h3 (Nat.le_of_ble_eq_true rfl) rfl (fun w10 m6 h3' => ?_)
  replace h3 := h3'
  replace E := E.step m6 (fun g hg => by cases hg; omega); replace h1 := h1.mod m6 (fun g hg => by cases hg; omega); replace h2 := h2.mod m6 (fun g hg => by cases hg; omega); replace ho1 := ho1.mod m6 (fun g hg => by cases hg; omega)
  have z10 := m6.size
  refine J_done ?_
  refine S_seq ?_
  refine S_reg [true, false] rfl rfl ?_
  refine J_st (R_loadS st60 rfl h3.at rfl) rfl ?_
  refine J_storeS' (cs' := [.int .i64 x.cap, v1, .int .i64 x.credits, .int .i64 x.back, .int .i64 x.sent, .int .i64 x.got]) st60 rfl rfl rfl (all_cons rfl (all_cons ho1.one (all_cons rfl (all_cons rfl (all_cons rfl (all_cons rfl rfl)))))) h2 (Nat.le_of_ble_eq_true rfl) rfl (fun w11 m7 h2' => ?_)
  replace h2 := h2'
  replace E := E.step m7 (fun g hg => by cases hg; omega); replace h1 := h1.mod m7 (fun g hg => by cases hg; omega); replace h3 := h3.mod m7 (fun g hg => by cases hg; omega); replace ho1 := ho1.mod m7 (fun g hg => by cases hg; omega)
  have z11 := m7.size
  refine J_done ?_
  refine S_ret (E_doneC rfl rfl (run_loadVar_st st60 h2.at rfl) E ?_)
  exact ⟨_, rfl, Link.mkO x ⟨trivial, trivial⟩ (Own.widen ho1 (by omega) (by omega))⟩

set_option maxRecDepth 20000 in
theorem c_eqLink (cx : List Value) (x : Link) (cy : List Value) (y : Link) (w : World) (hx : Dat.R w 0 w.heap.size cx x) (hy : Dat.R w 0 w.heap.size cy y) : Ct Try.prog 53 [.agg cx.toArray, .agg cy.toArray] w (fun v _ => v = .bool (decide (x = y))) := by
  refine ct_of Try.func53 rfl Try.ntmps53 rfl ?_
  obtain ⟨o1, rfl, hd1⟩ := Link.op hx
  obtain ⟨o2, rfl, hd2⟩ := Link.op hy
  refine S_sub [(0, .agg [.int .i64 x.cap, o1, .int .i64 x.credits, .int .i64 x.back, .int .i64 x.sent, .int .i64 x.got].toArray), (1, .agg [.int .i64 y.cap, o2, .int .i64 y.credits, .int .i64 y.back, .int .i64 y.sent, .int .i64 y.got].toArray)] ⟨rfl, rfl, trivial⟩ ?_
  have E : Ext w w := Ext.refl w
  refine S_seq ?_
  refine S_reg [false, false, true] rfl rfl ?_
  refine J_box rfl rfl (fun b1 w1 e1 s1 h1 => ?_)
  have g_b1 : w.heap.size ≤ b1 := by have := E.size; omega
  have y_b1 := h1.lt
  replace E := E.trans e1
  have z1 := e1.size
  refine J_box rfl rfl (fun b2 w2 e2 s2 h2 => ?_)
  have g_b2 : w.heap.size ≤ b2 := by have := E.size; omega
  have y_b2 := h2.lt
  replace E := E.trans e2; replace h1 := h1.ext e2
  have z2 := e2.size
  refine J_st (R_assign rfl) rfl (J_done ?_)
  refine S_seq ?_
  refine S_seq ?_
  refine S_reg [true, true, true, true, true] rfl rfl ?_
  refine J_st (R_fieldAddr0 fl60_0 rfl) rfl (J_st (R_load sc3 rfl (h1.one 0 rfl)) rfl (J_st (R_fieldAddr0 fl60_0 rfl) rfl (J_st (R_load sc3 rfl (h2.one 0 rfl)) rfl (J_st (R_neq rfl rfl) rfl (J_done ?_)))))
  refine S_cond rfl (fun hc1 => ?_) (fun hc1 => ?_)
  · refine S_seq ?_
    refine S_reg [true] rfl rfl ?_
    refine J_st (R_assign rfl) rfl (J_done ?_)
    refine S_ret (E_done1 rfl rfl E ?_)
    cases x; cases y; simp_all
  · refine S_skip ?_
    refine S_seq ?_
    refine S_seq ?_
    refine S_reg [true, true, true, true, false, true] rfl rfl ?_
    refine J_st (R_fieldAddr0 fl60_1 rfl) rfl (J_st (R_load sc52 rfl (h1.one 1 rfl)) rfl (J_st (R_fieldAddr0 fl60_1 rfl) rfl (J_st (R_load sc52 rfl (h2.one 1 rfl)) rfl ?_)))
    refine J_call Try.call76 rfl (c_eqRecordS o1 x.queue o2 y.queue _ (hd1.rd.ext E) (hd2.rd.ext E)) rfl (fun _ w3 e3 hv => ?_)
    subst hv
    replace E := E.trans e3; replace h1 := h1.ext e3; replace h2 := h2.ext e3
    have z3 := e3.size
    refine J_st (R_not rfl) rfl (J_done ?_)
    refine S_cond rfl (fun hc2 => ?_) (fun hc2 => ?_)
    · refine S_seq ?_
      refine S_reg [true] rfl rfl ?_
      refine J_st (R_assign rfl) rfl (J_done ?_)
      refine S_ret (E_done1 rfl rfl E ?_)
      cases x; cases y; simp_all
    · refine S_skip ?_
      refine S_seq ?_
      refine S_seq ?_
      refine S_reg [true, true, true, true, true] rfl rfl ?_
      refine J_st (R_fieldAddr0 fl60_2 rfl) rfl (J_st (R_load sc3 rfl (h1.one 2 rfl)) rfl (J_st (R_fieldAddr0 fl60_2 rfl) rfl (J_st (R_load sc3 rfl (h2.one 2 rfl)) rfl (J_st (R_neq rfl rfl) rfl (J_done ?_)))))
      refine S_cond rfl (fun hc3 => ?_) (fun hc3 => ?_)
      · refine S_seq ?_
        refine S_reg [true] rfl rfl ?_
        refine J_st (R_assign rfl) rfl (J_done ?_)
        refine S_ret (E_done1 rfl rfl E ?_)
        cases x; cases y; simp_all
      · refine S_skip ?_
        refine S_seq ?_
        refine S_seq ?_
        refine S_reg [true, true, true, true, true] rfl rfl ?_
        refine J_st (R_fieldAddr0 fl60_3 rfl) rfl (J_st (R_load sc3 rfl (h1.one 3 rfl)) rfl (J_st (R_fieldAddr0 fl60_3 rfl) rfl (J_st (R_load sc3 rfl (h2.one 3 rfl)) rfl (J_st (R_neq rfl rfl) rfl (J_done ?_)))))
        refine S_cond rfl (fun hc4 => ?_) (fun hc4 => ?_)
        · refine S_seq ?_
          refine S_reg [true] rfl rfl ?_
          refine J_st (R_assign rfl) rfl (J_done ?_)
          refine S_ret (E_done1 rfl rfl E ?_)
          cases x; cases y; simp_all
        · refine S_skip ?_
          refine S_seq ?_
          refine S_seq ?_
          refine S_reg [true, true, true, true, true] rfl rfl ?_
          refine J_st (R_fieldAddr0 fl60_4 rfl) rfl (J_st (R_load sc3 rfl (h1.one 4 rfl)) rfl (J_st (R_fieldAddr0 fl60_4 rfl) rfl (J_st (R_load sc3 rfl (h2.one 4 rfl)) rfl (J_st (R_neq rfl rfl) rfl (J_done ?_)))))
          refine S_cond rfl (fun hc5 => ?_) (fun hc5 => ?_)
          · refine S_seq ?_
            refine S_reg [true] rfl rfl ?_
            refine J_st (R_assign rfl) rfl (J_done ?_)
            refine S_ret (E_done1 rfl rfl E ?_)
            cases x; cases y; simp_all
          · refine S_skip ?_
            refine S_seq ?_
            refine S_seq ?_
            refine S_reg [true, true, true, true, true] rfl rfl ?_
            refine J_st (R_fieldAddr0 fl60_5 rfl) rfl (J_st (R_load sc3 rfl (h1.one 5 rfl)) rfl (J_st (R_fieldAddr0 fl60_5 rfl) rfl (J_st (R_load sc3 rfl (h2.one 5 rfl)) rfl (J_st (R_neq rfl rfl) rfl (J_done ?_)))))
            refine S_cond rfl (fun hc6 => ?_) (fun hc6 => ?_)
            · refine S_seq ?_
              refine S_reg [true] rfl rfl ?_
              refine J_st (R_assign rfl) rfl (J_done ?_)
              refine S_ret (E_done1 rfl rfl E ?_)
              cases x; cases y; simp_all
            · refine S_skip ?_
              refine S_seq ?_
              refine S_reg [true] rfl rfl ?_
              refine J_st (R_assign rfl) rfl (J_done ?_)
              refine S_ret (E_done1 rfl rfl E ?_)
              cases x; cases y; simp_all

set_option maxRecDepth 20000 in
theorem c_szLinkS (vxs : Value) (xs : List Link) (n : Int) (w : World) (hxs : RdD w 0 w.heap.size vxs xs) (h0 : 0 ≤ n ∧ n ≤ 1048576) : Ct Try.prog 11 [vxs, .int .i64 n] w (fun v _ => v = .int .i64 (szM (cntL cntLink xs) n)) := by
  have hlm := hxs.1.1
  unfold maxLen at hlm
  refine ct_of Try.func11 rfl Try.ntmps11 rfl ?_
  refine S_sub [(0, vxs), (1, .int .i64 n)] ⟨rfl, rfl, trivial⟩ ?_
  have E : Ext w w := Ext.refl w
  refine S_seq ?_
  refine S_reg [true] rfl rfl ?_
  refine J_st (R_assign rfl) rfl (J_done ?_)
  refine S_seq ?_
  refine S_reg [true, true, true, true, true] rfl rfl ?_
  refine J_st (R_move rfl) rfl (J_st (R_move rfl) rfl (J_st (R_len Try.underlying26 rfl (hxs.ext E).len) rfl (J_st (R_sub rfl rfl (wrap_in (by omega) (by omega))) rfl (J_st (R_assign rfl) rfl (J_done ?_)))))
  refine S_seq ?_
  refine S_seq ?_
  refine S_reg [true, true] rfl rfl ?_
  refine J_st (R_move rfl) rfl (J_st (R_lss rfl rfl) rfl (J_done ?_))
  refine S_cond rfl (fun hc1 => ?_) (fun hc1 => ?_)
  · refine S_seq ?_
    refine S_reg [true] rfl rfl ?_
    refine J_st (R_assign rfl) rfl (J_done ?_)
    refine S_ret (E_done1 rfl rfl E ?_)
    exact sz_neg (by have := of_decide_eq_true hc1; unfold cntL; omega)
  · refine S_skip ?_
    refine S_seq ?_
    refine S_seq ?_
    refine S_reg [true] rfl rfl ?_
    refine J_st (R_assign rfl) rfl (J_done ?_)
    refine S_block ?_
    refine S_loop (fun (xq : Nat × Int) => let ⟨k, l⟩ := xq; [(0, vxs), (1, .int .i64 l), (4, .int .i64 0), (5, .int .i64 ((k : Nat) : Int))]) (fun (xq : Nat × Int) w' => let ⟨k, l⟩ := xq; Ext w w' ∧ w.heap.size ≤ w'.heap.size ∧ k ≤ xs.length ∧ 0 ≤ l ∧ l ≤ 1048576 ∧ l = n - ((xs.length : Nat) : Int) - ((((xs.take k).map cntLink).sum : Nat) : Int)) (fun (xq : Nat × Int) => let ⟨k, l⟩ := xq; xs.length - k) (0, n - ((xs.length : Nat) : Int)) ⟨rfl, rfl, rfl, rfl, trivial⟩ ⟨E, Nat.le_refl _, Nat.zero_le _, (by have := of_decide_eq_false hc1; simp; omega)⟩ ?_
    clear E
    rintro ⟨k, l⟩ w1 ⟨E, z1, hk, hl⟩
    refine S_sub [(0, vxs), (1, .int .i64 l), (4, .int .i64 0), (5, .int .i64 ((k : Nat) : Int))] ⟨rfl, rfl, rfl, rfl, trivial⟩ ?_
    refine S_seq ?_
    refine S_seq ?_
    refine S_reg [true, true, true, true] rfl rfl ?_
    refine J_st (R_move rfl) rfl (J_st (R_move rfl) rfl (J_st (R_len Try.underlying26 rfl (hxs.ext E).len) rfl (J_st (R_lss rfl rfl) rfl (J_done ?_))))
    refine S_cond rfl (fun hc2 => ?_) (fun hc2 => ?_)
    · have hc2n : k < xs.length := by first | (have h := of_decide_eq_true hc2; omega) | (have h := hc2; simp at h; omega)
      refine S_skip ?_
      refine S_seq ?_
      refine S_block ?_
      refine S_seq ?_
      refine S_reg [true, true, true, true, true, false, true] rfl rfl ?_
      refine J_st (R_move rfl) rfl (J_st (R_move rfl) rfl ?_)
      have hi1 : k < xs.length := (by first | assumption | omega)
      obtain ⟨_, hr1, ha1⟩ := RdD.get hxs hi1
      obtain ⟨o1, rfl, hd1⟩ := Link.op hr1
      replace ha1 : At w (sblk vxs) (soff vxs + k * 6) [.int .i64 ((xs[k]'hi1).cap), o1, .int .i64 ((xs[k]'hi1).credits), .int .i64 ((xs[k]'hi1).back), .int .i64 ((xs[k]'hi1).sent), .int .i64 ((xs[k]'hi1).got)] := ha1
      refine J_st (R_index (i := k) sl26 rfl rfl (hxs.ext E).1 hi1) rfl (J_st (R_loadS st87 rfl (ha1.ext E) rfl) rfl (J_st (R_move rfl) rfl ?_))
      refine J_call Try.call36 rfl (c_szLink [.int .i64 ((xs[k]'hi1).cap), o1, .int .i64 ((xs[k]'hi1).credits), .int .i64 ((xs[k]'hi1).back), .int .i64 ((xs[k]'hi1).sent), .int .i64 ((xs[k]'hi1).got)] (xs[k]'hi1) l _ (Link.mkR (xs[k]'hi1) (RdD.any (hd1.ext E))) (by first | omega | (simp only [mkL_length]; omega) | (rw [mkL_length]))) rfl (fun _ w2 e1 hv => ?_)
      subst hv
      replace E := E.trans e1
      have z2 := e1.size
      refine J_st (R_assign rfl) rfl (J_done ?_)
      refine S_seq ?_
      refine S_reg [true, true] rfl rfl ?_
      refine J_st (R_move rfl) rfl (J_st (R_lss rfl rfl) rfl (J_done ?_))
      refine S_cond rfl (fun hc3 => ?_) (fun hc3 => ?_)
      · have q1 := szM_no hc3 (by omega)
        refine S_seq ?_
        refine S_reg [true] rfl rfl ?_
        refine J_st (R_assign rfl) rfl (J_done ?_)
        refine S_ret (E_inB_ret (E_lp_ret (E_inB_ret (E_done1 rfl rfl E ?_))))
        exact sz_neg (by have := sum_le (f := cntLink) (show k < xs.length by omega); unfold cntL; omega)
      · have q2 := szM_ok hc3 (by omega)
        refine S_skip ?_
        refine S_nil (E_inB ?_)
        refine S_reg [true, true, true] rfl rfl ?_
        refine J_st (R_move rfl) rfl (J_st (R_add rfl rfl (add_one hc2n (hxs.ext E).1.1)) rfl (J_st (R_assign rfl) rfl (J_done ?_)))
        refine S_nil (E_again (k + 1, szM (cntLink (xs[k]'hi1)) l) (by simp; omega) ⟨rfl, rfl, rfl, rfl, trivial⟩ ⟨E, (by omega), (by omega), (by have := sum_step (f := cntLink) (show k < xs.length by omega); omega)⟩)
    · have hc2n : ¬ k < xs.length := by first | (have h := of_decide_eq_false hc2; omega) | (have h := hc2; simp at h; omega)
      refine S_exit (E_lp_exit (E_inB_exit ?_))
      refine S_seq ?_
      refine S_reg [true, true] rfl rfl ?_
      refine J_st (R_move rfl) rfl (J_st (R_assign rfl) rfl (J_done ?_))
      refine S_ret (E_done1 rfl rfl E ?_)
      have := sum_all (f := cntLink) (show xs.length ≤ k by omega); exact sz_fin (by unfold cntL; omega) (by unfold cntL; omega)

set_option maxRecDepth 20000 in
theorem c_toLinkS (vxs : Value) (xs : List Link) (w : World) (hxs : RdD w 0 w.heap.size vxs xs) (hb : cntL cntLink xs ≤ 1048576) : Ct Try.prog 21 [vxs] w (fun v w' => OwS (α := Link) w' w.heap.size w'.heap.size v xs) := by
  unfold cntL at hb
  refine ct_of Try.func21 rfl Try.ntmps21 rfl ?_
  refine S_sub [(0, vxs)] ⟨rfl, trivial⟩ ?_
  have E : Ext w w := Ext.refl w
  refine S_seq ?_
  refine S_reg [true] rfl rfl ?_
  refine J_st (R_assign rfl) rfl (J_done ?_)
  refine S_seq ?_
  refine S_reg [true, true, false, true] rfl rfl ?_
  refine J_st (R_move rfl) rfl (J_st (R_len Try.underlying26 rfl (hxs.ext E).len) rfl ?_)
  refine J_make (m := xs.length) sl37 rfl rfl (by omega) (by decide) rfl (fun b1 w1 e1 s1 h1 => ?_)
  have g_b1 : w.heap.size ≤ b1 := by have := E.size; omega
  have y_b1 := h1.lt
  replace E := E.trans e1
  have z1 := e1.size
  refine J_st (R_assign rfl) rfl (J_done ?_)
  refine S_seq ?_
  refine S_seq ?_
  refine S_reg [true] rfl rfl ?_
  refine J_st (R_assign rfl) rfl (J_done ?_)
  refine S_block ?_
  refine S_loop (fun (xq : Nat × List (List Value)) => let ⟨k, css⟩ := xq; [(0, vxs), (2, .slice none 0 0), (3, .slice (some ⟨b1, 0, none⟩) xs.length xs.length), (4, .int .i64 ((k : Nat) : Int))]) (fun (xq : Nat × List (List Value)) w' => let ⟨k, css⟩ := xq; Ext w w' ∧ w1.heap.size ≤ w'.heap.size ∧ k ≤ xs.length ∧ css.length = k ∧ Blk w' b1 (mkc css [.int .i64 0, .slice none 0 0, .int .i64 0, .int .i64 0, .int .i64 0, .int .i64 0] (xs.length - k)) ∧ AllO w' w1.heap.size w'.heap.size css (xs.take k)) (fun (xq : Nat × List (List Value)) => let ⟨k, css⟩ := xq; xs.length - k) (0, []) ⟨rfl, rfl, rfl, rfl, trivial⟩ ⟨E, Nat.le_refl _, Nat.zero_le _, rfl, (by simpa [mkc] using h1), (by simp [AllO, All2])⟩ ?_
  clear E h1
  rintro ⟨k, css⟩ w2 ⟨E, z2, hk, hlk, h1, hA⟩
  refine S_sub [(0, vxs), (2, .slice none 0 0), (3, .slice (some ⟨b1, 0, none⟩) xs.length xs.length), (4, .int .i64 ((k : Nat) : Int))] ⟨rfl, rfl, rfl, rfl, trivial⟩ ?_
  refine S_seq ?_
  refine S_seq ?_
  refine S_reg [true, true, true, true] rfl rfl ?_
  refine J_st (R_move rfl) rfl (J_st (R_move rfl) rfl (J_st (R_len Try.underlying26 rfl (hxs.ext E).len) rfl (J_st (R_lss rfl rfl) rfl (J_done ?_))))
  refine S_cond rfl (fun hc1 => ?_) (fun hc1 => ?_)
  · have hc1n : k < xs.length := by first | (have h := of_decide_eq_true hc1; omega) | (have h := hc1; simp at h; omega)
    refine S_skip ?_
    refine S_seq ?_
    refine S_block ?_
    refine S_reg [true, true, true, true, true, true, false, true, false] rfl rfl ?_
    refine J_st (R_move rfl) rfl (J_st (R_move rfl) rfl (J_st (R_move rfl) rfl (J_st (R_move rfl) rfl ?_)))
    have hi1 : k < xs.length := (by first | assumption | omega)
    obtain ⟨_, hr1, ha1⟩ := RdD.get hxs hi1
    obtain ⟨o1, rfl, hd1⟩ := Link.op hr1
    replace ha1 : At w (sblk vxs) (soff vxs + k * 6) [.int .i64 ((xs[k]'hi1).cap), o1, .int .i64 ((xs[k]'hi1).credits), .int .i64 ((xs[k]'hi1).back), .int .i64 ((xs[k]'hi1).sent), .int .i64 ((xs[k]'hi1).got)] := ha1
    refine J_st (R_index (i := k) sl26 rfl rfl (hxs.ext E).1 hi1) rfl (J_st (R_loadS st87 rfl (ha1.ext E) rfl) rfl ?_)
    refine J_call Try.call42 rfl (c_toLink [.int .i64 ((xs[k]'hi1).cap), o1, .int .i64 ((xs[k]'hi1).credits), .int .i64 ((xs[k]'hi1).back), .int .i64 ((xs[k]'hi1).sent), .int .i64 ((xs[k]'hi1).got)] (xs[k]'hi1) _ (Link.mkR (xs[k]'hi1) (RdD.any (hd1.ext E))) (by have := sum_le (f := cntLink) (show k < xs.length by omega); omega)) rfl (fun _ w3 e2 ho1 => ?_)
    obtain ⟨_, rfl, ho1⟩ := ho1
    have g_ho1 : w.heap.size ≤ w2.heap.size := E.size
    replace E := E.trans e2; replace h1 := h1.ext e2; replace hA := hA.ext e2
    have z3 := e2.size
    obtain ⟨o2, rfl, sp1, hw1⟩ := Link.opO ho1
    refine J_st (R_indexB sl37 rfl rfl (by first | assumption | omega)) rfl ?_
    refine J_storeS' (cs' := mkc (css ++ [[.int .i64 ((xs[k]'hi1).cap), o2, .int .i64 ((xs[k]'hi1).credits), .int .i64 ((xs[k]'hi1).back), .int .i64 ((xs[k]'hi1).sent), .int .i64 ((xs[k]'hi1).got)]]) [.int .i64 0, .slice none 0 0, .int .i64 0, .int .i64 0, .int .i64 0, .int .i64 0] (xs.length - (k + 1))) st60 rfl rfl rfl (all_cons rfl (all_cons hw1.one (all_cons rfl (all_cons rfl (all_cons rfl (all_cons rfl rfl)))))) h1 (mkc_room hA.d hlk rfl hc1n (by rfl)) (mkc_step hA.d hlk rfl hc1n rfl) (fun w4 m1 h1' => ?_)
    replace h1 := h1'
    replace E := E.step m1 (fun g hg => by cases hg; omega); replace hA := hA.mod m1 (fun g hg => by cases hg; omega); replace hw1 := hw1.mod m1 (fun g hg => by cases hg; omega)
    have z4 := m1.size
    refine J_done ?_
    refine S_nil (E_inB ?_)
    refine S_reg [true, true, true] rfl rfl ?_
    refine J_st (R_move rfl) rfl (J_st (R_add rfl rfl (add_one hc1n (hxs.ext E).1.1)) rfl (J_st (R_assign rfl) rfl (J_done ?_)))
    refine S_nil (E_again (k + 1, css ++ [[.int .i64 ((xs[k]'hi1).cap), o2, .int .i64 ((xs[k]'hi1).credits), .int .i64 ((xs[k]'hi1).back), .int .i64 ((xs[k]'hi1).sent), .int .i64 ((xs[k]'hi1).got)]]) (by simp; omega) ⟨rfl, rfl, rfl, rfl, trivial⟩ ⟨E, (by omega), (by omega), (by simp [hlk]), h1, (AllO.widen (AllO.step hA hc1n (Link.mkO (xs[k]'hi1) sp1 (Own.widen hw1 (by omega) (by omega))) (Nat.le_refl _) (Nat.le_refl _) (by omega) (by omega)) (Nat.le_refl _) (by omega))⟩)
  · have hc1n : ¬ k < xs.length := by first | (have h := of_decide_eq_false hc1; omega) | (have h := hc1; simp at h; omega)
    refine S_exit (E_lp_exit (E_inB_exit ?_))
    refine S_seq ?_
    refine S_reg [true, true] rfl rfl ?_
    refine J_st (R_move rfl) rfl (J_st (R_assign rfl) rfl (J_done ?_))
    refine S_ret (E_done1 rfl rfl E ?_)
    obtain rfl : k = xs.length := by omega
    rw [Nat.sub_self, mkc_all] at h1
    rw [List.take_length] at hA
    exact OwS.ofBlk h1 hA (by have := E.size; omega) (by omega) (by have := E.size; omega) (by omega) (by omega) rfl (by unfold maxLen; omega)

set_option maxRecDepth 20000 in
theorem c_eqLinkS (vxs : Value) (xs : List Link) (vys : Value) (ys : List Link) (w : World) (hxs : RdD w 0 w.heap.size vxs xs) (hys : RdD w 0 w.heap.size vys ys) : Ct Try.prog 31 [vxs, vys] w (fun v _ => v = .bool (decide (xs = ys))) := by
  refine ct_of Try.func31 rfl Try.ntmps31 rfl ?_
  refine S_sub [(0, vxs), (1, vys)] ⟨rfl, rfl, trivial⟩ ?_
  have E : Ext w w := Ext.refl w
  refine S_seq ?_
  refine S_reg [true] rfl rfl ?_
  refine J_st (R_assign rfl) rfl (J_done ?_)
  refine S_seq ?_
  refine S_seq ?_
  refine S_reg [true, true, true, true, true] rfl rfl ?_
  refine J_st (R_move rfl) rfl (J_st (R_len Try.underlying37 rfl (hxs.ext E).len) rfl (J_st (R_move rfl) rfl (J_st (R_len Try.underlying37 rfl (hys.ext E).len) rfl (J_st (R_neq rfl rfl) rfl (J_done ?_)))))
  refine S_cond rfl (fun hc1 => ?_) (fun hc1 => ?_)
  · have hc1n : ¬ xs.length = ys.length := by first | (have h := of_decide_eq_true hc1; omega) | (have h := hc1; simp at h; omega)
    refine S_seq ?_
    refine S_reg [true] rfl rfl ?_
    refine J_st (R_assign rfl) rfl (J_done ?_)
    refine S_ret (E_done1 rfl rfl E ?_)
    simp [eq_len hc1n]
  · have hc1n : xs.length = ys.length := by first | (have h := of_decide_eq_false hc1; omega) | (have h := hc1; simp at h; omega)
    refine S_skip ?_
    refine S_seq ?_
    refine S_seq ?_
    refine S_reg [true] rfl rfl ?_
    refine J_st (R_assign rfl) rfl (J_done ?_)
    refine S_block ?_
    refine S_loop (fun (k : Nat) => [(0, vxs), (1, vys), (4, .bool false), (5, .int .i64 ((k : Nat) : Int))]) (fun (k : Nat) w' => Ext w w' ∧ w.heap.size ≤ w'.heap.size ∧ k ≤ xs.length ∧ xs.take k = ys.take k) (fun (k : Nat) => xs.length - k) 0 ⟨rfl, rfl, rfl, rfl, trivial⟩ ⟨E, Nat.le_refl _, Nat.zero_le _, rfl⟩ ?_
    clear E
    rintro k w1 ⟨E, z1, hk, hp⟩
    refine S_seq ?_
    refine S_seq ?_
    refine S_reg [true, true, true, true] rfl rfl ?_
    refine J_st (R_move rfl) rfl (J_st (R_move rfl) rfl (J_st (R_len Try.underlying37 rfl (hxs.ext E).len) rfl (J_st (R_lss rfl rfl) rfl (J_done ?_))))
    refine S_cond rfl (fun hc2 => ?_) (fun hc2 => ?_)
    · have hc2n : k < xs.length := by first | (have h := of_decide_eq_true hc2; omega) | (have h := hc2; simp at h; omega)
      refine S_skip ?_
      refine S_seq ?_
      refine S_block ?_
      refine S_seq ?_
      refine S_regD mixed [(0, true), (1, true), (2, true), (3, true), (4, true), (5, true), (6, true), (7, true), (8, false), (9, true)] (by decide +kernel) rfl (fun w2 e1 => ?_)
      replace E := E.trans e1
      have z2 := e1.size
      refine J_st (R_move rfl) rfl (J_st (R_move rfl) rfl ?_)
      have hi1 : k < xs.length := (by first | assumption | omega)
      obtain ⟨_, hr1, ha1⟩ := RdD.get hxs hi1
      obtain ⟨o1, rfl, hd1⟩ := Link.op hr1
      replace ha1 : At w (sblk vxs) (soff vxs + k * 6) [.int .i64 ((xs[k]'hi1).cap), o1, .int .i64 ((xs[k]'hi1).credits), .int .i64 ((xs[k]'hi1).back), .int .i64 ((xs[k]'hi1).sent), .int .i64 ((xs[k]'hi1).got)] := ha1
      refine J_st (R_index (i := k) sl37 rfl rfl (hxs.ext E).1 hi1) rfl (J_st (R_loadS st60 rfl (ha1.ext E) rfl) rfl (J_st (R_move rfl) rfl (J_st (R_move rfl) rfl ?_)))
      have hi2 : k < ys.length := (by first | assumption | omega)
      obtain ⟨_, hr2, ha2⟩ := RdD.get hys hi2
      obtain ⟨o2, rfl, hd2⟩ := Link.op hr2
      replace ha2 : At w (sblk vys) (soff vys + k * 6) [.int .i64 ((ys[k]'hi2).cap), o2, .int .i64 ((ys[k]'hi2).credits), .int .i64 ((ys[k]'hi2).back), .int .i64 ((ys[k]'hi2).sent), .int .i64 ((ys[k]'hi2).got)] := ha2
      refine J_st (R_index (i := k) sl37 rfl rfl (hys.ext E).1 hi2) rfl (J_st (R_loadS st60 rfl (ha2.ext E) rfl) rfl ?_)
      refine J_call Try.call53 rfl (c_eqLink [.int .i64 ((xs[k]'hi1).cap), o1, .int .i64 ((xs[k]'hi1).credits), .int .i64 ((xs[k]'hi1).back), .int .i64 ((xs[k]'hi1).sent), .int .i64 ((xs[k]'hi1).got)] (xs[k]'hi1) [.int .i64 ((ys[k]'hi2).cap), o2, .int .i64 ((ys[k]'hi2).credits), .int .i64 ((ys[k]'hi2).back), .int .i64 ((ys[k]'hi2).sent), .int .i64 ((ys[k]'hi2).got)] (ys[k]'hi2) _ (Link.mkR (xs[k]'hi1) (RdD.any (hd1.ext E))) (Link.mkR (ys[k]'hi2) (RdD.any (hd2.ext E)))) rfl (fun _ w3 e2 hv => ?_)
      subst hv
      replace E := E.trans e2
      have z3 := e2.size
      refine J_st (R_not rfl) rfl (J_done ?_)
      refine S_cond rfl (fun hc3 => ?_) (fun hc3 => ?_)
      · refine S_seq ?_
        refine S_reg [true] rfl rfl ?_
        refine J_st (R_assign rfl) rfl (J_done ?_)
        refine S_ret (E_inB_ret (E_lp_ret (E_inB_ret (E_done1 rfl rfl E ?_))))
        exact eqS_no (by omega) (by omega) (by simpa using hc3)
      · refine S_skip ?_
        refine S_nil (E_inB ?_)
        refine S_reg [true, true, true] rfl rfl ?_
        refine J_st (R_move rfl) rfl (J_st (R_add rfl rfl (add_one hc2n (hxs.ext E).1.1)) rfl (J_st (R_assign rfl) rfl (J_done ?_)))
        refine S_nil (E_again (k + 1) (by omega) ⟨rfl, rfl, rfl, rfl, trivial⟩ ⟨E, (by omega), (by omega), eqS_step hp (by assumption) (by omega) (by simpa using hc3)⟩)
    · have hc2n : ¬ k < xs.length := by first | (have h := of_decide_eq_false hc2; omega) | (have h := hc2; simp at h; omega)
      refine S_exit (E_lp_exit (E_inB_exit ?_))
      refine S_seq ?_
      refine S_reg [true] rfl rfl ?_
      refine J_st (R_assign rfl) rfl (J_done ?_)
      refine S_ret (E_done1 rfl rfl E ?_)
      exact eqS_yes hp hc1n (by omega)

set_option maxRecDepth 20000 in
theorem c_szWorkerS (vxs : Value) (xs : List Worker) (n : Int) (w : World) (hxs : RdD w 0 w.heap.size vxs xs) (h0 : 0 ≤ n ∧ n ≤ 1048576) : Ct Try.prog 10 [vxs, .int .i64 n] w (fun v _ => v = .int .i64 (szM (cntL cntWorker xs) n)) := by
  have hlm := hxs.1.1
  unfold maxLen at hlm
  refine ct_of Try.func10 rfl Try.ntmps10 rfl ?_
  refine S_sub [(0, vxs), (1, .int .i64 n)] ⟨rfl, rfl, trivial⟩ ?_
  have E : Ext w w := Ext.refl w
  refine S_seq ?_
  refine S_reg [true] rfl rfl ?_
  refine J_st (R_assign rfl) rfl (J_done ?_)
  refine S_seq ?_
  refine S_reg [true, true, true, true, true] rfl rfl ?_
  refine J_st (R_move rfl) rfl (J_st (R_move rfl) rfl (J_st (R_len Try.underlying25 rfl (hxs.ext E).len) rfl (J_st (R_sub rfl rfl (wrap_in (by omega) (by omega))) rfl (J_st (R_assign rfl) rfl (J_done ?_)))))
  refine S_seq ?_
  refine S_seq ?_
  refine S_reg [true, true] rfl rfl ?_
  refine J_st (R_move rfl) rfl (J_st (R_lss rfl rfl) rfl (J_done ?_))
  refine S_cond rfl (fun hc1 => ?_) (fun hc1 => ?_)
  · refine S_seq ?_
    refine S_reg [true] rfl rfl ?_
    refine J_st (R_assign rfl) rfl (J_done ?_)
    refine S_ret (E_done1 rfl rfl E ?_)
    exact sz_neg (by have := of_decide_eq_true hc1; unfold cntL; omega)
  · refine S_skip ?_
    refine S_seq ?_
    refine S_seq ?_
    refine S_reg [true] rfl rfl ?_
    refine J_st (R_assign rfl) rfl (J_done ?_)
    refine S_block ?_
    refine S_loop (fun (xq : Nat × Int) => let ⟨k, l⟩ := xq; [(0, vxs), (1, .int .i64 l), (4, .int .i64 0), (5, .int .i64 ((k : Nat) : Int))]) (fun (xq : Nat × Int) w' => let ⟨k, l⟩ := xq; Ext w w' ∧ w.heap.size ≤ w'.heap.size ∧ k ≤ xs.length ∧ 0 ≤ l ∧ l ≤ 1048576 ∧ l = n - ((xs.length : Nat) : Int) - ((((xs.take k).map cntWorker).sum : Nat) : Int)) (fun (xq : Nat × Int) => let ⟨k, l⟩ := xq; xs.length - k) (0, n - ((xs.length : Nat) : Int)) ⟨rfl, rfl, rfl, rfl, trivial⟩ ⟨E, Nat.le_refl _, Nat.zero_le _, (by have := of_decide_eq_false hc1; simp; omega)⟩ ?_
    clear E
    rintro ⟨k, l⟩ w1 ⟨E, z1, hk, hl⟩
    refine S_sub [(0, vxs), (1, .int .i64 l), (4, .int .i64 0), (5, .int .i64 ((k : Nat) : Int))] ⟨rfl, rfl, rfl, rfl, trivial⟩ ?_
    refine S_seq ?_
    refine S_seq ?_
    refine S_reg [true, true, true, true] rfl rfl ?_
    refine J_st (R_move rfl) rfl (J_st (R_move rfl) rfl (J_st (R_len Try.underlying25 rfl (hxs.ext E).len) rfl (J_st (R_lss rfl rfl) rfl (J_done ?_))))
    refine S_cond rfl (fun hc2 => ?_) (fun hc2 => ?_)
    · have hc2n : k < xs.length := by first | (have h := of_decide_eq_true hc2; omega) | (have h := hc2; simp at h; omega)
      refine S_skip ?_
      refine S_seq ?_
      refine S_block ?_
      refine S_seq ?_
      refine S_reg [true, true, true, true, true, false, true] rfl rfl ?_
      refine J_st (R_move rfl) rfl (J_st (R_move rfl) rfl ?_)
      have hi1 : k < xs.length := (by first | assumption | omega)
      obtain ⟨_, hr1, ha1⟩ := RdD.get hxs hi1
      obtain ⟨o1, o2, o3, o4, o5, o6, o7, o8, rfl, hd1, hd2, hd3, hd4, hd5, hd6, hd7, hd8⟩ := Worker.op hr1
      replace ha1 : At w (sblk vxs) (soff vxs + k * 8) [o1, o2, o3, o4, o5, o6, o7, o8] := ha1
      refine J_st (R_index (i := k) sl25 rfl rfl (hxs.ext E).1 hi1) rfl (J_st (R_loadS st84 rfl (ha1.ext E) rfl) rfl (J_st (R_move rfl) rfl ?_))
      refine J_call Try.call35 rfl (c_szWorker [o1, o2, o3, o4, o5, o6, o7, o8] (xs[k]'hi1) l _ (Worker.mkR (xs[k]'hi1) (RdD.any (hd1.ext E)) (RdD.any (hd2.ext E)) (RdD.any (hd3.ext E)) (RdD.any (hd4.ext E)) (RdD.any (hd5.ext E)) (RdD.any (hd6.ext E)) (RdD.any (hd7.ext E)) (RdD.any (hd8.ext E))) (by first | omega | (simp only [mkL_length]; omega) | (rw [mkL_length]))) rfl (fun _ w2 e1 hv => ?_)
      subst hv
      replace E := E.trans e1
      have z2 := e1.size
      refine J_st (R_assign rfl) rfl (J_done ?_)
      refine S_seq ?_
      refine S_reg [true, true] rfl rfl ?_
      refine J_st (R_move rfl) rfl (J_st (R_lss rfl rfl) rfl (J_done ?_))
      refine S_cond rfl (fun hc3 => ?_) (fun hc3 => ?_)
      · have q1 := szM_no hc3 (by omega)
        refine S_seq ?_
        refine S_reg [true] rfl rfl ?_
        refine J_st (R_assign rfl) rfl (J_done ?_)
        refine S_ret (E_inB_ret (E_lp_ret (E_inB_ret (E_done1 rfl rfl E ?_))))
        exact sz_neg (by have := sum_le (f := cntWorker) (show k < xs.length by omega); unfold cntL; omega)
      · have q2 := szM_ok hc3 (by omega)
        refine S_skip ?_
        refine S_nil (E_inB ?_)
        refine S_reg [true, true, true] rfl rfl ?_
        refine J_st (R_move rfl) rfl (J_st (R_add rfl rfl (add_one hc2n (hxs.ext E).1.1)) rfl (J_st (R_assign rfl) rfl (J_done ?_)))
        refine S_nil (E_again (k + 1, szM (cntWorker (xs[k]'hi1)) l) (by simp; omega) ⟨rfl, rfl, rfl, rfl, trivial⟩ ⟨E, (by omega), (by omega), (by have := sum_step (f := cntWorker) (show k < xs.length by omega); omega)⟩)
    · have hc2n : ¬ k < xs.length := by first | (have h := of_decide_eq_false hc2; omega) | (have h := hc2; simp at h; omega)
      refine S_exit (E_lp_exit (E_inB_exit ?_))
      refine S_seq ?_
      refine S_reg [true, true] rfl rfl ?_
      refine J_st (R_move rfl) rfl (J_st (R_assign rfl) rfl (J_done ?_))
      refine S_ret (E_done1 rfl rfl E ?_)
      have := sum_all (f := cntWorker) (show xs.length ≤ k by omega); exact sz_fin (by unfold cntL; omega) (by unfold cntL; omega)

set_option maxRecDepth 20000 in
theorem c_toWorkerS (vxs : Value) (xs : List Worker) (w : World) (hxs : RdD w 0 w.heap.size vxs xs) (hb : cntL cntWorker xs ≤ 1048576) : Ct Try.prog 20 [vxs] w (fun v w' => OwS (α := Worker) w' w.heap.size w'.heap.size v xs) := by
  unfold cntL at hb
  refine ct_of Try.func20 rfl Try.ntmps20 rfl ?_
  refine S_sub [(0, vxs)] ⟨rfl, trivial⟩ ?_
  have E : Ext w w := Ext.refl w
  refine S_seq ?_
  refine S_reg [true] rfl rfl ?_
  refine J_st (R_assign rfl) rfl (J_done ?_)
  refine S_seq ?_
  refine S_reg [true, true, false, true] rfl rfl ?_
  refine J_st (R_move rfl) rfl (J_st (R_len Try.underlying25 rfl (hxs.ext E).len) rfl ?_)
  refine J_make (m := xs.length) sl36 rfl rfl (by omega) (by decide) rfl (fun b1 w1 e1 s1 h1 => ?_)
  have g_b1 : w.heap.size ≤ b1 := by have := E.size; omega
  have y_b1 := h1.lt
  replace E := E.trans e1
  have z1 := e1.size
  refine J_st (R_assign rfl) rfl (J_done ?_)
  refine S_seq ?_
  refine S_seq ?_
  refine S_reg [true] rfl rfl ?_
  refine J_st (R_assign rfl) rfl (J_done ?_)
  refine S_block ?_
  refine S_loop (fun (xq : Nat × List (List Value)) => let ⟨k, css⟩ := xq; [(0, vxs), (2, .slice none 0 0), (3, .slice (some ⟨b1, 0, none⟩) xs.length xs.length), (4, .int .i64 ((k : Nat) : Int))]) (fun (xq : Nat × List (List Value)) w' => let ⟨k, css⟩ := xq; Ext w w' ∧ w1.heap.size ≤ w'.heap.size ∧ k ≤ xs.length ∧ css.length = k ∧ Blk w' b1 (mkc css [.slice none 0 0, .slice none 0 0, .slice none 0 0, .slice none 0 0, .slice none 0 0, .slice none 0 0, .slice none 0 0, .slice none 0 0] (xs.length - k)) ∧ AllO w' w1.heap.size w'.heap.size css (xs.take k)) (fun (xq : Nat × List (List Value)) => let ⟨k, css⟩ := xq; xs.length - k) (0, []) ⟨rfl, rfl, rfl, rfl, trivial⟩ ⟨E, Nat.le_refl _, Nat.zero_le _, rfl, (by simpa [mkc] using h1), (by simp [AllO, All2])⟩ ?_
  clear E h1
  rintro ⟨k, css⟩ w2 ⟨E, z2, hk, hlk, h1, hA⟩
  refine S_sub [(0, vxs), (2, .slice none 0 0), (3, .slice (some ⟨b1, 0, none⟩) xs.length xs.length), (4, .int .i64 ((k : Nat) : Int))] ⟨rfl, rfl, rfl, rfl, trivial⟩ ?_
  refine S_seq ?_
  refine S_seq ?_
  refine S_reg [true, true, true, true] rfl rfl ?_
  refine J_st (R_move rfl) rfl (J_st (R_move rfl) rfl (J_st (R_len Try.underlying25 rfl (hxs.ext E).len) rfl (J_st (R_lss rfl rfl) rfl (J_done ?_))))
  refine S_cond rfl (fun hc1 => ?_) (fun hc1 => ?_)
  · have hc1n : k < xs.length := by first | (have h := of_decide_eq_true hc1; omega) | (have h := hc1; simp at h; omega)
    refine S_skip ?_
    refine S_seq ?_
    refine S_block ?_
    refine S_reg [true, true, true, true, true, true, false, true, false] rfl rfl ?_
    refine J_st (R_move rfl) rfl (J_st (R_move rfl) rfl (J_st (R_move rfl) rfl (J_st (R_move rfl) rfl ?_)))
    have hi1 : k < xs.length := (by first | assumption | omega)
    obtain ⟨_, hr1, ha1⟩ := RdD.get hxs hi1
    obtain ⟨o1, o2, o3, o4, o5, o6, o7, o8, rfl, hd1, hd2, hd3, hd4, hd5, hd6, hd7, hd8⟩ := Worker.op hr1
    replace ha1 : At w (sblk vxs) (soff vxs + k * 8) [o1, o2, o3, o4, o5, o6, o7, o8] := ha1
    refine J_st (R_index (i := k) sl25 rfl rfl (hxs.ext E).1 hi1) rfl (J_st (R_loadS st84 rfl (ha1.ext E) rfl) rfl ?_)
    refine J_call Try.call41 rfl (c_toWorker [o1, o2, o3, o4, o5, o6, o7, o8] (xs[k]'hi1) _ (Worker.mkR (xs[k]'hi1) (RdD.any (hd1.ext E)) (RdD.any (hd2.ext E)) (RdD.any (hd3.ext E)) (RdD.any (hd4.ext E)) (RdD.any (hd5.ext E)) (RdD.any (hd6.ext E)) (RdD.any (hd7.ext E)) (RdD.any (hd8.ext E))) (by have := sum_le (f := cntWorker) (show k < xs.length by omega); omega)) rfl (fun _ w3 e2 ho1 => ?_)
    obtain ⟨_, rfl, ho1⟩ := ho1
    have g_ho1 : w.heap.size ≤ w2.heap.size := E.size
    replace E := E.trans e2; replace h1 := h1.ext e2; replace hA := hA.ext e2
    have z3 := e2.size
    obtain ⟨o9, o10, o11, o12, o13, o14, o15, o16, rfl, sp1, hw1, hw2, hw3, hw4, hw5, hw6, hw7, hw8⟩ := Worker.opO ho1
    refine J_st (R_indexB sl36 rfl rfl (by first | assumption | omega)) rfl ?_
    refine J_storeS' (cs' := mkc (css ++ [[o9, o10, o11, o12, o13, o14, o15, o16]]) [.slice none 0 0, .slice none 0 0, .slice none 0 0, .slice none 0 0, .slice none 0 0, .slice none 0 0, .slice none 0 0, .slice none 0 0] (xs.length - (k + 1))) st58 rfl rfl rfl (all_cons hw1.one (all_cons hw2.one (all_cons hw3.one (all_cons hw4.one (all_cons hw5.one (all_cons hw6.one (all_cons hw7.one (all_cons hw8.one rfl)))))))) h1 (mkc_room hA.d hlk rfl hc1n (by rfl)) (mkc_step hA.d hlk rfl hc1n rfl) (fun w4 m1 h1' => ?_)
    replace h1 := h1'
    replace E := E.step m1 (fun g hg => by cases hg; omega); replace hA := hA.mod m1 (fun g hg => by cases hg; omega); replace hw1 := hw1.mod m1 (fun g hg => by cases hg; omega); replace hw2 := hw2.mod m1 (fun g hg => by cases hg; omega); replace hw3 := hw3.mod m1 (fun g hg => by cases hg; omega); replace hw4 := hw4.mod m1 (fun g hg => by cases hg; omega); replace hw5 := hw5.mod m1 (fun g hg => by cases hg; omega); replace hw6 := hw6.mod m1 (fun g hg => by cases hg; omega); replace hw7 := hw7.mod m1 (fun g hg => by cases hg; omega); replace hw8 := hw8.mod m1 (fun g hg => by cases hg; omega)
    have z4 := m1.size
    refine J_done ?_
    refine S_nil (E_inB ?_)
    refine S_reg [true, true, true] rfl rfl ?_
    refine J_st (R_move rfl) rfl (J_st (R_add rfl rfl (add_one hc1n (hxs.ext E).1.1)) rfl (J_st (R_assign rfl) rfl (J_done ?_)))
    refine S_nil (E_again (k + 1, css ++ [[o9, o10, o11, o12, o13, o14, o15, o16]]) (by simp; omega) ⟨rfl, rfl, rfl, rfl, trivial⟩ ⟨E, (by omega), (by omega), (by simp [hlk]), h1, (AllO.widen (AllO.step hA hc1n (Worker.mkO (xs[k]'hi1) sp1 (Own.widen hw1 (by omega) (by omega)) (Own.widen hw2 (by omega) (by omega)) (Own.widen hw3 (by omega) (by omega)) (Own.widen hw4 (by omega) (by omega)) (Own.widen hw5 (by omega) (by omega)) (Own.widen hw6 (by omega) (by omega)) (Own.widen hw7 (by omega) (by omega)) (Own.widen hw8 (by omega) (by omega))) (Nat.le_refl _) (Nat.le_refl _) (by omega) (by omega)) (Nat.le_refl _) (by omega))⟩)
  · have hc1n : ¬ k < xs.length := by first | (have h := of_decide_eq_false hc1; omega) | (have h := hc1; simp at h; omega)
    refine S_exit (E_lp_exit (E_inB_exit ?_))
    refine S_seq ?_
    refine S_reg [true, true] rfl rfl ?_
    refine J_st (R_move rfl) rfl (J_st (R_assign rfl) rfl (J_done ?_))
    refine S_ret (E_done1 rfl rfl E ?_)
    obtain rfl : k = xs.length := by omega
    rw [Nat.sub_self, mkc_all] at h1
    rw [List.take_length] at hA
    exact OwS.ofBlk h1 hA (by have := E.size; omega) (by omega) (by have := E.size; omega) (by omega) (by omega) rfl (by unfold maxLen; omega)

set_option maxRecDepth 20000 in
theorem c_eqWorkerS (vxs : Value) (xs : List Worker) (vys : Value) (ys : List Worker) (w : World) (hxs : RdD w 0 w.heap.size vxs xs) (hys : RdD w 0 w.heap.size vys ys) : Ct Try.prog 30 [vxs, vys] w (fun v _ => v = .bool (decide (xs = ys))) := by
  refine ct_of Try.func30 rfl Try.ntmps30 rfl ?_
  refine S_sub [(0, vxs), (1, vys)] ⟨rfl, rfl, trivial⟩ ?_
  have E : Ext w w := Ext.refl w
  refine S_seq ?_
  refine S_reg [true] rfl rfl ?_
  refine J_st (R_assign rfl) rfl (J_done ?_)
  refine S_seq ?_
  refine S_seq ?_
  refine S_reg [true, true, true, true, true] rfl rfl ?_
  refine J_st (R_move rfl) rfl (J_st (R_len Try.underlying36 rfl (hxs.ext E).len) rfl (J_st (R_move rfl) rfl (J_st (R_len Try.underlying36 rfl (hys.ext E).len) rfl (J_st (R_neq rfl rfl) rfl (J_done ?_)))))
  refine S_cond rfl (fun hc1 => ?_) (fun hc1 => ?_)
  · have hc1n : ¬ xs.length = ys.length := by first | (have h := of_decide_eq_true hc1; omega) | (have h := hc1; simp at h; omega)
    refine S_seq ?_
    refine S_reg [true] rfl rfl ?_
    refine J_st (R_assign rfl) rfl (J_done ?_)
    refine S_ret (E_done1 rfl rfl E ?_)
    simp [eq_len hc1n]
  · have hc1n : xs.length = ys.length := by first | (have h := of_decide_eq_false hc1; omega) | (have h := hc1; simp at h; omega)
    refine S_skip ?_
    refine S_seq ?_
    refine S_seq ?_
    refine S_reg [true] rfl rfl ?_
    refine J_st (R_assign rfl) rfl (J_done ?_)
    refine S_block ?_
    refine S_loop (fun (k : Nat) => [(0, vxs), (1, vys), (4, .bool false), (5, .int .i64 ((k : Nat) : Int))]) (fun (k : Nat) w' => Ext w w' ∧ w.heap.size ≤ w'.heap.size ∧ k ≤ xs.length ∧ xs.take k = ys.take k) (fun (k : Nat) => xs.length - k) 0 ⟨rfl, rfl, rfl, rfl, trivial⟩ ⟨E, Nat.le_refl _, Nat.zero_le _, rfl⟩ ?_
    clear E
    rintro k w1 ⟨E, z1, hk, hp⟩
    refine S_seq ?_
    refine S_seq ?_
    refine S_reg [true, true, true, true] rfl rfl ?_
    refine J_st (R_move rfl) rfl (J_st (R_move rfl) rfl (J_st (R_len Try.underlying36 rfl (hxs.ext E).len) rfl (J_st (R_lss rfl rfl) rfl (J_done ?_))))
    refine S_cond rfl (fun hc2 => ?_) (fun hc2 => ?_)
    · have hc2n : k < xs.length := by first | (have h := of_decide_eq_true hc2; omega) | (have h := hc2; simp at h; omega)
      refine S_skip ?_
      refine S_seq ?_
      refine S_block ?_
      refine S_seq ?_
      refine S_regD mixed [(0, true), (1, true), (2, true), (3, true), (4, true), (5, true), (6, true), (7, true), (8, false), (9, true)] (by decide +kernel) rfl (fun w2 e1 => ?_)
      replace E := E.trans e1
      have z2 := e1.size
      refine J_st (R_move rfl) rfl (J_st (R_move rfl) rfl ?_)
      have hi1 : k < xs.length := (by first | assumption | omega)
      obtain ⟨_, hr1, ha1⟩ := RdD.get hxs hi1
      obtain ⟨o1, o2, o3, o4, o5, o6, o7, o8, rfl, hd1, hd2, hd3, hd4, hd5, hd6, hd7, hd8⟩ := Worker.op hr1
      replace ha1 : At w (sblk vxs) (soff vxs + k * 8) [o1, o2, o3, o4, o5, o6, o7, o8] := ha1
      refine J_st (R_index (i := k) sl36 rfl rfl (hxs.ext E).1 hi1) rfl (J_st (R_loadS st58 rfl (ha1.ext E) rfl) rfl (J_st (R_move rfl) rfl (J_st (R_move rfl) rfl ?_)))
      have hi2 : k < ys.length := (by first | assumption | omega)
      obtain ⟨_, hr2, ha2⟩ := RdD.get hys hi2
      obtain ⟨o9, o10, o11, o12, o13, o14, o15, o16, rfl, hd9, hd10, hd11, hd12, hd13, hd14, hd15, hd16⟩ := Worker.op hr2
      replace ha2 : At w (sblk vys) (soff vys + k * 8) [o9, o10, o11, o12, o13, o14, o15, o16] := ha2
      refine J_st (R_index (i := k) sl36 rfl rfl (hys.ext E).1 hi2) rfl (J_st (R_loadS st58 rfl (ha2.ext E) rfl) rfl ?_)
      refine J_call Try.call52 rfl (c_eqWorker [o1, o2, o3, o4, o5, o6, o7, o8] (xs[k]'hi1) [o9, o10, o11, o12, o13, o14, o15, o16] (ys[k]'hi2) _ (Worker.mkR (xs[k]'hi1) (RdD.any (hd1.ext E)) (RdD.any (hd2.ext E)) (RdD.any (hd3.ext E)) (RdD.any (hd4.ext E)) (RdD.any (hd5.ext E)) (RdD.any (hd6.ext E)) (RdD.any (hd7.ext E)) (RdD.any (hd8.ext E))) (Worker.mkR (ys[k]'hi2) (RdD.any (hd9.ext E)) (RdD.any (hd10.ext E)) (RdD.any (hd11.ext E)) (RdD.any (hd12.ext E)) (RdD.any (hd13.ext E)) (RdD.any (hd14.ext E)) (RdD.any (hd15.ext E)) (RdD.any (hd16.ext E)))) rfl (fun _ w3 e2 hv => ?_)
      subst hv
      replace E := E.trans e2
      have z3 := e2.size
      refine J_st (R_not rfl) rfl (J_done ?_)
      refine S_cond rfl (fun hc3 => ?_) (fun hc3 => ?_)
      · refine S_seq ?_
        refine S_reg [true] rfl rfl ?_
        refine J_st (R_assign rfl) rfl (J_done ?_)
        refine S_ret (E_inB_ret (E_lp_ret (E_inB_ret (E_done1 rfl rfl E ?_))))
        exact eqS_no (by omega) (by omega) (by simpa using hc3)
      · refine S_skip ?_
        refine S_nil (E_inB ?_)
        refine S_reg [true, true, true] rfl rfl ?_
        refine J_st (R_move rfl) rfl (J_st (R_add rfl rfl (add_one hc2n (hxs.ext E).1.1)) rfl (J_st (R_assign rfl) rfl (J_done ?_)))
        refine S_nil (E_again (k + 1) (by omega) ⟨rfl, rfl, rfl, rfl, trivial⟩ ⟨E, (by omega), (by omega), eqS_step hp (by assumption) (by omega) (by simpa using hc3)⟩)
    · have hc2n : ¬ k < xs.length := by first | (have h := of_decide_eq_false hc2; omega) | (have h := hc2; simp at h; omega)
      refine S_exit (E_lp_exit (E_inB_exit ?_))
      refine S_seq ?_
      refine S_reg [true] rfl rfl ?_
      refine J_st (R_assign rfl) rfl (J_done ?_)
      refine S_ret (E_done1 rfl rfl E ?_)
      exact eqS_yes hp hc1n (by omega)

set_option maxHeartbeats 4000000 in
set_option maxRecDepth 20000 in
theorem c_szCluster (cx : List Value) (x : Cluster) (n : Int) (w : World) (hx : Dat.R w 0 w.heap.size cx x) (h0 : 0 ≤ n ∧ n ≤ 1048576) : Ct Try.prog 4 [.agg cx.toArray, .int .i64 n] w (fun v _ => v = .int .i64 (szM (cntCluster x) n)) := by
  refine ct_of Try.func4 rfl Try.ntmps4 rfl ?_
  obtain ⟨o1, o2, o3, o4, o5, rfl, hd1, hd2, hd3, hd4, hd5⟩ := Cluster.op hx
  refine S_sub [(0, .agg [o1, .int .i64 x.graph.workers, .int .i64 x.graph.cap, o2, o3, o4, o5].toArray), (1, .int .i64 n)] ⟨rfl, rfl, trivial⟩ ?_
  have E : Ext w w := Ext.refl w
  refine S_seq ?_
  refine S_reg [false, true] rfl rfl ?_
  refine J_box rfl rfl (fun b1 w1 e1 s1 h1 => ?_)
  have g_b1 : w.heap.size ≤ b1 := by have := E.size; omega
  have y_b1 := h1.lt
  replace E := E.trans e1
  have z1 := e1.size
  refine J_st (R_assign rfl) rfl (J_done ?_)
  refine S_seq ?_
  refine S_reg [true, true, true, false, true] rfl rfl ?_
  refine J_st (R_fieldAddr0 fl30_0 rfl) rfl (J_st (R_loadS st24 rfl (h1.part 0 [o1, .int .i64 x.graph.workers, .int .i64 x.graph.cap] rfl) rfl) rfl (J_st (R_move rfl) rfl ?_))
  refine J_call Try.call9 rfl (c_szGraph [o1, .int .i64 x.graph.workers, .int .i64 x.graph.cap] x.graph n _ (Graph.mkR x.graph (RdD.any (hd1.ext E))) (by first | omega | (simp only [mkL_length]; omega) | (rw [mkL_length]))) rfl (fun _ w2 e2 hv => ?_)
  subst hv
  replace E := E.trans e2; replace h1 := h1.ext e2
  have z2 := e2.size
  refine J_st (R_assign rfl) rfl (J_done ?_)
  refine S_seq ?_
  refine S_seq ?_
  refine S_reg [true, true] rfl rfl ?_
  refine J_st (R_move rfl) rfl (J_st (R_lss rfl rfl) rfl (J_done ?_))
  refine S_cond rfl (fun hc1 => ?_) (fun hc1 => ?_)
  · have q1 := szM_no hc1 (by omega)
    refine S_seq ?_
    refine S_reg [true] rfl rfl ?_
    refine J_st (R_assign rfl) rfl (J_done ?_)
    refine S_ret (E_done1 rfl rfl E ?_)
    first | exact sz_neg (by unfold cntCluster; omega) | exact sz_fin (by unfold cntCluster; omega) (by unfold cntCluster; omega)
  · have q2 := szM_ok hc1 (by omega)
    refine S_skip ?_
    refine S_seq ?_
    refine S_reg [true, true, true, false, true] rfl rfl ?_
    refine J_st (R_fieldAddr0 fl30_1 rfl) rfl (J_st (R_load sc25 rfl (h1.one 3 rfl)) rfl (J_st (R_move rfl) rfl ?_))
    refine J_call Try.call10 rfl (c_szWorkerS o2 x.workers (szM (cntGraph x.graph) n) _ (RdD.any (hd2.ext E)) (by first | omega | (simp only [mkL_length]; omega) | (rw [mkL_length]))) rfl (fun _ w3 e3 hv => ?_)
    subst hv
    replace E := E.trans e3; replace h1 := h1.ext e3
    have z3 := e3.size
    refine J_st (R_assign rfl) rfl (J_done ?_)
    refine S_seq ?_
    refine S_seq ?_
    refine S_reg [true, true] rfl rfl ?_
    refine J_st (R_move rfl) rfl (J_st (R_lss rfl rfl) rfl (J_done ?_))
    refine S_cond rfl (fun hc2 => ?_) (fun hc2 => ?_)
    · have q3 := szM_no hc2 (by omega)
      refine S_seq ?_
      refine S_reg [true] rfl rfl ?_
      refine J_st (R_assign rfl) rfl (J_done ?_)
      refine S_ret (E_done1 rfl rfl E ?_)
      first | exact sz_neg (by unfold cntCluster; omega) | exact sz_fin (by unfold cntCluster; omega) (by unfold cntCluster; omega)
    · have q4 := szM_ok hc2 (by omega)
      refine S_skip ?_
      refine S_seq ?_
      refine S_reg [true, true, true, false, true] rfl rfl ?_
      refine J_st (R_fieldAddr0 fl30_2 rfl) rfl (J_st (R_load sc26 rfl (h1.one 4 rfl)) rfl (J_st (R_move rfl) rfl ?_))
      refine J_call Try.call11 rfl (c_szLinkS o3 x.links (szM (cntL cntWorker x.workers) (szM (cntGraph x.graph) n)) _ (RdD.any (hd3.ext E)) (by first | omega | (simp only [mkL_length]; omega) | (rw [mkL_length]))) rfl (fun _ w4 e4 hv => ?_)
      subst hv
      replace E := E.trans e4; replace h1 := h1.ext e4
      have z4 := e4.size
      refine J_st (R_assign rfl) rfl (J_done ?_)
      refine S_seq ?_
      refine S_seq ?_
      refine S_reg [true, true] rfl rfl ?_
      refine J_st (R_move rfl) rfl (J_st (R_lss rfl rfl) rfl (J_done ?_))
      refine S_cond rfl (fun hc3 => ?_) (fun hc3 => ?_)
      · have q5 := szM_no hc3 (by omega)
        refine S_seq ?_
        refine S_reg [true] rfl rfl ?_
        refine J_st (R_assign rfl) rfl (J_done ?_)
        refine S_ret (E_done1 rfl rfl E ?_)
        first | exact sz_neg (by unfold cntCluster; omega) | exact sz_fin (by unfold cntCluster; omega) (by unfold cntCluster; omega)
      · have q6 := szM_ok hc3 (by omega)
        refine S_skip ?_
        refine S_seq ?_
        refine S_reg [true, true, true, false, true] rfl rfl ?_
        refine J_st (R_fieldAddr0 fl30_3 rfl) rfl (J_st (R_load sc27 rfl (h1.one 5 rfl)) rfl (J_st (R_move rfl) rfl ?_))
        refine J_call Try.call12 rfl (c_szTokenS o4 x.tokens (szM (cntL cntLink x.links) (szM (cntL cntWorker x.workers) (szM (cntGraph x.graph) n))) _ (hd4.rd.ext E) (by first | omega | (simp only [mkL_length]; omega) | (rw [mkL_length]))) rfl (fun _ w5 e5 hv => ?_)
        subst hv
        replace E := E.trans e5; replace h1 := h1.ext e5
        have z5 := e5.size
        refine J_st (R_assign rfl) rfl (J_done ?_)
        refine S_seq ?_
        refine S_seq ?_
        refine S_reg [true, true] rfl rfl ?_
        refine J_st (R_move rfl) rfl (J_st (R_lss rfl rfl) rfl (J_done ?_))
        refine S_cond rfl (fun hc4 => ?_) (fun hc4 => ?_)
        · have q7 := szM_no hc4 (by omega)
          refine S_seq ?_
          refine S_reg [true] rfl rfl ?_
          refine J_st (R_assign rfl) rfl (J_done ?_)
          refine S_ret (E_done1 rfl rfl E ?_)
          first | exact sz_neg (by unfold cntCluster; omega) | exact sz_fin (by unfold cntCluster; omega) (by unfold cntCluster; omega)
        · have q8 := szM_ok hc4 (by omega)
          refine S_skip ?_
          refine S_seq ?_
          refine S_reg [true, true, true, false, true] rfl rfl ?_
          refine J_st (R_fieldAddr0 fl30_4 rfl) rfl (J_st (R_load sc28 rfl (h1.one 6 rfl)) rfl (J_st (R_move rfl) rfl ?_))
          refine J_call Try.call13 rfl (c_szNewsS o5 x.news (szM x.tokens.length (szM (cntL cntLink x.links) (szM (cntL cntWorker x.workers) (szM (cntGraph x.graph) n)))) _ (hd5.rd.ext E) (by first | omega | (simp only [mkL_length]; omega) | (rw [mkL_length]))) rfl (fun _ w6 e6 hv => ?_)
          subst hv
          replace E := E.trans e6; replace h1 := h1.ext e6
          have z6 := e6.size
          refine J_st (R_assign rfl) rfl (J_done ?_)
          refine S_seq ?_
          refine S_seq ?_
          refine S_reg [true, true] rfl rfl ?_
          refine J_st (R_move rfl) rfl (J_st (R_lss rfl rfl) rfl (J_done ?_))
          refine S_cond rfl (fun hc5 => ?_) (fun hc5 => ?_)
          · have q9 := szM_no hc5 (by omega)
            refine S_seq ?_
            refine S_reg [true] rfl rfl ?_
            refine J_st (R_assign rfl) rfl (J_done ?_)
            refine S_ret (E_done1 rfl rfl E ?_)
            first | exact sz_neg (by unfold cntCluster; omega) | exact sz_fin (by unfold cntCluster; omega) (by unfold cntCluster; omega)
          · have q10 := szM_ok hc5 (by omega)
            refine S_skip ?_
            refine S_seq ?_
            refine S_reg [true, true] rfl rfl ?_
            refine J_st (R_move rfl) rfl (J_st (R_assign rfl) rfl (J_done ?_))
            refine S_ret (E_done1 rfl rfl E ?_)
            first | exact sz_neg (by unfold cntCluster; omega) | exact sz_fin (by unfold cntCluster; omega) (by unfold cntCluster; omega)

set_option maxRecDepth 20000 in
theorem c_eqCluster (cx : List Value) (x : Cluster) (cy : List Value) (y : Cluster) (w : World) (hx : Dat.R w 0 w.heap.size cx x) (hy : Dat.R w 0 w.heap.size cy y) : Ct Try.prog 8 [.agg cx.toArray, .agg cy.toArray] w (fun v _ => v = .bool (decide (x = y))) := by
  refine ct_of Try.func8 rfl Try.ntmps8 rfl ?_
  obtain ⟨o1, o2, o3, o4, o5, rfl, hd1, hd2, hd3, hd4, hd5⟩ := Cluster.op hx
  obtain ⟨o6, o7, o8, o9, o10, rfl, hd6, hd7, hd8, hd9, hd10⟩ := Cluster.op hy
  refine S_sub [(0, .agg [o1, .int .i64 x.graph.workers, .int .i64 x.graph.cap, o2, o3, o4, o5].toArray), (1, .agg [o6, .int .i64 y.graph.workers, .int .i64 y.graph.cap, o7, o8, o9, o10].toArray)] ⟨rfl, rfl, trivial⟩ ?_
  have E : Ext w w := Ext.refl w
  refine S_seq ?_
  refine S_reg [false, false, true] rfl rfl ?_
  refine J_box rfl rfl (fun b1 w1 e1 s1 h1 => ?_)
  have g_b1 : w.heap.size ≤ b1 := by have := E.size; omega
  have y_b1 := h1.lt
  replace E := E.trans e1
  have z1 := e1.size
  refine J_box rfl rfl (fun b2 w2 e2 s2 h2 => ?_)
  have g_b2 : w.heap.size ≤ b2 := by have := E.size; omega
  have y_b2 := h2.lt
  replace E := E.trans e2; replace h1 := h1.ext e2
  have z2 := e2.size
  refine J_st (R_assign rfl) rfl (J_done ?_)
  refine S_seq ?_
  refine S_seq ?_
  refine S_reg [true, true, true, true, false, true] rfl rfl ?_
  refine J_st (R_fieldAddr0 fl41_0 rfl) rfl (J_st (R_loadS st35 rfl (h1.part 0 [o1, .int .i64 x.graph.workers, .int .i64 x.graph.cap] rfl) rfl) rfl (J_st (R_fieldAddr0 fl41_0 rfl) rfl (J_st (R_loadS st35 rfl (h2.part 0 [o6, .int .i64 y.graph.workers, .int .i64 y.graph.cap] rfl) rfl) rfl ?_)))
  refine J_call Try.call29 rfl (c_eqGraph [o1, .int .i64 x.graph.workers, .int .i64 x.graph.cap] x.graph [o6, .int .i64 y.graph.workers, .int .i64 y.graph.cap] y.graph _ (Graph.mkR x.graph (RdD.any (hd1.ext E))) (Graph.mkR y.graph (RdD.any (hd6.ext E)))) rfl (fun _ w3 e3 hv => ?_)
  subst hv
  replace E := E.trans e3; replace h1 := h1.ext e3; replace h2 := h2.ext e3
  have z3 := e3.size
  refine J_st (R_not rfl) rfl (J_done ?_)
  refine S_cond rfl (fun hc1 => ?_) (fun hc1 => ?_)
  · refine S_seq ?_
    refine S_reg [true] rfl rfl ?_
    refine J_st (R_assign rfl) rfl (J_done ?_)
    refine S_ret (E_done1 rfl rfl E ?_)
    cases x; cases y; simp_all
  · refine S_skip ?_
    refine S_seq ?_
    refine S_seq ?_
    refine S_reg [true, true, true, true, false, true] rfl rfl ?_
    refine J_st (R_fieldAddr0 fl41_1 rfl) rfl (J_st (R_load sc36 rfl (h1.one 3 rfl)) rfl (J_st (R_fieldAddr0 fl41_1 rfl) rfl (J_st (R_load sc36 rfl (h2.one 3 rfl)) rfl ?_)))
    refine J_call Try.call30 rfl (c_eqWorkerS o2 x.workers o7 y.workers _ (RdD.any (hd2.ext E)) (RdD.any (hd7.ext E))) rfl (fun _ w4 e4 hv => ?_)
    subst hv
    replace E := E.trans e4; replace h1 := h1.ext e4; replace h2 := h2.ext e4
    have z4 := e4.size
    refine J_st (R_not rfl) rfl (J_done ?_)
    refine S_cond rfl (fun hc2 => ?_) (fun hc2 => ?_)
    · refine S_seq ?_
      refine S_reg [true] rfl rfl ?_
      refine J_st (R_assign rfl) rfl (J_done ?_)
      refine S_ret (E_done1 rfl rfl E ?_)
      cases x; cases y; simp_all
    · refine S_skip ?_
      refine S_seq ?_
      refine S_seq ?_
      refine S_reg [true, true, true, true, false, true] rfl rfl ?_
      refine J_st (R_fieldAddr0 fl41_2 rfl) rfl (J_st (R_load sc37 rfl (h1.one 4 rfl)) rfl (J_st (R_fieldAddr0 fl41_2 rfl) rfl (J_st (R_load sc37 rfl (h2.one 4 rfl)) rfl ?_)))
      refine J_call Try.call31 rfl (c_eqLinkS o3 x.links o8 y.links _ (RdD.any (hd3.ext E)) (RdD.any (hd8.ext E))) rfl (fun _ w5 e5 hv => ?_)
      subst hv
      replace E := E.trans e5; replace h1 := h1.ext e5; replace h2 := h2.ext e5
      have z5 := e5.size
      refine J_st (R_not rfl) rfl (J_done ?_)
      refine S_cond rfl (fun hc3 => ?_) (fun hc3 => ?_)
      · refine S_seq ?_
        refine S_reg [true] rfl rfl ?_
        refine J_st (R_assign rfl) rfl (J_done ?_)
        refine S_ret (E_done1 rfl rfl E ?_)
        cases x; cases y; simp_all
      · refine S_skip ?_
        refine S_seq ?_
        refine S_seq ?_
        refine S_reg [true, true, true, true, false, true] rfl rfl ?_
        refine J_st (R_fieldAddr0 fl41_3 rfl) rfl (J_st (R_load sc38 rfl (h1.one 5 rfl)) rfl (J_st (R_fieldAddr0 fl41_3 rfl) rfl (J_st (R_load sc38 rfl (h2.one 5 rfl)) rfl ?_)))
        refine J_call Try.call32 rfl (c_eqTokenS o4 x.tokens o9 y.tokens _ (hd4.rd.ext E) (hd9.rd.ext E)) rfl (fun _ w6 e6 hv => ?_)
        subst hv
        replace E := E.trans e6; replace h1 := h1.ext e6; replace h2 := h2.ext e6
        have z6 := e6.size
        refine J_st (R_not rfl) rfl (J_done ?_)
        refine S_cond rfl (fun hc4 => ?_) (fun hc4 => ?_)
        · refine S_seq ?_
          refine S_reg [true] rfl rfl ?_
          refine J_st (R_assign rfl) rfl (J_done ?_)
          refine S_ret (E_done1 rfl rfl E ?_)
          cases x; cases y; simp_all
        · refine S_skip ?_
          refine S_seq ?_
          refine S_seq ?_
          refine S_reg [true, true, true, true, false, true] rfl rfl ?_
          refine J_st (R_fieldAddr0 fl41_4 rfl) rfl (J_st (R_load sc39 rfl (h1.one 6 rfl)) rfl (J_st (R_fieldAddr0 fl41_4 rfl) rfl (J_st (R_load sc39 rfl (h2.one 6 rfl)) rfl ?_)))
          refine J_call Try.call33 rfl (c_eqNewsS o5 x.news o10 y.news _ (hd5.rd.ext E) (hd10.rd.ext E)) rfl (fun _ w7 e7 hv => ?_)
          subst hv
          replace E := E.trans e7; replace h1 := h1.ext e7; replace h2 := h2.ext e7
          have z7 := e7.size
          refine J_st (R_not rfl) rfl (J_done ?_)
          refine S_cond rfl (fun hc5 => ?_) (fun hc5 => ?_)
          · refine S_seq ?_
            refine S_reg [true] rfl rfl ?_
            refine J_st (R_assign rfl) rfl (J_done ?_)
            refine S_ret (E_done1 rfl rfl E ?_)
            cases x; cases y; simp_all
          · refine S_skip ?_
            refine S_seq ?_
            refine S_reg [true] rfl rfl ?_
            refine J_st (R_assign rfl) rfl (J_done ?_)
            refine S_ret (E_done1 rfl rfl E ?_)
            cases x; cases y; simp_all

set_option maxRecDepth 20000 in
theorem c_toCluster (cx : List Value) (x : Cluster) (w : World) (hx : Dat.R w 0 w.heap.size cx x) (hb : cntCluster x ≤ 1048576) : Ct Try.prog 6 [.agg cx.toArray] w (fun v w' => ∃ cs, v = .agg cs.toArray ∧ Dat.R w' w.heap.size w'.heap.size cs x) := by
  unfold cntCluster at hb
  refine ct_of Try.func6 rfl Try.ntmps6 rfl ?_
  obtain ⟨o1, o2, o3, o4, o5, rfl, hd1, hd2, hd3, hd4, hd5⟩ := Cluster.op hx
  refine S_sub [(0, .agg [o1, .int .i64 x.graph.workers, .int .i64 x.graph.cap, o2, o3, o4, o5].toArray)] ⟨rfl, trivial⟩ ?_
  have E : Ext w w := Ext.refl w
  refine S_seq ?_
  refine S_reg [false, false] rfl rfl ?_
  refine J_box rfl rfl (fun b1 w1 e1 s1 h1 => ?_)
  have g_b1 : w.heap.size ≤ b1 := by have := E.size; omega
  have y_b1 := h1.lt
  replace E := E.trans e1
  have z1 := e1.size
  refine J_alloc st41 rfl (fun b2 w2 e2 s2 h2 => ?_)
  have g_b2 : w.heap.size ≤ b2 := by have := E.size; omega
  have y_b2 := h2.lt
  replace E := E.trans e2; replace h1 := h1.ext e2
  have z2 := e2.size
  refine J_done ?_
  refine S_seq ?_
  refine S_reg [false] rfl rfl ?_
  refine J_alloc st41 rfl (fun b3 w3 e3 s3 h3 => ?_)
  have g_b3 : w.heap.size ≤ b3 := by have := E.size; omega
  have y_b3 := h3.lt
  replace E := E.trans e3; replace h1 := h1.ext e3; replace h2 := h2.ext e3
  have z3 := e3.size
  refine J_done ?_
  refine S_seq ?_
  refine S_reg [true, true, false, true, false] rfl rfl ?_
  refine J_st (R_fieldAddr0 fl30_0 rfl) rfl (J_st (R_loadS st24 rfl (h1.part 0 [o1, .int .i64 x.graph.workers, .int .i64 x.graph.cap] rfl) rfl) rfl ?_)
  refine J_call Try.call19 rfl (c_toGraph [o1, .int .i64 x.graph.workers, .int .i64 x.graph.cap] x.graph _ (Graph.mkR x.graph (RdD.any (hd1.ext E))) (by first | omega | (simp only [mkL_length]; omega) | (rw [mkL_length]))) rfl (fun _ w4 e4 ho1 => ?_)
  obtain ⟨o6, rfl, ho1⟩ := ho1
  have g_ho1 : w.heap.size ≤ w3.heap.size := E.size
  replace E := E.trans e4; replace h1 := h1.ext e4; replace h2 := h2.ext e4; replace h3 := h3.ext e4
  have z4 := e4.size
  refine J_st (R_fieldAddr0 fl41_0 rfl) rfl ?_
  refine J_storeS' (cs' := [o6, .int .i64 x.graph.workers, .int .i64 x.graph.cap, .slice none 0 0, .slice none 0 0, .slice none 0 0, .slice none 0 0]) st35 rfl rfl rfl (all_cons (RdD.one (OwS.rd ho1)) (all_cons rfl (all_cons rfl rfl))) h3 (Nat.le_of_ble_eq_true rfl) rfl (fun w5 m1 h3' => ?_)
  replace h3 := h3'
  replace E := E.step m1 (fun g hg => by cases hg; omega); replace h1 := h1.mod m1 (fun g hg => by cases hg; omega); replace h2 := h2.mod m1 (fun g hg => by cases hg; omega); replace ho1 := ho1.mod m1 (fun g hg => by cases hg; omega)
  have z5 := m1.size
  refine J_done ?_
  refine S_seq ?_
  refine S_reg [true, true, false, true, false] rfl rfl ?_
  refine J_st (R_fieldAddr0 fl30_1 rfl) rfl (J_st (R_load sc25 rfl (h1.one 3 rfl)) rfl ?_)
  refine J_call Try.call20 rfl (c_toWorkerS o2 x.workers _ (RdD.any (hd2.ext E)) (by first | omega | (simp only [mkL_length]; omega) | (rw [mkL_length]))) rfl (fun v1 w6 e5 ho2 => ?_)
  have g_ho2 : w.heap.size ≤ w5.heap.size := E.size
  replace E := E.trans e5; replace h1 := h1.ext e5; replace h2 := h2.ext e5; replace h3 := h3.ext e5; replace ho1 := ho1.ext e5
  have z6 := e5.size
  refine J_st (R_fieldAddr0 fl41_1 rfl) rfl ?_
  refine J_store' (cs' := [o6, .int .i64 x.graph.workers, .int .i64 x.graph.cap, v1, .slice none 0 0, .slice none 0 0, .slice none 0 0]) sc36 rfl rfl (RdD.one (OwS.rd ho2)) h3 (Nat.le_of_ble_eq_true rfl) rfl (fun w7 m2 h3' => ?_)
  replace h3 := h3'
  replace E := E.step m2 (fun g hg => by cases hg; omega); replace h1 := h1.mod m2 (fun g hg => by cases hg; omega); replace h2 := h2.mod m2 (fun g hg => by cases hg; omega); replace ho1 := ho1.mod m2 (fun g hg => by cases hg; omega); replace ho2 := ho2.mod m2 (fun g hg => by cases hg; omega)
  have z7 := m2.size
  refine J_done ?_
  refine S_seq ?_
  refine S_reg [true, true, false, true, false] rfl rfl ?_
  refine J_st (R_fieldAddr0 fl30_2 rfl) rfl (J_st (R_load sc26 rfl (h1.one 4 rfl)) rfl ?_)
  refine J_call Try.call21 rfl (c_toLinkS o3 x.links _ (RdD.any (hd3.ext E)) (by first | omega | (simp only [mkL_length]; omega) | (rw [mkL_length]))) rfl (fun v2 w8 e6 ho3 => ?_)
  have g_ho3 : w.heap.size ≤ w7.heap.size := E.size
  replace E := E.trans e6; replace h1 := h1.ext e6; replace h2 := h2.ext e6; replace h3 := h3.ext e6; replace ho1 := ho1.ext e6; replace ho2 := ho2.ext e6
  have z8 := e6.size
  refine J_st (R_fieldAddr0 fl41_2 rfl) rfl ?_
  refine J_store' (cs' := [o6, .int .i64 x.graph.workers, .int .i64 x.graph.cap, v1, v2, .slice none 0 0, .slice none 0 0]) sc37 rfl rfl (RdD.one (OwS.rd ho3)) h3 (Nat.le_of_ble_eq_true rfl) rfl (fun w9 m3 h3' => ?_)
  replace h3 := h3'
  replace E := E.step m3 (fun g hg => by cases hg; omega); replace h1 := h1.mod m3 (fun g hg => by cases hg; omega); replace h2 := h2.mod m3 (fun g hg => by cases hg; omega); replace ho1 := ho1.mod m3 (fun g hg => by cases hg; omega); replace ho2 := ho2.mod m3 (fun g hg => by cases hg; omega); replace ho3 := ho3.mod m3 (fun g hg => by cases hg; omega)
  have z9 := m3.size
  refine J_done ?_
  refine S_seq ?_
  refine S_reg [true, true, false, true, false] rfl rfl ?_
  refine J_st (R_fieldAddr0 fl30_3 rfl) rfl (J_st (R_load sc27 rfl (h1.one 5 rfl)) rfl ?_)
  refine J_call Try.call22 rfl (c_toTokenS o4 x.tokens _ (hd4.rd.ext E) (by first | omega | (simp only [mkL_length]; omega) | (rw [mkL_length]))) rfl (fun v3 w10 e7 ho4 => ?_)
  have g_ho4 : w.heap.size ≤ w9.heap.size := E.size
  replace E := E.trans e7; replace h1 := h1.ext e7; replace h2 := h2.ext e7; replace h3 := h3.ext e7; replace ho1 := ho1.ext e7; replace ho2 := ho2.ext e7; replace ho3 := ho3.ext e7
  have z10 := e7.size
  refine J_st (R_fieldAddr0 fl41_3 rfl) rfl ?_
  refine J_store' (cs' := [o6, .int .i64 x.graph.workers, .int .i64 x.graph.cap, v1, v2, v3, .slice none 0 0]) sc38 rfl rfl ho4.one h3 (Nat.le_of_ble_eq_true rfl) rfl (fun w11 m4 h3' => ?_)
  replace h3 := h3'
  replace E := E.step m4 (fun g hg => by cases hg; omega); replace h1 := h1.mod m4 (fun g hg => by cases hg; omega); replace h2 := h2.mod m4 (fun g hg => by cases hg; omega); replace ho1 := ho1.mod m4 (fun g hg => by cases hg; omega); replace ho2 := ho2.mod m4 (fun g hg => by cases hg; omega); replace ho3 := ho3.mod m4 (fun g hg => by cases hg; omega); replace ho4 := ho4.mod m4 (fun g hg => by cases hg; omega)
  have z11 := m4.size
  refine J_done ?_
  refine S_seq ?_
  refine S_reg [true, true, false, true, false] rfl rfl ?_
  refine J_st (R_fieldAddr0 fl30_4 rfl) rfl (J_st (R_load sc28 rfl (h1.one 6 rfl)) rfl ?_)
  refine J_call Try.call23 rfl (c_toNewsS o5 x.news _ (hd5.rd.ext E) (by first | omega | (simp only [mkL_length]; omega) | (rw [mkL_length]))) rfl (fun v4 w12 e8 ho5 => ?_)
  have g_ho5 : w.heap.size ≤ w11.heap.size := E.size
  replace E := E.trans e8; replace h1 := h1.ext e8; replace h2 := h2.ext e8; replace h3 := h3.ext e8; replace ho1 := ho1.ext e8; replace ho2 := ho2.ext e8; replace ho3 := ho3.ext e8; replace ho4 := ho4.ext e8
  have z12 := e8.size
  refine J_st (R_fieldAddr0 fl41_4 rfl) rfl ?_
  refine J_store' (cs' := [o6, .int .i64 x.graph.workers, .int .i64 x.graph.cap, v1, v2, v3, v4]) sc39 rfl rfl ho5.one h3 (Nat.le_of_ble_eq_true rfl) rfl (fun w13 m5 h3' => ?_)
  replace h3 := h3'
  replace E := E.step m5 (fun g hg => by cases hg; omega); replace h1 := h1.mod m5 (fun g hg => by cases hg; omega); replace h2 := h2.mod m5 (fun g hg => by cases hg; omega); replace ho1 := ho1.mod m5 (fun g hg => by cases hg; omega); replace ho2 := ho2.mod m5 (fun g hg => by cases hg; omega); replace ho3 := ho3.mod m5 (fun g hg => by cases hg; omega); replace ho4 := ho4.mod m5 (fun g hg => by cases hg; omega); replace ho5 := ho5.mod m5 (fun g hg => by cases hg; omega)
  have z13 := m5.size
  refine J_done ?_
  refine S_seq ?_
  refine S_reg [true, false] rfl rfl ?_
  refine J_st (R_loadS st41 rfl h3.at rfl) rfl ?_
  refine J_storeS' (cs' := [o6, .int .i64 x.graph.workers, .int .i64 x.graph.cap, v1, v2, v3, v4]) st41 rfl rfl rfl (all_cons (RdD.one (OwS.rd ho1)) (all_cons rfl (all_cons rfl (all_cons (RdD.one (OwS.rd ho2)) (all_cons (RdD.one (OwS.rd ho3)) (all_cons ho4.one (all_cons ho5.one rfl))))))) h2 (Nat.le_of_ble_eq_true rfl) rfl (fun w14 m6 h2' => ?_)
  replace h2 := h2'
  replace E := E.step m6 (fun g hg => by cases hg; omega); replace h1 := h1.mod m6 (fun g hg => by cases hg; omega); replace h3 := h3.mod m6 (fun g hg => by cases hg; omega); replace ho1 := ho1.mod m6 (fun g hg => by cases hg; omega); replace ho2 := ho2.mod m6 (fun g hg => by cases hg; omega); replace ho3 := ho3.mod m6 (fun g hg => by cases hg; omega); replace ho4 := ho4.mod m6 (fun g hg => by cases hg; omega); replace ho5 := ho5.mod m6 (fun g hg => by cases hg; omega)
  have z14 := m6.size
  refine J_done ?_
  refine S_ret (E_doneC rfl rfl (run_loadVar_st st41 h2.at rfl) E ?_)
  exact ⟨_, rfl, Cluster.mkR _ (RdD.widen (OwS.rd ho1) (by have := E.size; omega) (by omega)) (RdD.widen (OwS.rd ho2) (by have := E.size; omega) (by omega)) (RdD.widen (OwS.rd ho3) (by have := E.size; omega) (by omega)) (RdD.widen (Own.rdD ho4) (by have := E.size; omega) (by omega)) (RdD.widen (Own.rdD ho5) (by have := E.size; omega) (by omega))⟩

set_option maxRecDepth 20000 in
theorem c_allRecordsOk (vxs : Value) (xs : List Record) (w : World) (hxs : RdS w vxs xs) : Ct Try.prog 48 [vxs] w (fun v _ => v = .bool (xs.all recordOk)) := by
  refine ct_of Try.func48 rfl Try.ntmps48 rfl ?_
  refine S_sub [(0, vxs)] ⟨rfl, trivial⟩ ?_
  have E : Ext w w := Ext.refl w
  refine S_seq ?_
  refine S_reg [true] rfl rfl ?_
  refine J_st (R_assign rfl) rfl (J_done ?_)
  refine S_seq ?_
  refine S_seq ?_
  refine S_reg [true, true, true] rfl rfl ?_
  refine J_st (R_move rfl) rfl (J_st (R_len Try.underlying52 rfl (hxs.ext E).len) rfl (J_st (R_move rfl) rfl (J_done ?_)))
  refine S_block ?_
  refine S_loop (fun (k : Nat) => [(2, .bool false), (5, vxs), (6, .int .i64 ((xs.length : Nat) : Int)), (7, .int .i64 ((k : Nat) : Int))]) (fun (k : Nat) w' => Ext w w' ∧ w.heap.size ≤ w'.heap.size ∧ k ≤ xs.length ∧ (xs.take k).all recordOk = true) (fun (k : Nat) => xs.length - k) 0 ⟨rfl, rfl, rfl, rfl, trivial⟩ ⟨E, Nat.le_refl _, Nat.zero_le _, rfl⟩ ?_
  clear E
  rintro k w1 ⟨E, z1, hk, hI⟩
  refine S_seq ?_
  refine S_reg [true] rfl rfl ?_
  refine J_st (R_lss rfl rfl) rfl (J_done ?_)
  refine S_seq ?_
  refine S_cond rfl (fun hc1 => ?_) (fun hc1 => ?_)
  · have hc1n : k < xs.length := by first | (have h := of_decide_eq_true hc1; omega) | (have h := hc1; simp at h; omega)
    refine S_skip ?_
    refine S_seq ?_
    refine S_block ?_
    refine S_seq ?_
    refine S_reg [true, true, false, false] rfl rfl ?_
    have hi1 : k < xs.length := (by first | assumption | omega)
    refine J_st (R_index (i := k) sl52 rfl rfl (hxs.ext E) hi1) rfl (J_st (R_loadS st95 rfl ((hxs.ext E).get hi1) rfl) rfl ?_)
    refine J_alloc st95 rfl (fun b1 w2 e1 s1 h1 => ?_)
    have g_b1 : w.heap.size ≤ b1 := by have := E.size; omega
    have y_b1 := h1.lt
    replace E := E.trans e1
    have z2 := e1.size
    refine J_storeS' (cs' := [.int .i64 ((xs[k]'hi1).op), .int .i64 (((xs[k]'hi1).stamp).epoch), .int .i64 (((xs[k]'hi1).stamp).turn), .int .i64 ((xs[k]'hi1).key), .int .i64 ((xs[k]'hi1).val)]) st95 rfl rfl rfl rfl h1 (Nat.le_of_ble_eq_true rfl) rfl (fun w3 m1 h1' => ?_)
    replace h1 := h1'
    replace E := E.step m1 (fun g hg => by cases hg; omega)
    have z3 := m1.size
    refine J_done ?_
    refine S_seq ?_
    refine S_reg [true, false, true] rfl rfl ?_
    refine J_st (R_loadS st95 rfl h1.at rfl) rfl ?_
    refine J_call Try.call49 rfl (c_RecordOk (xs[k]'hi1) _ ) rfl (fun _ w4 e2 hv => ?_)
    subst hv
    replace E := E.trans e2; replace h1 := h1.ext e2
    have z4 := e2.size
    refine J_st (R_not rfl) rfl (J_done ?_)
    refine S_cond rfl (fun hc2 => ?_) (fun hc2 => ?_)
    · refine S_seq ?_
      refine S_reg [true] rfl rfl ?_
      refine J_st (R_assign rfl) rfl (J_done ?_)
      refine S_ret (E_inB_ret (E_lp_ret (E_inB_ret (E_done1 rfl rfl E ?_))))
      exact all_no (by assumption) (by simpa using hc2)
    · refine S_skip ?_
      refine S_nil (E_inB ?_)
      refine S_reg [true, true] rfl rfl ?_
      refine J_st (R_add rfl rfl (add_one hc1n hxs.1)) rfl (J_st (R_move rfl) rfl (J_done ?_))
      refine S_nil (E_again (k + 1) (by omega) ⟨rfl, rfl, rfl, rfl, trivial⟩ ⟨E, (by omega), (by omega), all_step hI (by assumption) (by simpa using hc2)⟩)
  · have hc1n : ¬ k < xs.length := by first | (have h := of_decide_eq_false hc1; omega) | (have h := hc1; simp at h; omega)
    refine S_exit (E_lp_exit (E_inB_exit ?_))
    refine S_seq ?_
    refine S_reg [true] rfl rfl ?_
    refine J_st (R_assign rfl) rfl (J_done ?_)
    refine S_ret (E_done1 rfl rfl E ?_)
    exact all_yes hI (by omega)

set_option maxRecDepth 20000 in
theorem c_LinkOk (cx : List Value) (x : Link) (w : World) (hx : Dat.R w 0 w.heap.size cx x) (hr : rg x.got) : Ct Try.prog 26 [.agg cx.toArray] w (fun v _ => v = .bool (linkOk x)) := by
  refine ct_of Try.func26 rfl Try.ntmps26 rfl ?_
  obtain ⟨o1, rfl, hd1⟩ := Link.op hx
  refine S_sub [(0, .agg [.int .i64 x.cap, o1, .int .i64 x.credits, .int .i64 x.back, .int .i64 x.sent, .int .i64 x.got].toArray)] ⟨rfl, trivial⟩ ?_
  have E : Ext w w := Ext.refl w
  refine S_seq ?_
  refine S_reg [false, true] rfl rfl ?_
  refine J_box rfl rfl (fun b1 w1 e1 s1 h1 => ?_)
  have g_b1 : w.heap.size ≤ b1 := by have := E.size; omega
  have y_b1 := h1.lt
  replace E := E.trans e1
  have z1 := e1.size
  refine J_st (R_assign rfl) rfl (J_done ?_)
  refine S_seq ?_
  refine S_seq ?_
  refine S_reg [true, true, false, true, true, true, true, true, true, false, true, true, true, true, true, true, true, false, true, true, true, true, true, true, true, true, true, true, true, true, true, true, true, true] rfl rfl ?_
  refine J_st (R_fieldAddr0 fl60_0 rfl) rfl (J_st (R_load sc3 rfl (h1.one 0 rfl)) rfl ?_)
  refine J_call Try.call28 rfl (c_within x.cap 1 4 _ ) rfl (fun _ w2 e2 hv => ?_)
  subst hv
  replace E := E.trans e2; replace h1 := h1.ext e2
  have z2 := e2.size
  refine J_st (R_not rfl) rfl (J_st (R_move rfl) rfl ?_)
  refine J_cut 29 [(0, .agg [.int .i64 x.cap, o1, .int .i64 x.credits, .int .i64 x.back, .int .i64 x.sent, .int .i64 x.got].toArray), (1, .pointer (some ⟨b1, 0, none⟩)), (2, .bool false), (36, .bool ((((!(win x.cap 1 4)) || (!(win x.credits 0 x.cap))) || (!(win x.back 0 x.cap))) || ((IntKind.i64.wrap ((IntKind.i64.wrap (x.credits + x.back)) + ((x.queue.length : Nat) : Int))) != x.cap)))] (fun w' => Ext w w' ∧ w2.heap.size ≤ w'.heap.size ∧ Blk w' b1 ([.int .i64 x.cap, o1, .int .i64 x.credits, .int .i64 x.back, .int .i64 x.sent, .int .i64 x.got])) ?_ ?_
  · refine J_if (gd := 7) rfl rfl (fun hg1 => ?_) (fun hg1 => ?_)
    · refine J_gdno rfl rfl rfl rfl (J_gdno rfl rfl rfl rfl (J_gdno rfl rfl rfl rfl (J_gdno rfl rfl rfl rfl ?_)))
      refine J_ungno rfl rfl rfl rfl ?_
      refine J_gdno rfl rfl rfl rfl (J_st (R_pickT rfl rfl) rfl (J_st (R_move rfl) rfl (J_gdno rfl rfl rfl rfl (J_gdno rfl rfl rfl rfl (J_gdno rfl rfl rfl rfl (J_gdno rfl rfl rfl rfl ?_))))))
      refine J_ungno rfl rfl rfl rfl ?_
      refine J_gdno rfl rfl rfl rfl (J_st (R_pickT rfl rfl) rfl (J_st (R_move rfl) rfl (J_gdno rfl rfl rfl rfl (J_gdno rfl rfl rfl rfl (J_gdno rfl rfl rfl rfl (J_gdno rfl rfl rfl rfl (J_gdno rfl rfl rfl rfl (J_gdno rfl rfl rfl rfl (J_gdno rfl rfl rfl rfl (J_gdno rfl rfl rfl rfl (J_gdno rfl rfl rfl rfl (J_gdno rfl rfl rfl rfl (J_gdno rfl rfl rfl rfl (J_gdno rfl rfl rfl rfl (J_st (R_pickT rfl rfl) rfl (J_cutEnd ⟨rfl, rfl, rfl, congrArg (fun b => some (Value.bool b)) (show true = ((((!(win x.cap 1 4)) || (!(win x.credits 0 x.cap))) || (!(win x.back 0 x.cap))) || ((IntKind.i64.wrap ((IntKind.i64.wrap (x.credits + x.back)) + ((x.queue.length : Nat) : Int))) != x.cap)) by first | (rw [hg1] <;> rfl) | (simp [hg1]; done) | (simp only [nat_nlt] <;> simp)), trivial⟩ ⟨E, (by omega), h1⟩))))))))))))))))
    · refine J_gd rfl rfl (R_fieldAddr0 fl60_2 rfl) rfl (J_gd rfl rfl (R_load sc3 rfl (h1.one 2 rfl)) rfl (J_gd rfl rfl (R_fieldAddr0 fl60_0 rfl) rfl (J_gd rfl rfl (R_load sc3 rfl (h1.one 0 rfl)) rfl ?_)))
      refine J_ung rfl rfl ?_
      refine J_call Try.call28 rfl (c_within x.credits 0 x.cap _ ) rfl (fun _ w4 e3 hv => ?_)
      subst hv
      replace E := E.trans e3; replace h1 := h1.ext e3
      have z3 := e3.size
      refine J_gd rfl rfl (R_not rfl) rfl (J_st (R_pickF rfl rfl) rfl (J_st (R_move rfl) rfl ?_))
      refine J_if (gd := 15) rfl rfl (fun hg2 => ?_) (fun hg2 => ?_)
      · refine J_gdno rfl rfl rfl rfl (J_gdno rfl rfl rfl rfl (J_gdno rfl rfl rfl rfl (J_gdno rfl rfl rfl rfl ?_)))
        refine J_ungno rfl rfl rfl rfl ?_
        refine J_gdno rfl rfl rfl rfl (J_st (R_pickT rfl rfl) rfl (J_st (R_move rfl) rfl (J_gdno rfl rfl rfl rfl (J_gdno rfl rfl rfl rfl (J_gdno rfl rfl rfl rfl (J_gdno rfl rfl rfl rfl (J_gdno rfl rfl rfl rfl (J_gdno rfl rfl rfl rfl (J_gdno rfl rfl rfl rfl (J_gdno rfl rfl rfl rfl (J_gdno rfl rfl rfl rfl (J_gdno rfl rfl rfl rfl (J_gdno rfl rfl rfl rfl (J_gdno rfl rfl rfl rfl (J_st (R_pickT rfl rfl) rfl (J_cutEnd ⟨rfl, rfl, rfl, congrArg (fun b => some (Value.bool b)) (show true = ((((!(win x.cap 1 4)) || (!(win x.credits 0 x.cap))) || (!(win x.back 0 x.cap))) || ((IntKind.i64.wrap ((IntKind.i64.wrap (x.credits + x.back)) + ((x.queue.length : Nat) : Int))) != x.cap)) by first | (rw [hg1, hg2] <;> rfl) | (simp [hg1, hg2]; done) | (simp only [nat_nlt] <;> simp)), trivial⟩ ⟨E, (by omega), h1⟩))))))))))))))))
      · refine J_gd rfl rfl (R_fieldAddr0 fl60_3 rfl) rfl (J_gd rfl rfl (R_load sc3 rfl (h1.one 3 rfl)) rfl (J_gd rfl rfl (R_fieldAddr0 fl60_0 rfl) rfl (J_gd rfl rfl (R_load sc3 rfl (h1.one 0 rfl)) rfl ?_)))
        refine J_ung rfl rfl ?_
        refine J_call Try.call28 rfl (c_within x.back 0 x.cap _ ) rfl (fun _ w5 e4 hv => ?_)
        subst hv
        replace E := E.trans e4; replace h1 := h1.ext e4
        have z4 := e4.size
        refine J_gd rfl rfl (R_not rfl) rfl (J_st (R_pickF rfl rfl) rfl (J_st (R_move rfl) rfl ?_))
        refine J_if (gd := 23) rfl rfl (fun hg3 => ?_) (fun hg3 => ?_)
        · refine J_gdno rfl rfl rfl rfl (J_gdno rfl rfl rfl rfl (J_gdno rfl rfl rfl rfl (J_gdno rfl rfl rfl rfl (J_gdno rfl rfl rfl rfl (J_gdno rfl rfl rfl rfl (J_gdno rfl rfl rfl rfl (J_gdno rfl rfl rfl rfl (J_gdno rfl rfl rfl rfl (J_gdno rfl rfl rfl rfl (J_gdno rfl rfl rfl rfl (J_gdno rfl rfl rfl rfl (J_st (R_pickT rfl rfl) rfl (J_cutEnd ⟨rfl, rfl, rfl, congrArg (fun b => some (Value.bool b)) (show true = ((((!(win x.cap 1 4)) || (!(win x.credits 0 x.cap))) || (!(win x.back 0 x.cap))) || ((IntKind.i64.wrap ((IntKind.i64.wrap (x.credits + x.back)) + ((x.queue.length : Nat) : Int))) != x.cap)) by first | (rw [hg1, hg2, hg3] <;> rfl) | (simp [hg1, hg2, hg3]; done) | (simp only [nat_nlt] <;> simp)), trivial⟩ ⟨E, (by omega), h1⟩)))))))))))))
        · refine J_gd rfl rfl (R_fieldAddr0 fl60_2 rfl) rfl (J_gd rfl rfl (R_load sc3 rfl (h1.one 2 rfl)) rfl (J_gd rfl rfl (R_fieldAddr0 fl60_3 rfl) rfl (J_gd rfl rfl (R_load sc3 rfl (h1.one 3 rfl)) rfl (J_gd rfl rfl (R_add rfl rfl rfl) rfl (J_gd rfl rfl (R_fieldAddr0 fl60_1 rfl) rfl (J_gd rfl rfl (R_load sc52 rfl (h1.one 1 rfl)) rfl (J_gd rfl rfl (R_len Try.underlying52 rfl (hd1.ext E).len) rfl (J_gd rfl rfl (R_add rfl rfl rfl) rfl (J_gd rfl rfl (R_fieldAddr0 fl60_0 rfl) rfl (J_gd rfl rfl (R_load sc3 rfl (h1.one 0 rfl)) rfl (J_gd rfl rfl (R_neq rfl rfl) rfl (J_st (R_pickF rfl rfl) rfl (J_cutEnd ⟨rfl, rfl, rfl, congrArg (fun b => some (Value.bool b)) (show ((IntKind.i64.wrap ((IntKind.i64.wrap (x.credits + x.back)) + ((x.queue.length : Nat) : Int))) != x.cap) = ((((!(win x.cap 1 4)) || (!(win x.credits 0 x.cap))) || (!(win x.back 0 x.cap))) || ((IntKind.i64.wrap ((IntKind.i64.wrap (x.credits + x.back)) + ((x.queue.length : Nat) : Int))) != x.cap)) by first | (rw [hg1, hg2, hg3] <;> rfl) | (simp [hg1, hg2, hg3]; done) | (simp only [nat_nlt] <;> simp)), trivial⟩ ⟨E, (by omega), h1⟩)))))))))))))
  clear E h1
  rintro w3 ⟨E, z5, h1⟩
  refine J_done ?_
  refine S_cond rfl (fun hc1 => ?_) (fun hc1 => ?_)
  · refine S_seq ?_
    refine S_reg [true] rfl rfl ?_
    refine J_st (R_assign rfl) rfl (J_done ?_)
    refine S_ret (E_done1 rfl rfl E ?_)
    exact bf fun h => lk_i1 h hc1
  · refine S_skip ?_
    refine S_seq ?_
    refine S_seq ?_
    refine S_reg [true, true, false, true, true, true, true, true, true, true, true, true, true, true, true, true, true, true, true, true] rfl rfl ?_
    refine J_st (R_fieldAddr0 fl60_4 rfl) rfl (J_st (R_load sc3 rfl (h1.one 4 rfl)) rfl ?_)
    refine J_call Try.call28 rfl (c_within x.sent 0 1000000000 _ ) rfl (fun _ w6 e5 hv => ?_)
    subst hv
    replace E := E.trans e5; replace h1 := h1.ext e5
    have z6 := e5.size
    refine J_st (R_not rfl) rfl (J_st (R_move rfl) rfl ?_)
    refine J_cut 15 [(0, .agg [.int .i64 x.cap, o1, .int .i64 x.credits, .int .i64 x.back, .int .i64 x.sent, .int .i64 x.got].toArray), (1, .pointer (some ⟨b1, 0, none⟩)), (2, .bool false), (36, .bool ((((!(win x.cap 1 4)) || (!(win x.credits 0 x.cap))) || (!(win x.back 0 x.cap))) || ((IntKind.i64.wrap ((IntKind.i64.wrap (x.credits + x.back)) + ((x.queue.length : Nat) : Int))) != x.cap))), (56, .bool (((!(win x.sent 0 1000000000)) || (decide (x.got < 0))) || ((IntKind.i64.wrap (x.sent - x.got)) != ((x.queue.length : Nat) : Int))))] (fun w' => w6 = w') ?_ ?_
    · refine J_if (gd := 41) rfl rfl (fun hg4 => ?_) (fun hg4 => ?_)
      · refine J_gdno rfl rfl rfl rfl (J_gdno rfl rfl rfl rfl (J_gdno rfl rfl rfl rfl (J_st (R_pickT rfl rfl) rfl (J_st (R_move rfl) rfl (J_gdno rfl rfl rfl rfl (J_gdno rfl rfl rfl rfl (J_gdno rfl rfl rfl rfl (J_gdno rfl rfl rfl rfl (J_gdno rfl rfl rfl rfl (J_gdno rfl rfl rfl rfl (J_gdno rfl rfl rfl rfl (J_gdno rfl rfl rfl rfl (J_gdno rfl rfl rfl rfl (J_st (R_pickT rfl rfl) rfl (J_cutEnd ⟨rfl, rfl, rfl, rfl, congrArg (fun b => some (Value.bool b)) (show true = (((!(win x.sent 0 1000000000)) || (decide (x.got < 0))) || ((IntKind.i64.wrap (x.sent - x.got)) != ((x.queue.length : Nat) : Int))) by first | (rw [hg4] <;> rfl) | (simp [hg4]; done) | (simp only [nat_nlt] <;> simp)), trivial⟩ rfl)))))))))))))))
      · refine J_gd rfl rfl (R_fieldAddr0 fl60_5 rfl) rfl (J_gd rfl rfl (R_load sc3 rfl (h1.one 5 rfl)) rfl (J_gd rfl rfl (R_lss rfl rfl) rfl (J_st (R_pickF rfl rfl) rfl (J_st (R_move rfl) rfl ?_))))
        refine J_if (gd := 46) rfl rfl (fun hg5 => ?_) (fun hg5 => ?_)
        · refine J_gdno rfl rfl rfl rfl (J_gdno rfl rfl rfl rfl (J_gdno rfl rfl rfl rfl (J_gdno rfl rfl rfl rfl (J_gdno rfl rfl rfl rfl (J_gdno rfl rfl rfl rfl (J_gdno rfl rfl rfl rfl (J_gdno rfl rfl rfl rfl (J_gdno rfl rfl rfl rfl (J_st (R_pickT rfl rfl) rfl (J_cutEnd ⟨rfl, rfl, rfl, rfl, congrArg (fun b => some (Value.bool b)) (show true = (((!(win x.sent 0 1000000000)) || (decide (x.got < 0))) || ((IntKind.i64.wrap (x.sent - x.got)) != ((x.queue.length : Nat) : Int))) by first | (rw [hg4, hg5] <;> rfl) | (simp [hg4, hg5]; done) | (simp only [nat_nlt] <;> simp)), trivial⟩ rfl))))))))))
        · refine J_gd rfl rfl (R_fieldAddr0 fl60_4 rfl) rfl (J_gd rfl rfl (R_load sc3 rfl (h1.one 4 rfl)) rfl (J_gd rfl rfl (R_fieldAddr0 fl60_5 rfl) rfl (J_gd rfl rfl (R_load sc3 rfl (h1.one 5 rfl)) rfl (J_gd rfl rfl (R_sub rfl rfl rfl) rfl (J_gd rfl rfl (R_fieldAddr0 fl60_1 rfl) rfl (J_gd rfl rfl (R_load sc52 rfl (h1.one 1 rfl)) rfl (J_gd rfl rfl (R_len Try.underlying52 rfl (hd1.ext E).len) rfl (J_gd rfl rfl (R_neq rfl rfl) rfl (J_st (R_pickF rfl rfl) rfl (J_cutEnd ⟨rfl, rfl, rfl, rfl, congrArg (fun b => some (Value.bool b)) (show ((IntKind.i64.wrap (x.sent - x.got)) != ((x.queue.length : Nat) : Int)) = (((!(win x.sent 0 1000000000)) || (decide (x.got < 0))) || ((IntKind.i64.wrap (x.sent - x.got)) != ((x.queue.length : Nat) : Int))) by first | (rw [hg4, hg5] <;> rfl) | (simp [hg4, hg5]; done) | (simp only [nat_nlt] <;> simp)), trivial⟩ rfl))))))))))
    rintro _ rfl
    refine J_done ?_
    refine S_cond rfl (fun hc2 => ?_) (fun hc2 => ?_)
    · refine S_seq ?_
      refine S_reg [true] rfl rfl ?_
      refine J_st (R_assign rfl) rfl (J_done ?_)
      refine S_ret (E_done1 rfl rfl E ?_)
      exact bf fun h => lk_i2 hr h hc2
    · refine S_skip ?_
      refine S_seq ?_
      refine S_reg [true, true, false, true] rfl rfl ?_
      refine J_st (R_fieldAddr0 fl60_1 rfl) rfl (J_st (R_load sc52 rfl (h1.one 1 rfl)) rfl ?_)
      refine J_call Try.call48 rfl (c_allRecordsOk o1 x.queue _ (hd1.rd.ext E)) rfl (fun _ w8 e6 hv => ?_)
      subst hv
      replace E := E.trans e6; replace h1 := h1.ext e6
      have z7 := e6.size
      refine J_st (R_assign rfl) rfl (J_done ?_)
      refine S_ret (E_done1 rfl rfl E ?_)
      exact congrArg Value.bool (lk_i3 hr hc1 hc2).symm

set_option maxRecDepth 20000 in
theorem s_LinkOk (cx : List Value) (x : Link) (w : World) (hx : Dat.R w 0 w.heap.size cx x) : Ct Try.prog 16 [.agg cx.toArray] w (fun v _ => v = .bool (linkOk x)) := by
  refine ct_of Try.func16 rfl Try.ntmps16 rfl ?_
  obtain ⟨o1, rfl, hd1⟩ := Link.op hx
  refine S_sub [(0, .agg [.int .i64 x.cap, o1, .int .i64 x.credits, .int .i64 x.back, .int .i64 x.sent, .int .i64 x.got].toArray)] ⟨rfl, trivial⟩ ?_
  have E : Ext w w := Ext.refl w
  refine S_seq ?_
  refine S_reg [false, true] rfl rfl ?_
  refine J_box rfl rfl (fun b1 w1 e1 s1 h1 => ?_)
  have g_b1 : w.heap.size ≤ b1 := by have := E.size; omega
  have y_b1 := h1.lt
  replace E := E.trans e1
  have z1 := e1.size
  refine J_st (R_assign rfl) rfl (J_done ?_)
  refine S_seq ?_
  refine S_seq ?_
  refine S_reg [true] rfl rfl ?_
  refine J_st (R_assign rfl) rfl (J_done ?_)
  refine S_block ?_
  refine S_loop (fun (k : Nat) => [(1, .pointer (some ⟨b1, 0, none⟩)), (2, .bool false), (3, .int .i64 ((k : Nat) : Int))]) (fun (k : Nat) w' => Ext w w' ∧ w1.heap.size ≤ w'.heap.size ∧ Blk w' b1 ([.int .i64 x.cap, o1, .int .i64 x.credits, .int .i64 x.back, .int .i64 x.sent, .int .i64 x.got]) ∧ k ≤ x.queue.length ∧ (x.queue.take k).all recordOk = true) (fun (k : Nat) => x.queue.length - k) 0 ⟨rfl, rfl, rfl, trivial⟩ ⟨E, Nat.le_refl _, h1, Nat.zero_le _, rfl⟩ ?_
  clear E h1
  rintro k w2 ⟨E, z2, h1, hk, hI⟩
  refine S_seq ?_
  refine S_seq ?_
  refine S_reg [true, true, true, true, true] rfl rfl ?_
  refine J_st (R_move rfl) rfl (J_st (R_fieldAddr0 fl60_1 rfl) rfl (J_st (R_load sc52 rfl (h1.one 1 rfl)) rfl (J_st (R_len Try.underlying52 rfl (hd1.ext E).len) rfl (J_st (R_lss rfl rfl) rfl (J_done ?_)))))
  refine S_cond rfl (fun hc1 => ?_) (fun hc1 => ?_)
  · have hc1n : k < x.queue.length := by first | (have h := of_decide_eq_true hc1; omega) | (have h := hc1; simp at h; omega)
    refine S_skip ?_
    refine S_seq ?_
    refine S_block ?_
    refine S_seq ?_
    refine S_reg [true, true, true, true, true, false, true] rfl rfl ?_
    refine J_st (R_fieldAddr0 fl60_1 rfl) rfl (J_st (R_load sc52 rfl (h1.one 1 rfl)) rfl (J_st (R_move rfl) rfl ?_))
    have hi1 : k < x.queue.length := (by first | assumption | omega)
    refine J_st (R_index (i := k) sl52 rfl rfl (hd1.rd.ext E) hi1) rfl (J_st (R_loadS st95 rfl ((hd1.rd.ext E).get hi1) rfl) rfl ?_)
    refine J_call Try.call39 rfl (s_RecordOk (x.queue[k]'hi1) _ ) rfl (fun _ w3 e2 hv => ?_)
    subst hv
    replace E := E.trans e2; replace h1 := h1.ext e2
    have z3 := e2.size
    refine J_st (R_not rfl) rfl (J_done ?_)
    refine S_cond rfl (fun hc2 => ?_) (fun hc2 => ?_)
    · refine S_seq ?_
      refine S_reg [true] rfl rfl ?_
      refine J_st (R_assign rfl) rfl (J_done ?_)
      refine S_ret (E_inB_ret (E_lp_ret (E_inB_ret (E_done1 rfl rfl E ?_))))
      exact bf fun h => lk_s1 (by assumption) h hc2
    · refine S_skip ?_
      refine S_nil (E_inB ?_)
      refine S_reg [true, true, true] rfl rfl ?_
      refine J_st (R_move rfl) rfl (J_st (R_add rfl rfl (add_one hc1n (hd1.ext E).1.1)) rfl (J_st (R_assign rfl) rfl (J_done ?_)))
      refine S_nil (E_again (k + 1) (by omega) ⟨rfl, rfl, rfl, trivial⟩ ⟨E, (by omega), h1, (by omega), all_step hI (by assumption) (by simpa using hc2)⟩)
  · have hc1n : ¬ k < x.queue.length := by first | (have h := of_decide_eq_false hc1; omega) | (have h := hc1; simp at h; omega)
    refine S_exit (E_lp_exit (E_inB_exit ?_))
    refine S_seq ?_
    refine S_reg [true, true, false, true, true, true, true, true, false, true, true, true, true, true, true, false, true, true, true, true, true, true, true, true, true, true, true, true, true, true, true, true, true, true, false, true, true, true, true, true, true, true, true, true, true, true, true, true, true, true, true, true, true] rfl rfl ?_
    refine J_st (R_fieldAddr0 fl60_0 rfl) rfl (J_st (R_load sc3 rfl (h1.one 0 rfl)) rfl ?_)
    refine J_call Try.call18 rfl (s_l01In x.cap 1 4 _ ) rfl (fun _ w4 e3 hv => ?_)
    subst hv
    replace E := E.trans e3; replace h1 := h1.ext e3
    have z4 := e3.size
    refine J_st (R_move rfl) rfl ?_
    refine J_cut 48 [(1, .pointer (some ⟨b1, 0, none⟩)), (2, .bool false), (3, .int .i64 ((k : Nat) : Int)), (4, .int .i64 ((k : Nat) : Int)), (5, .pointer (some ⟨b1, 1, none⟩)), (6, o1), (7, .int .i64 ((x.queue.length : Nat) : Int)), (8, .bool (decide (((k : Nat) : Int) < ((x.queue.length : Nat) : Int)))), (69, .bool (((((((win x.cap 1 4) && (win x.credits 0 x.cap)) && (win x.back 0 x.cap)) && ((IntKind.i64.wrap ((IntKind.i64.wrap (x.credits + x.back)) + ((x.queue.length : Nat) : Int))) == x.cap)) && (win x.sent 0 1000000000)) && (x.got == (IntKind.i64.wrap (x.sent - ((x.queue.length : Nat) : Int))))) && (decide (0 ≤ x.got))))] (fun w' => Ext w w' ∧ w4.heap.size ≤ w'.heap.size ∧ Blk w' b1 ([.int .i64 x.cap, o1, .int .i64 x.credits, .int .i64 x.back, .int .i64 x.sent, .int .i64 x.got])) ?_ ?_
    · refine J_if (gd := 21) rfl rfl (fun hg1 => ?_) (fun hg1 => ?_)
      · refine J_gd rfl rfl (R_fieldAddr0 fl60_2 rfl) rfl (J_gd rfl rfl (R_load sc3 rfl (h1.one 2 rfl)) rfl (J_gd rfl rfl (R_fieldAddr0 fl60_0 rfl) rfl (J_gd rfl rfl (R_load sc3 rfl (h1.one 0 rfl)) rfl ?_)))
        refine J_ung rfl rfl ?_
        refine J_call Try.call18 rfl (s_l01In x.credits 0 x.cap _ ) rfl (fun _ w6 e4 hv => ?_)
        subst hv
        replace E := E.trans e4; replace h1 := h1.ext e4
        have z5 := e4.size
        refine J_st (R_pickT rfl rfl) rfl (J_st (R_move rfl) rfl ?_)
        refine J_if (gd := 28) rfl rfl (fun hg2 => ?_) (fun hg2 => ?_)
        · refine J_gd rfl rfl (R_fieldAddr0 fl60_3 rfl) rfl (J_gd rfl rfl (R_load sc3 rfl (h1.one 3 rfl)) rfl (J_gd rfl rfl (R_fieldAddr0 fl60_0 rfl) rfl (J_gd rfl rfl (R_load sc3 rfl (h1.one 0 rfl)) rfl ?_)))
          refine J_ung rfl rfl ?_
          refine J_call Try.call18 rfl (s_l01In x.back 0 x.cap _ ) rfl (fun _ w7 e5 hv => ?_)
          subst hv
          replace E := E.trans e5; replace h1 := h1.ext e5
          have z6 := e5.size
          refine J_st (R_pickT rfl rfl) rfl (J_st (R_move rfl) rfl ?_)
          refine J_if (gd := 35) rfl rfl (fun hg3 => ?_) (fun hg3 => ?_)
          · refine J_gd rfl rfl (R_fieldAddr0 fl60_2 rfl) rfl (J_gd rfl rfl (R_load sc3 rfl (h1.one 2 rfl)) rfl (J_gd rfl rfl (R_fieldAddr0 fl60_3 rfl) rfl (J_gd rfl rfl (R_load sc3 rfl (h1.one 3 rfl)) rfl (J_gd rfl rfl (R_add rfl rfl rfl) rfl (J_gd rfl rfl (R_fieldAddr0 fl60_1 rfl) rfl (J_gd rfl rfl (R_load sc52 rfl (h1.one 1 rfl)) rfl (J_gd rfl rfl (R_len Try.underlying52 rfl (hd1.ext E).len) rfl (J_gd rfl rfl (R_add rfl rfl rfl) rfl (J_gd rfl rfl (R_fieldAddr0 fl60_0 rfl) rfl (J_gd rfl rfl (R_load sc3 rfl (h1.one 0 rfl)) rfl (J_gd rfl rfl (R_eql rfl rfl) rfl (J_st (R_pickT rfl rfl) rfl (J_st (R_move rfl) rfl ?_)))))))))))))
            refine J_if (gd := 49) rfl rfl (fun hg4 => ?_) (fun hg4 => ?_)
            · refine J_gd rfl rfl (R_fieldAddr0 fl60_4 rfl) rfl (J_gd rfl rfl (R_load sc3 rfl (h1.one 4 rfl)) rfl ?_)
              refine J_ung rfl rfl ?_
              refine J_call Try.call18 rfl (s_l01In x.sent 0 1000000000 _ ) rfl (fun _ w8 e6 hv => ?_)
              subst hv
              replace E := E.trans e6; replace h1 := h1.ext e6
              have z7 := e6.size
              refine J_st (R_pickT rfl rfl) rfl (J_st (R_move rfl) rfl ?_)
              refine J_if (gd := 54) rfl rfl (fun hg5 => ?_) (fun hg5 => ?_)
              · refine J_gd rfl rfl (R_fieldAddr0 fl60_5 rfl) rfl (J_gd rfl rfl (R_load sc3 rfl (h1.one 5 rfl)) rfl (J_gd rfl rfl (R_fieldAddr0 fl60_4 rfl) rfl (J_gd rfl rfl (R_load sc3 rfl (h1.one 4 rfl)) rfl (J_gd rfl rfl (R_fieldAddr0 fl60_1 rfl) rfl (J_gd rfl rfl (R_load sc52 rfl (h1.one 1 rfl)) rfl (J_gd rfl rfl (R_len Try.underlying52 rfl (hd1.ext E).len) rfl (J_gd rfl rfl (R_sub rfl rfl rfl) rfl (J_gd rfl rfl (R_eql rfl rfl) rfl (J_st (R_pickT rfl rfl) rfl (J_st (R_move rfl) rfl ?_))))))))))
                refine J_if (gd := 65) rfl rfl (fun hg6 => ?_) (fun hg6 => ?_)
                · refine J_gd rfl rfl (R_fieldAddr0 fl60_5 rfl) rfl (J_gd rfl rfl (R_load sc3 rfl (h1.one 5 rfl)) rfl (J_gd rfl rfl (R_geq rfl rfl) rfl (J_st (R_pickT rfl rfl) rfl (J_cutEnd ⟨rfl, rfl, rfl, rfl, rfl, rfl, rfl, rfl, congrArg (fun b => some (Value.bool b)) (show (decide (0 ≤ x.got)) = (((((((win x.cap 1 4) && (win x.credits 0 x.cap)) && (win x.back 0 x.cap)) && ((IntKind.i64.wrap ((IntKind.i64.wrap (x.credits + x.back)) + ((x.queue.length : Nat) : Int))) == x.cap)) && (win x.sent 0 1000000000)) && (x.got == (IntKind.i64.wrap (x.sent - ((x.queue.length : Nat) : Int))))) && (decide (0 ≤ x.got))) by first | (rw [hg1, hg2, hg3, hg4, hg5, hg6] <;> rfl) | (simp [hg1, hg2, hg3, hg4, hg5, hg6]; done) | (simp only [nat_nlt] <;> simp)), trivial⟩ ⟨E, (by omega), h1⟩))))
                · refine J_gdno rfl rfl rfl rfl (J_gdno rfl rfl rfl rfl (J_gdno rfl rfl rfl rfl (J_st (R_pickF rfl rfl) rfl (J_cutEnd ⟨rfl, rfl, rfl, rfl, rfl, rfl, rfl, rfl, congrArg (fun b => some (Value.bool b)) (show false = (((((((win x.cap 1 4) && (win x.credits 0 x.cap)) && (win x.back 0 x.cap)) && ((IntKind.i64.wrap ((IntKind.i64.wrap (x.credits + x.back)) + ((x.queue.length : Nat) : Int))) == x.cap)) && (win x.sent 0 1000000000)) && (x.got == (IntKind.i64.wrap (x.sent - ((x.queue.length : Nat) : Int))))) && (decide (0 ≤ x.got))) by first | (rw [hg1, hg2, hg3, hg4, hg5, hg6] <;> rfl) | (simp [hg1, hg2, hg3, hg4, hg5, hg6]; done) | (simp only [nat_nlt] <;> simp)), trivial⟩ ⟨E, (by omega), h1⟩))))
              · refine J_gdno rfl rfl rfl rfl (J_gdno rfl rfl rfl rfl (J_gdno rfl rfl rfl rfl (J_gdno rfl rfl rfl rfl (J_gdno rfl rfl rfl rfl (J_gdno rfl rfl rfl rfl (J_gdno rfl rfl rfl rfl (J_gdno rfl rfl rfl rfl (J_gdno rfl rfl rfl rfl (J_st (R_pickF rfl rfl) rfl (J_st (R_move rfl) rfl (J_gdno rfl rfl rfl rfl (J_gdno rfl rfl rfl rfl (J_gdno rfl rfl rfl rfl (J_st (R_pickF rfl rfl) rfl (J_cutEnd ⟨rfl, rfl, rfl, rfl, rfl, rfl, rfl, rfl, congrArg (fun b => some (Value.bool b)) (show false = (((((((win x.cap 1 4) && (win x.credits 0 x.cap)) && (win x.back 0 x.cap)) && ((IntKind.i64.wrap ((IntKind.i64.wrap (x.credits + x.back)) + ((x.queue.length : Nat) : Int))) == x.cap)) && (win x.sent 0 1000000000)) && (x.got == (IntKind.i64.wrap (x.sent - ((x.queue.length : Nat) : Int))))) && (decide (0 ≤ x.got))) by first | (rw [hg1, hg2, hg3, hg4, hg5] <;> rfl) | (simp [hg1, hg2, hg3, hg4, hg5]; done) | (simp only [nat_nlt] <;> simp)), trivial⟩ ⟨E, (by omega), h1⟩)))))))))))))))
            · refine J_gdno rfl rfl rfl rfl (J_gdno rfl rfl rfl rfl ?_)
              refine J_ungno rfl rfl rfl rfl ?_
              refine J_st (R_pickF rfl rfl) rfl (J_st (R_move rfl) rfl (J_gdno rfl rfl rfl rfl (J_gdno rfl rfl rfl rfl (J_gdno rfl rfl rfl rfl (J_gdno rfl rfl rfl rfl (J_gdno rfl rfl rfl rfl (J_gdno rfl rfl rfl rfl (J_gdno rfl rfl rfl rfl (J_gdno rfl rfl rfl rfl (J_gdno rfl rfl rfl rfl (J_st (R_pickF rfl rfl) rfl (J_st (R_move rfl) rfl (J_gdno rfl rfl rfl rfl (J_gdno rfl rfl rfl rfl (J_gdno rfl rfl rfl rfl (J_st (R_pickF rfl rfl) rfl (J_cutEnd ⟨rfl, rfl, rfl, rfl, rfl, rfl, rfl, rfl, congrArg (fun b => some (Value.bool b)) (show false = (((((((win x.cap 1 4) && (win x.credits 0 x.cap)) && (win x.back 0 x.cap)) && ((IntKind.i64.wrap ((IntKind.i64.wrap (x.credits + x.back)) + ((x.queue.length : Nat) : Int))) == x.cap)) && (win x.sent 0 1000000000)) && (x.got == (IntKind.i64.wrap (x.sent - ((x.queue.length : Nat) : Int))))) && (decide (0 ≤ x.got))) by first | (rw [hg1, hg2, hg3, hg4] <;> rfl) | (simp [hg1, hg2, hg3, hg4]; done) | (simp only [nat_nlt] <;> simp)), trivial⟩ ⟨E, (by omega), h1⟩)))))))))))))))))
          · refine J_gdno rfl rfl rfl rfl (J_gdno rfl rfl rfl rfl (J_gdno rfl rfl rfl rfl (J_gdno rfl rfl rfl rfl (J_gdno rfl rfl rfl rfl (J_gdno rfl rfl rfl rfl (J_gdno rfl rfl rfl rfl (J_gdno rfl rfl rfl rfl (J_gdno rfl rfl rfl rfl (J_gdno rfl rfl rfl rfl (J_gdno rfl rfl rfl rfl (J_gdno rfl rfl rfl rfl (J_st (R_pickF rfl rfl) rfl (J_st (R_move rfl) rfl (J_gdno rfl rfl rfl rfl (J_gdno rfl rfl rfl rfl ?_)))))))))))))))
            refine J_ungno rfl rfl rfl rfl ?_
            refine J_st (R_pickF rfl rfl) rfl (J_st (R_move rfl) rfl (J_gdno rfl rfl rfl rfl (J_gdno rfl rfl rfl rfl (J_gdno rfl rfl rfl rfl (J_gdno rfl rfl rfl rfl (J_gdno rfl rfl rfl rfl (J_gdno rfl rfl rfl rfl (J_gdno rfl rfl rfl rfl (J_gdno rfl rfl rfl rfl (J_gdno rfl rfl rfl rfl (J_st (R_pickF rfl rfl) rfl (J_st (R_move rfl) rfl (J_gdno rfl rfl rfl rfl (J_gdno rfl rfl rfl rfl (J_gdno rfl rfl rfl rfl (J_st (R_pickF rfl rfl) rfl (J_cutEnd ⟨rfl, rfl, rfl, rfl, rfl, rfl, rfl, rfl, congrArg (fun b => some (Value.bool b)) (show false = (((((((win x.cap 1 4) && (win x.credits 0 x.cap)) && (win x.back 0 x.cap)) && ((IntKind.i64.wrap ((IntKind.i64.wrap (x.credits + x.back)) + ((x.queue.length : Nat) : Int))) == x.cap)) && (win x.sent 0 1000000000)) && (x.got == (IntKind.i64.wrap (x.sent - ((x.queue.length : Nat) : Int))))) && (decide (0 ≤ x.got))) by first | (rw [hg1, hg2, hg3] <;> rfl) | (simp [hg1, hg2, hg3]; done) | (simp only [nat_nlt] <;> simp)), trivial⟩ ⟨E, (by omega), h1⟩)))))))))))))))))
        · refine J_gdno rfl rfl rfl rfl (J_gdno rfl rfl rfl rfl (J_gdno rfl rfl rfl rfl (J_gdno rfl rfl rfl rfl ?_)))
          refine J_ungno rfl rfl rfl rfl ?_
          refine J_st (R_pickF rfl rfl) rfl (J_st (R_move rfl) rfl (J_gdno rfl rfl rfl rfl (J_gdno rfl rfl rfl rfl (J_gdno rfl rfl rfl rfl (J_gdno rfl rfl rfl rfl (J_gdno rfl rfl rfl rfl (J_gdno rfl rfl rfl rfl (J_gdno rfl rfl rfl rfl (J_gdno rfl rfl rfl rfl (J_gdno rfl rfl rfl rfl (J_gdno rfl rfl rfl rfl (J_gdno rfl rfl rfl rfl (J_gdno rfl rfl rfl rfl (J_st (R_pickF rfl rfl) rfl (J_st (R_move rfl) rfl (J_gdno rfl rfl rfl rfl (J_gdno rfl rfl rfl rfl ?_)))))))))))))))))
          refine J_ungno rfl rfl rfl rfl ?_
          refine J_st (R_pickF rfl rfl) rfl (J_st (R_move rfl) rfl (J_gdno rfl rfl rfl rfl (J_gdno rfl rfl rfl rfl (J_gdno rfl rfl rfl rfl (J_gdno rfl rfl rfl rfl (J_gdno rfl rfl rfl rfl (J_gdno rfl rfl rfl rfl (J_gdno rfl rfl rfl rfl (J_gdno rfl rfl rfl rfl (J_gdno rfl rfl rfl rfl (J_st (R_pickF rfl rfl) rfl (J_st (R_move rfl) rfl (J_gdno rfl rfl rfl rfl (J_gdno rfl rfl rfl rfl (J_gdno rfl rfl rfl rfl (J_st (R_pickF rfl rfl) rfl (J_cutEnd ⟨rfl, rfl, rfl, rfl, rfl, rfl, rfl, rfl, congrArg (fun b => some (Value.bool b)) (show false = (((((((win x.cap 1 4) && (win x.credits 0 x.cap)) && (win x.back 0 x.cap)) && ((IntKind.i64.wrap ((IntKind.i64.wrap (x.credits + x.back)) + ((x.queue.length : Nat) : Int))) == x.cap)) && (win x.sent 0 1000000000)) && (x.got == (IntKind.i64.wrap (x.sent - ((x.queue.length : Nat) : Int))))) && (decide (0 ≤ x.got))) by first | (rw [hg1, hg2] <;> rfl) | (simp [hg1, hg2]; done) | (simp only [nat_nlt] <;> simp)), trivial⟩ ⟨E, (by omega), h1⟩)))))))))))))))))
      · refine J_gdno rfl rfl rfl rfl (J_gdno rfl rfl rfl rfl (J_gdno rfl rfl rfl rfl (J_gdno rfl rfl rfl rfl ?_)))
        refine J_ungno rfl rfl rfl rfl ?_
        refine J_st (R_pickF rfl rfl) rfl (J_st (R_move rfl) rfl (J_gdno rfl rfl rfl rfl (J_gdno rfl rfl rfl rfl (J_gdno rfl rfl rfl rfl (J_gdno rfl rfl rfl rfl ?_)))))
        refine J_ungno rfl rfl rfl rfl ?_
        refine J_st (R_pickF rfl rfl) rfl (J_st (R_move rfl) rfl (J_gdno rfl rfl rfl rfl (J_gdno rfl rfl rfl rfl (J_gdno rfl rfl rfl rfl (J_gdno rfl rfl rfl rfl (J_gdno rfl rfl rfl rfl (J_gdno rfl rfl rfl rfl (J_gdno rfl rfl rfl rfl (J_gdno rfl rfl rfl rfl (J_gdno rfl rfl rfl rfl (J_gdno rfl rfl rfl rfl (J_gdno rfl rfl rfl rfl (J_gdno rfl rfl rfl rfl (J_st (R_pickF rfl rfl) rfl (J_st (R_move rfl) rfl (J_gdno rfl rfl rfl rfl (J_gdno rfl rfl rfl rfl ?_)))))))))))))))))
        refine J_ungno rfl rfl rfl rfl ?_
        refine J_st (R_pickF rfl rfl) rfl (J_st (R_move rfl) rfl (J_gdno rfl rfl rfl rfl (J_gdno rfl rfl rfl rfl (J_gdno rfl rfl rfl rfl (J_gdno rfl rfl rfl rfl (J_gdno rfl rfl rfl rfl (J_gdno rfl rfl rfl rfl (J_gdno rfl rfl rfl rfl (J_gdno rfl rfl rfl rfl (J_gdno rfl rfl rfl rfl (J_st (R_pickF rfl rfl) rfl (J_st (R_move rfl) rfl (J_gdno rfl rfl rfl rfl (J_gdno rfl rfl rfl rfl (J_gdno rfl rfl rfl rfl (J_st (R_pickF rfl rfl) rfl (J_cutEnd ⟨rfl, rfl, rfl, rfl, rfl, rfl, rfl, rfl, congrArg (fun b => some (Value.bool b)) (show false = (((((((win x.cap 1 4) && (win x.credits 0 x.cap)) && (win x.back 0 x.cap)) && ((IntKind.i64.wrap ((IntKind.i64.wrap (x.credits + x.back)) + ((x.queue.length : Nat) : Int))) == x.cap)) && (win x.sent 0 1000000000)) && (x.got == (IntKind.i64.wrap (x.sent - ((x.queue.length : Nat) : Int))))) && (decide (0 ≤ x.got))) by first | (rw [hg1] <;> rfl) | (simp [hg1]; done) | (simp only [nat_nlt] <;> simp)), trivial⟩ ⟨E, (by omega), h1⟩)))))))))))))))))
    clear E h1
    rintro w5 ⟨E, z8, h1⟩
    refine J_st (R_assign rfl) rfl (J_done ?_)
    refine S_ret (E_done1 rfl rfl E ?_)
    exact congrArg Value.bool (lk_s2 hd1.1.1 (all_end hI (by omega))).symm

end Go.Proofs.Ytgafkiapefdkdaa
